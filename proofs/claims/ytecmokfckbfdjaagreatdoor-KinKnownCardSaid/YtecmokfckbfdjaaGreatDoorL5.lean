/- The library of this proof, part 5: a program logic, an executor with its soundness, a theorem on goroutines. -/
import Derived.Test.YtecmokfckbfdjaaGreatDoorL4
set_option linter.all false
namespace Go.L
open Go Go.Conc
open Go.ConcR (KK wgBlock WgAt stA smA rd wr)

theorem rep_all {k W : Nat} : ∀ b ∈ List.replicate k W, b = W := fun b hb => (List.mem_replicate.1 hb).2

section
variable {ios : Os} {iout : Array (Nat × ByteArray)} {P : Program} {T : Goroutine → St → Prop} {b : Frame} {k : List Item} {cs : List Frame} {a : Act} {s : St} {n LF : Nat} {call : CallT} {ops : Array Oper}
  {ρ : Ren} {ce e : Env} {m : Mem} {x : EachP} {Wg Ch : Nat} {L : Nat → Option Obj} {Q : Machine → Outcome → World → Trace → Prop}

/-- a go statement's step -/
theorem go_step {main : Bool} {i : Nat} {rest : List Nat} {o : Oper} (ho : ops[i]? = some o) (hg : o.guard = none) (hk : b.kind ≠ .early) (hb : b.roundOf = none) {y : Operand} {ats : Array TypeId} (hop : o.op = .go ⟨.value y, #[], ats⟩) {f : FuncId} {ca : Array Value} (hy : a.eval y = .func (.func f) #[] ca) (w : World) :
    stepG P main (G (fat b a (.inRegion ops (i :: rest) :: k)) cs) w = .spawn (G (fat b (a.put o.dst undef) (.inRegion ops rest :: k)) cs) (born P { target := .fn (.func f) ca, args := #[] }) w #[] := by
  have hw : Region.wanted o (yielded ops a.tmps) = true := wanted_none o _ hg
  have hx : execOp a.eval o = Sem.pure (.spawn { target := .fn (.func f) ca, args := #[] }) := by
    simp only [execOp, hop, resolve, hy, Deferred.ofValue]
    show Sem.pure (Next.spawn { target := .fn (.func f) ca, args := #[] ++ Array.map a.eval #[] }) = _
    simp
  rw [fat_at hb, fat_at hb]
  have := stepG_spawn (P := P) (main := main) (b := b) (a := a) (k := k) (cs := cs) (w := w) (w' := w) (d := { target := .fn (.func f) ca, args := #[] }) ho hw hk (rest := rest) (by rw [hx]; rfl) rfl
  rw [this, listed_none (by rw [hx]; rfl)]

/-- Main's knowledge in a crowd: nothing is owned but what the executor's memory holds. -/
theorem tm_mono {pend : Nat} {os : List Own} {E : Crew Own} (h : TM E L Q pend false os 0 (G (fat b a k) cs) s.freeze) : TM E L Q pend false os 0 (G (fat b a k) cs) s :=
  ⟨TC.mono s.freeze_le h.1, fun e => (by cases e)⟩

theorem tm_tc {E : Crew Own} {pend d : Nat} {bb : Bool} {os : List Own} {g : Goroutine} (h : TM E L Q pend bb os d g s) : TC E L Q pend bb os d g s := h.1

theorem spawn_ok (hx : x.OK P) (hm : P.follows .mixedOrders = true) (hcall : CallOK (CA P) P call) {w ch : Nat} {b0' : Frame} (hbk : b.kind ≠ .early) (hbr : b.roundOf = none) {kout : List Item} {RK0 : Nat → Option Obj} :
    ∀ (fuel : Nat) {os os' : List Own} {ce ce' e : Env} {m m' : Mem} {ρ : Ren} {s : St} {c1 c2 : Nat}, spawnX P x LF call w ch fuel os ce m = some (os', ce', m') → ER ρ ce e → Rel P ρ m (fun _ => False) s.ro s → ρ w = some (Wg, c1) → ρ ch = some (Ch, c2) → (∀ q o, RK0 q = some o → s.ro q = some o) →
    (∀ ρ' e' s', Grow ρ m ρ' m' → ER ρ' ce' e' → Rel P ρ' m' (fun _ => False) s'.ro s' → (∀ q o, RK0 q = some o → s'.ro q = some o) → TM (crewOf P x.ty Wg Ch x.mx ios iout) L Q 0 false os' 0 (G (fat b (A x.n e' []) kout) cs) s') →
    TM (crewOf P x.ty Wg Ch x.mx ios iout) L Q 0 false os 0 (G (fat b (A x.n e []) (.code x.lb :: .inLoop x.lb :: .inBlock x.b0 :: kout)) cs) s
  | 0, os, os', ce, ce', e, m, m', ρ, s, c1, c2, h, _, _, _, _, _, _ => by cases h
  | fuel + 1, os, os', ce, ce', e, m, m', ρ, s, c1, c2, h, he, hr, hw, hch, hkeep, hgo => by
    have hT : Closed P true (TM (crewOf P x.ty Wg Ch x.mx ios iout) L Q 0 false os 0) := tm_closed (E := crewOf P x.ty Wg Ch x.mx ios iout) false os (fun e => (by cases e))
    have hT1 : Closed P true (TM (crewOf P x.ty Wg Ch x.mx ios iout) L Q 1 false os 0) := tm_closed (E := crewOf P x.ty Wg Ch x.mx ios iout) false os (fun e => (by cases e))
    obtain ⟨i4, i8, hlb⟩ := hx.lb
    obtain ⟨i5, i6, i7, hlbody⟩ := hx.lbody
    simp only [spawnX] at h
    split at h <;> try (cases h; done)
    rename_i ce1 m1 h1
    refine on_region (l := [x.lb]) (k := .inLoop x.lb :: .inBlock x.b0 :: kout) hT (by simpa [flatL] using hlb) fun l1 hl1 => ?_
    refine run_ops hT hcall (runDone_eq h1) he hr hbk hbr fun ρ1 e1 s1 g1 he1 hr1 => ?_
    have hr1' : Rel P ρ1 m1 (fun _ => False) s1.ro s1 := by rw [hr1.ro]; exact hr1
    have hkeep1 : ∀ q o, RK0 q = some o → s1.ro q = some o := fun q o hq => by rw [hr1.ro]; exact hkeep q o hq
    split at h <;> try (cases h; done)
    · rename_i hc
      simp only [Option.some.injEq, Prod.mk.injEq] at h
      obtain ⟨rfl, rfl, rfl⟩ := h
      obtain ⟨t', k1, k2⟩ := he1.evc hc
      cases k2
      refine on_cond hT hl1 (t := false) (by rw [A_eval]; exact ev_of k1) fun l2 hl2 => ?_
      refine do_exit hT (k' := kout) ?_ (hgo ρ1 e1 s1 g1 he1 hr1' hkeep1)
      rw [exit_codes]
      simp [exitTo]
    · rename_i hc
      obtain ⟨t', k1, k2⟩ := he1.evc hc
      cases k2
      refine on_cond hT hl1 (t := true) (by rw [A_eval]; exact ev_of k1) fun l2 hl2 => ?_
      refine do_skip hT ?_
      cases hlt : Nat.blt os.length x.mx with
      | false => rw [hlt] at h; cases h
      | true =>
      rw [hlt] at h; simp only [cond_true] at h
      have hlt' : os.length < x.mx := by simpa [Nat.blt_eq] using hlt
      split at h <;> try (cases h; done)
      rename_i ce2 m2 h2
      split at h <;> try (cases h; done)
      rename_i j hA
      cases hj : Nat.beq j w with
      | false => rw [hj] at h; cases h
      | true =>
      have hj' := Nat.eq_of_beq_eq_true hj
      subst hj'
      simp only [Nat.beq_refl, cond_true] at h
      split at h <;> try (cases h; done)
      rename_i ce4 h4
      split at h <;> try (cases h; done)
      rename_i f caps hsp
      cases hf : Nat.beq f x.wk.f with
      | false => rw [hf] at h; cases h
      | true =>
      have hf' := Nat.eq_of_beq_eq_true hf
      subst hf'
      simp only [Nat.beq_refl, cond_true] at h
      split at h <;> try (cases h; done)
      rename_i own hwk
      split at h <;> try (cases h; done)
      rename_i ce5 m5 h5
      refine on_block hT hl2 fun l3 hl3 => ?_
      refine on_region (l := [x.lbody]) hT (by simpa [flatL] using hlbody) fun l4 hl4 => ?_
      refine run_ops hT hcall (runDone_eq h2) he1 hr1' hbk hbr fun ρ2 e2 s2 g2 he2 hr2 => ?_
      have hr2' : Rel P ρ2 m2 (fun _ => False) s2.ro s2 := by rw [hr2.ro]; exact hr2
      have hkeep2 : ∀ q o, RK0 q = some o → s2.ro q = some o := fun q o hq => by rw [hr2.ro]; exact hkeep1 q o hq
      have hw2 := g2.le _ _ (g1.le _ _ hw)
      have hch2 := g2.le _ _ (g1.le _ _ hch)
      -- Add
      obtain ⟨z6, o6, g6, ats, op6⟩ := hx.op6
      refine on_region hT hl4 fun l5 hl5 => ?_
      rw [z6]
      refine op_enter (rest := []) hT o6 g6 hbk hbr op6 (ffB_ok hx.ffadd) ?_
      obtain ⟨pv, p1, p2⟩ := he2.evc hA
      cases p2
      rename_i bb cc hbb
      rw [hw2] at hbb; cases hbb
      have hargs : (#[x.addA, .const (.int .i64 1)] : Array Operand).map (A x.n e2 []).eval = #[.pointer (some ⟨Wg, 0, none⟩), .int .i64 1] := by
        rw [A_eval]
        simp only [List.map_toArray, List.map_cons, List.map_nil, ev_of p1]
        rfl
      rw [hargs]
      obtain ⟨kk, hadd⟩ := hx.add os.length hlt' Wg
      refine ⟨chkAdd_ok (E := crewOf P x.ty Wg Ch x.mx ios iout) hadd rep_all hlt' ?_, fun e => (by cases e)⟩
      refine tm_tc ?_
      show TM (crewOf P x.ty Wg Ch x.mx ios iout) L Q 1 false os 0 (G ((fat b (A x.n e2 []) (.inRegion x.o6 (0 :: []) :: _)).finish (.tuple #[])) cs) s2
      rw [fat_finish, o6, A_put]
      simp only [Option.bind_some]
      rw [updc_A]
      refine end_region hT1 ?_
      obtain ⟨z7, o7, g7, ats7, op7⟩ := hx.op7
      refine on_region (l := l5) hT1 hl5 fun l6 hl6 => ?_
      have := flatL_nil hl6
      subst this
      rw [z7]
      show TM (crewOf P x.ty Wg Ch x.mx ios iout) L Q 1 false os 0 (G (fat b (A x.n (updc x.a6.dst (.tuple #[]) e2) []) (.inRegion x.o7 ([0] ++ [1]) :: _)) cs) s2
      refine run_vals hT1 hbk hbr hr2' h4 (he2.updc x.a6.dst (.tuple [] [] .nil)) fun e4 he4 => ?_
      refine Closed.agr hT1 rfl fun hag => tm_mono ?_
      have hnd : (s2.rw.map (·.1)).Nodup := by obtain ⟨w', hw'⟩ := hag; exact hw'.nodup
      have hap : ∀ q o, (q, o) ∈ s2.rw → s2.ro q = none := by obtain ⟨w', hw'⟩ := hag; exact hw'.apart
      have hfz : Rel P ρ2 m2.freeze (fun _ => False) s2.freeze.ro s2.freeze := hr2'.freeze hag (rw := s2.rw) (fun _ h => h) hnd (fun _ _ _ _ _ _ _ _ h => h)
      have hkeepF : ∀ q o, RK0 q = some o → s2.freeze.ro q = some o := fun q o hq => St.freeze_ro (hkeep2 q o hq) hap
      obtain ⟨vf, q1, q2⟩ := he4.evc hsp
      cases q2
      rename_i fi' ca' hp hfi hca
      cases hfi
      have hst := fun w => go_step (P := P) (main := true) (b := b) (a := A x.n e4 []) (k := .inBlock x.b1 :: (l3.map .code ++ .inLoop x.lb :: .inBlock x.b0 :: kout)) (cs := cs) (rest := []) o7 g7 hbk hbr op7 (by rw [A_eval]; exact ev_of q1) w
      refine ⟨tc_worker (o := own) rfl rfl (fun w _ => hst w) ?_ ?_, fun e => (by cases e)⟩
      · obtain ⟨kd, hdone⟩ := hx.done Wg
        exact work_ok hx.wk hm hcall hdone rep_all hw2 hch2 hwk hca hfz
      · have hT3 : Closed P true (TM (crewOf P x.ty Wg Ch x.mx ios iout) L Q 0 false (os ++ [own]) 0) := tm_closed (E := crewOf P x.ty Wg Ch x.mx ios iout) false _ (fun e => (by cases e))
        rw [A_put, updc_A]
        refine tm_tc ?_
        refine end_region hT3 (end_block hT3 ?_)
        refine on_region (l := l3) hT3 hl3 fun l7 hl7 => ?_
        have := flatL_nil hl7
        subst this
        refine run_ops hT3 hcall (runDone_eq h5) (he4.updc x.a7.dst vr_undef) hfz hbk hbr fun ρ5 e5 s5 g5 he5 hr5 => ?_
        have hr5' : Rel P ρ5 m5 (fun _ => False) s5.ro s5 := by rw [hr5.ro]; exact hr5
        refine again_loop hT3 ?_
        have hgf : Grow ρ2 m2 ρ2 m2.freeze := .same rfl
        exact spawn_ok hx hm hcall (b0' := b0') hbk hbr fuel h he5 hr5' (g5.le _ _ hw2) (g5.le _ _ hch2) (fun q o hq => by rw [hr5.ro]; exact hkeepF q o hq) fun ρ' e' s' g he' hr' hk' =>
          hgo ρ' e' s' (((g1.trans g2).trans (hgf.trans g5)).trans g) he' hr' hk'
end
end Go.L
namespace Go.L
open Go Go.Conc
open Go.ConcR (KK wgBlock WgAt stA smA rd wr)

theorem runPure_runT {P : Program} {α : Type} : ∀ {x : Sem α} {a : α}, runPure P x = some a → ∀ (w : World) (es : Array Event), x.runT P w es = (.ok a w, es)
  | .pure _, _, h, w, es => by simp only [runPure, Option.some.injEq] at h; subst h; rfl
  | .program k, _, h, w, es => runPure_runT (x := k _) h w es

section
variable {ios : Os} {iout : Array (Nat × ByteArray)} {P : Program} {b : Frame} {cs : List Frame} {s : St} {LF : Nat} {call : CallT}
  {ρ : Ren} {ce e : Env} {m : Mem} {x : EachP} {Wg Ch : Nat} {L : Nat → Option Obj} {Post : Value → World → Prop} {F : Nat × Obj → Prop} {R : Nat → Option Obj}

/-- MAIN's END: it has found the channel closed. -/
theorem end_ok (hx : x.OK P) (hm : P.follows .mixedOrders = true) (hcall : CallOK (CA P) P call) (hbf : b.fn = x.f) (hbk : b.kind = .normal) (hbr : b.roundOf = none) {m2 mK m' : Mem} {ceK : Env} {r : CR} {cl : Frame} {cs0 : List Frame} {l' l6 : List Code}
    (h : endX P x LF call m2 (ceK, mK) = some (r, m')) (he : ER ρ ceK e) (hr : Rel P ρ (thaw m2 mK) F R s) (hl' : flatL l' = [.cond x.c12 .skip (.exit x.b2), .block x.b3 x.rbody]) (hl6 : flatL l6 = x.fin ++ [.ret])
    (k1 : ∀ v s' ρ', Grow ρ (thaw m2 mK) ρ' m' → Rel P ρ' m' F R s' → CRR ρ' r (.returned v) → ∃ s0, s0.le s' ∧ T0 P ios iout Post (G (cl.finish v) cs0) s0) :
    T0 P ios iout Post (G (fat b (A x.n (updc x.a12.dst (.tuple ⟨[.slice none 0 0, .bool false]⟩) e) []) (.inRegion x.o12 [1] :: (l'.map .code ++ (.inLoop x.rb :: .inBlock x.b2 :: (l6.map .code ++ []))))) (cl :: cs0)) s := by
  have hT := t0_closed P ios iout Post
  have hk : b.kind ≠ .early := by rw [hbk]; simp
  unfold endX at h
  simp only at h
  split at h <;> try (cases h; done)
  rename_i ce1 m1 h1
  split at h <;> try (cases h; done)
  rename_i hc
  split at h <;> try (cases h; done)
  rename_i ce3 m3 h3
  split at h <;> try (cases h; done)
  rename_i vs hvs
  simp only [Option.some.injEq, Prod.mk.injEq] at h
  obtain ⟨rfl, rfl⟩ := h
  have hz : VR ρ (.tuple ⟨[.slice none 0 0, .bool false]⟩) (.tuple ⟨[.slice none 0 0, .bool false]⟩) := .tuple _ _ (.cons _ _ _ _ (.slice0 0 0) (.cons _ _ _ _ (.bool false) .nil))
  refine run_ops hT hcall (runDone_eq h1) (he.updc x.a12.dst hz) hr hk hbr fun ρ1 e1 s1 g1 he1 hr1 => ?_
  obtain ⟨t', j1, j2⟩ := he1.evc hc
  cases j2
  refine on_cond (l := l') hT hl' (t := false) (by rw [A_eval]; exact ev_of j1) fun l2 hl2 => ?_
  refine do_exit hT (k' := l6.map .code ++ []) (by rw [exit_codes]; simp [exitTo]) ?_
  refine run_codes (b := b) (l := l6) (k := []) hT hm hcall hk hbr (by rw [hbf]; exact h3) hl6 he1 .nil hr1 fun l7 ρ3 e3 D3 s3 hl7 g3 he3 hd3 hr3 => ?_
  cases hd3
  refine flat_next hT hl7 fun l8 hl8 => ?_
  refine hT.go rfl rfl (g' := G { fat b (A x.n e3 []) (.code .ret :: (l8.map .code ++ [])) with mode := .returning } (cl :: cs0)) (fun w => by simp [G, stepG, stepG.exec, fat, hbr]) ?_
  obtain ⟨hf, hn⟩ := hx.func
  obtain ⟨vs', q1, q2⟩ := resV_ok [] he3 hr3 hvs
  rw [List.append_nil] at q1
  refine ret_step (C := CA P) (fun _ _ h => h) (T := T0 P ios iout Post) hT hf (fr := { fat b (A x.n e3 []) (.code .ret :: (l8.map .code ++ [])) with mode := .returning }) hbf hbk rfl rfl (R := fun en s' => ∃ v, en = .returned v ∧ T0 P ios iout Post (G (cl.finish v) cs0) s') ?_ (fun v s' hv => ?_)
  · show tri P (results x.fn (A x.n e3 []).tmps) s3 _ _
    refine tri_results q1 ?_
    obtain ⟨s0, hle, ht⟩ := k1 (packV vs') s3 ρ3 (g1.trans g3) hr3 (.ret _ _ (packV_vr q2))
    exact ⟨s0, hle, _, rfl, ht⟩
  · obtain ⟨v', hv', ht⟩ := hv
    cases hv'
    exact ht

/-- what arrives -/
theorem got_ok {own : Own} {v v' : Value} {m' : Mem} {X : List (Nat × Obj)} (h : gotX own m = some (v, m')) (hs : SentOK P own v' X) (hr : Rel P ρ m (fun _ => False) s.ro s) (ha : ∃ w, Agrees ⟨s.ro, X ++ s.rw⟩ w) :
    ∃ ρ', Grow ρ m ρ' m' ∧ VR ρ' v v' ∧ Rel P ρ' m' (fun _ => False) s.ro ⟨s.ro, X ++ s.rw⟩ := by
  rcases own with ⟨_ | ⟨l, t⟩, len⟩
  · simp only [gotX, Option.some.injEq, Prod.mk.injEq] at h
    obtain ⟨rfl, rfl⟩ := h
    obtain ⟨rfl, rfl⟩ := hs
    exact ⟨ρ, Grow.refl _ _, .slice0 0 0, hr⟩
  · simp only [gotX] at h
    cases hmo : m.more with
    | false => rw [hmo] at h; cases h
    | true =>
    rw [hmo] at h; simp only [cond_true, Option.some.injEq, Prod.mk.injEq] at h
    obtain ⟨rfl, rfl⟩ := h
    obtain ⟨b, c, xx, rfl, hle, rfl, hroom, hflat⟩ := hs
    obtain ⟨w, hw⟩ := ha
    have hnk : ¬ s.knows b := by
      have h1 := hw.apart b _ (List.mem_cons_self)
      have h2 := hw.nodup
      simp only [List.singleton_append, List.map_cons, List.nodup_cons] at h2
      rintro (hk | ⟨o, ho⟩)
      · exact hk h1
      · exact h2.1 (List.mem_map.2 ⟨_, ho, rfl⟩)
    have hor : OR (ρ.put m.next (b, c)) (.cells l t) (.cells ⟨l ++ xx⟩ t (0, 0)) := .cells l l xx t (flatAll_vr hflat)
    refine ⟨ρ.put m.next (b, c), .put _ hr.fresh rfl, ?_, hr.add hmo hnk hor hroom⟩
    have := VR.sliceU (ρ := ρ.put m.next (b, c)) m.next b c 0 len capU (Ren.put_same _ _ _) (by simp [capL, capU]) (Nat.le_refl _) (by omega)
    simpa using this

/-- one receive -/
theorem recv_step (hx : x.OK P) (hcall : CallOK (CA P) P call) (hbk : b.kind ≠ .early) (hbr : b.roundOf = none) {ch : Nat} (hLC : L Ch = none) {kout : List Item} {RK0 : Nat → Option Obj} {os : List Own} {c2 : Nat}
    (he : ER ρ ce e) (hr : Rel P ρ m (fun _ => False) s.ro s) (hch : ρ ch = some (Ch, c2)) (hkeep : ∀ q o, RK0 q = some o → s.ro q = some o) (hrc : rcB x ch ce = true)
    (hnext : ∀ a o b', os = a ++ o :: b' → ∃ ce' m', recvOne P x call o ce m = some (ce', m') ∧ ∀ ρ' e' s', Grow ρ m ρ' m' → ER ρ' ce' e' → Rel P ρ' m' (fun _ => False) s'.ro s' → (∀ q o, RK0 q = some o → s'.ro q = some o) →
      TM (crewOf P x.ty Wg Ch x.mx ios iout) L (Good P Post) 0 true (a ++ b') 0 (G (fat b (A x.n e' []) (.code x.rb :: .inLoop x.rb :: .inBlock x.b2 :: kout)) cs) s')
    (hend : os = [] → (∃ w, Agrees s w) → ∃ sF, (∀ w, Agrees s w → (∀ b o, L b = some o → w.heap[b]? = some o) → Agrees sF w) ∧ (∀ b, sF.knows b → L b ≠ none ∨ s.knows b) ∧ ∀ l', flatL l' = [.cond x.c12 .skip (.exit x.b2), .block x.b3 x.rbody] →
        T0 P ios iout Post (G (fat b (A x.n (updc x.a12.dst (.tuple ⟨[.slice none 0 0, .bool false]⟩) e) []) (.inRegion x.o12 [1] :: (l'.map .code ++ (.inLoop x.rb :: .inBlock x.b2 :: kout)))) cs) sF) :
    TM (crewOf P x.ty Wg Ch x.mx ios iout) L (Good P Post) 0 true os 0 (G (fat b (A x.n e []) (.code x.rb :: .inLoop x.rb :: .inBlock x.b2 :: kout)) cs) s := by
  have hT : Closed P true (TM (crewOf P x.ty Wg Ch x.mx ios iout) L (Good P Post) 0 true os 0) := tm_closed (E := crewOf P x.ty Wg Ch x.mx ios iout) true os (fun _ => rfl)
  obtain ⟨i12, hrb⟩ := hx.rb
  obtain ⟨i13, i14, hrbody⟩ := hx.rbody
  obtain ⟨z12, o12, g12⟩ := hx.op12
  refine Closed.agr hT rfl fun hag => ?_
  refine on_region (l := [x.rb]) (k := .inLoop x.rb :: .inBlock x.b2 :: kout) hT (by simpa [flatL] using hrb) fun l1 hl1 => ?_
  rw [z12]
  show TM (crewOf P x.ty Wg Ch x.mx ios iout) L (Good P Post) 0 true os 0 (G (fat b (A x.n e []) (.inRegion x.o12 (0 :: [1]) :: (l1.map .code ++ (.inLoop x.rb :: .inBlock x.b2 :: kout)))) cs) s
  have hvc : ev x.n e x.rc = .chan (some Ch) := by
    unfold rcB at hrc
    split at hrc <;> try (cases hrc; done)
    rename_i j hj
    have := Nat.eq_of_beq_eq_true hrc
    subst this
    obtain ⟨v', k1, k2⟩ := he.evc hj
    cases k2
    rename_i bb cc hbb
    rw [hch] at hbb; cases hbb
    exact ev_of k1
  have hst : ∀ w, stepG P true (G (fat b (A x.n e []) (.inRegion x.o12 (0 :: [1]) :: (l1.map .code ++ (.inLoop x.rb :: .inBlock x.b2 :: kout)))) cs) w = .comm (G (fat b (A x.n e []) (.inRegion x.o12 (0 :: [1]) :: (l1.map .code ++ (.inLoop x.rb :: .inBlock x.b2 :: kout)))) cs) #[rcase Ch (.slice none 0 0)] true (.recv true) w #[] := by
    intro w
    have he' := fat_eval' b (A x.n e []) (.inRegion x.o12 (0 :: [1]) :: (l1.map .code ++ (.inLoop x.rb :: .inBlock x.b2 :: kout)))
    simp only [fat] at he'
    have hw : Region.wanted x.a12 (yielded x.o12 (A x.n e []).tmps) = true := wanted_none _ _ g12
    have hk' : (b.kind == CallKind.early) = false := by simpa using hbk
    have hstep : stepG P true (G (fat b (A x.n e []) (.inRegion x.o12 (0 :: [1]) :: (l1.map .code ++ (.inLoop x.rb :: .inBlock x.b2 :: kout)))) cs) w = stepG.apply P true (fat b (A x.n e []) (.inRegion x.o12 (0 :: [1]) :: (l1.map .code ++ (.inLoop x.rb :: .inBlock x.b2 :: kout)))) cs none (execOp (A x.n e []).eval x.a12) w := by
      simp only [G, stepG, stepG.exec, fat, o12, Option.map_some, Option.getD_some, hw, if_true, stepG.oper, Frame.oper?, he']
      rw [hbr]
    have hrun := runPure_runT (hx.recv (ev x.n e)) w #[]
    rw [hvc] at hrun
    rw [hstep, A_eval]
    simp only [stepG.apply, if_true, hrun, fat, hk', Bool.false_eq_true, if_false]
    simp [seen_none, GStep.after, G, rcase]
  have hserved : ∀ v, Conc.served (G (fat b (A x.n e []) (.inRegion x.o12 (0 :: [1]) :: (l1.map .code ++ (.inLoop x.rb :: .inBlock x.b2 :: kout)))) cs) v = G (fat b (A x.n (updc x.a12.dst v e) []) (.inRegion x.o12 [1] :: (l1.map .code ++ (.inLoop x.rb :: .inBlock x.b2 :: kout)))) cs := by
    intro v
    have := fat_finish b (A x.n e []) x.o12 0 [1] (l1.map .code ++ (.inLoop x.rb :: .inBlock x.b2 :: kout)) v
    rw [o12] at this
    simp only [Option.bind_some] at this
    rw [A_put, updc_A] at this
    simp only [Conc.served, G] at this ⊢
    rw [this]
  have hclosed : os = [] → ∀ pc (g : Goroutine), g.status = .running → (∀ w, stepG P true g w = .comm (G (fat b (A x.n e []) (.inRegion x.o12 (0 :: [1]) :: (l1.map .code ++ (.inLoop x.rb :: .inBlock x.b2 :: kout)))) cs) #[rcase Ch (.slice none 0 0)] true (.recv true) w #[]) →
      TL P (KnownAt pc) L (Gone (crewOf P x.ty Wg Ch x.mx ios iout) pc) (Good P Post) g s := by
    intro hos pc g hg hstg
    obtain ⟨sF, h1, h2, h3⟩ := hend hos hag
    refine tl_recv (E := crewOf P x.ty Wg Ch x.mx ios iout) (z := .slice none 0 0) (s' := sF) hLC hg (fun w _ => hstg w) h1 h2 ?_
    rw [hserved]
    exact h3 l1 hl1
  refine ⟨tc_recv (E := crewOf P x.ty Wg Ch x.mx ios iout) (z := .slice none 0 0) rfl (fun w _ => hst w) (fun a o b' v X hos hsent => ?_) fun hos pc => ⟨hclosed hos pc _ rfl hst, hclosed hos pc _ rfl fun w => hst w⟩, fun _ hos pc => hclosed hos pc _ rfl hst⟩
  -- something has arrived
  rw [hserved]
  obtain ⟨ce', m', hone, hTM⟩ := hnext a o b' hos
  refine tm_tc ?_
  have hT5 : Closed P true (TM (crewOf P x.ty Wg Ch x.mx ios iout) L (Good P Post) 0 true (a ++ b') 0) := tm_closed (E := crewOf P x.ty Wg Ch x.mx ios iout) true _ (fun _ => rfl)
  refine Closed.agr hT5 rfl fun hag5 => ?_
  unfold recvOne at hone
  split at hone <;> try (cases hone; done)
  rename_i vc m1 hgot
  obtain ⟨ρ1, g1, hv1, hr1⟩ := got_ok hgot hsent hr hag5
  split at hone <;> try (cases hone; done)
  rename_i ce2 m2 h2
  split at hone <;> try (cases hone; done)
  rename_i hc
  split at hone <;> try (cases hone; done)
  rename_i ce3 m3 h3
  refine run_ops hT5 hcall (runDone_eq h2) ((he.up g1.le).updc x.a12.dst (.tuple _ _ (.cons _ _ _ _ hv1 (.cons _ _ _ _ (.bool true) .nil)))) hr1 hbk hbr fun ρ2 e2 s2 g2 he2 hr2 => ?_
  obtain ⟨t', j1, j2⟩ := he2.evc hc
  cases j2
  refine on_cond (l := l1) hT5 hl1 (t := true) (by rw [A_eval]; exact ev_of j1) fun l2 hl2 => do_skip hT5 ?_
  refine on_block hT5 hl2 fun l3 hl3 => ?_
  have := flatL_nil hl3
  subst this
  refine on_region (l := [x.rbody]) hT5 (by simpa [flatL] using hrbody) fun l4 hl4 => ?_
  refine run_ops hT5 hcall (runDone_eq h3) he2 hr2 hbk hbr fun ρ3 e3 s3 g3 he3 hr3 => ?_
  refine on_region (l := l4) hT5 hl4 fun l5 hl5 => ?_
  have := flatL_nil hl5
  subst this
  refine run_ops hT5 hcall (runDone_eq hone) he3 hr3 hbk hbr fun ρ4 e4 s4 g4 he4 hr4 => ?_
  refine end_block hT5 (again_loop hT5 ?_)
  refine hTM ρ4 e4 s4 (((g1.trans g2).trans g3).trans g4) he4 (by rw [hr4.ro]; exact hr4) fun q o hq => ?_
  rw [hr4.ro]; exact hkeep q o hq

/-- MAIN RECEIVES ALL THAT IS SENT, in whatever order. -/
theorem recv_ok (hx : x.OK P) (hcall : CallOK (CA P) P call) (hbk : b.kind ≠ .early) (hbr : b.roundOf = none) {ch : Nat} (hLC : L Ch = none) {kout : List Item} {RK0 : Nat → Option Obj} :
    ∀ (fuel : Nat) {os : List Own} {ce e : Env} {m : Mem} {ρ : Ren} {s : St} {c2 : Nat} {outs : List (Env × Mem)}, recvX P x call ch fuel os ce m = some outs → ER ρ ce e → Rel P ρ m (fun _ => False) s.ro s → ρ ch = some (Ch, c2) → (∀ q o, RK0 q = some o → s.ro q = some o) →
    (∀ y ∈ outs, ∀ ρK eK sK, Grow ρ m ρK y.2 → ER ρK y.1 eK → Rel P ρK y.2 (fun _ => False) sK.ro sK → (∀ q o, RK0 q = some o → sK.ro q = some o) → (∃ w, Agrees sK w) →
      ∃ sF, (∀ w, Agrees sK w → (∀ b o, L b = some o → w.heap[b]? = some o) → Agrees sF w) ∧ (∀ b, sF.knows b → L b ≠ none ∨ sK.knows b) ∧ ∀ l', flatL l' = [.cond x.c12 .skip (.exit x.b2), .block x.b3 x.rbody] →
        T0 P ios iout Post (G (fat b (A x.n (updc x.a12.dst (.tuple ⟨[.slice none 0 0, .bool false]⟩) eK) []) (.inRegion x.o12 [1] :: (l'.map .code ++ (.inLoop x.rb :: .inBlock x.b2 :: kout)))) cs) sF) →
    TM (crewOf P x.ty Wg Ch x.mx ios iout) L (Good P Post) 0 true os 0 (G (fat b (A x.n e []) (.code x.rb :: .inLoop x.rb :: .inBlock x.b2 :: kout)) cs) s := by
  have nilcase : ∀ {ce e : Env} {m : Mem} {ρ : Ren} {s : St} {c2 : Nat} {outs : List (Env × Mem)}, (bif rcB x ch ce then some [(ce, m)] else none) = some outs → ER ρ ce e → Rel P ρ m (fun _ => False) s.ro s → ρ ch = some (Ch, c2) → (∀ q o, RK0 q = some o → s.ro q = some o) →
      (∀ y ∈ outs, ∀ ρK eK sK, Grow ρ m ρK y.2 → ER ρK y.1 eK → Rel P ρK y.2 (fun _ => False) sK.ro sK → (∀ q o, RK0 q = some o → sK.ro q = some o) → (∃ w, Agrees sK w) →
        ∃ sF, (∀ w, Agrees sK w → (∀ b o, L b = some o → w.heap[b]? = some o) → Agrees sF w) ∧ (∀ b, sF.knows b → L b ≠ none ∨ sK.knows b) ∧ ∀ l', flatL l' = [.cond x.c12 .skip (.exit x.b2), .block x.b3 x.rbody] →
          T0 P ios iout Post (G (fat b (A x.n (updc x.a12.dst (.tuple ⟨[.slice none 0 0, .bool false]⟩) eK) []) (.inRegion x.o12 [1] :: (l'.map .code ++ (.inLoop x.rb :: .inBlock x.b2 :: kout)))) cs) sF) →
      TM (crewOf P x.ty Wg Ch x.mx ios iout) L (Good P Post) 0 true [] 0 (G (fat b (A x.n e []) (.code x.rb :: .inLoop x.rb :: .inBlock x.b2 :: kout)) cs) s := by
    intro ce e m ρ s c2 outs h he hr hch hkeep hfin
    cases hrc : rcB x ch ce with
    | false => rw [hrc] at h; cases h
    | true =>
    rw [hrc] at h; simp only [cond_true, Option.some.injEq] at h; subst h
    exact recv_step hx hcall hbk hbr hLC he hr hch hkeep hrc (fun a o b' hos => by simp at hos) fun _ hag => hfin _ (List.mem_singleton.2 rfl) ρ e s (Grow.refl _ _) he hr hkeep hag
  intro fuel
  induction fuel with
  | zero =>
    intro os ce e m ρ s c2 outs h he hr hch hkeep hfin
    cases os with
    | nil => exact nilcase h he hr hch hkeep hfin
    | cons o os => cases h
  | succ fuel ih =>
    intro os ce e m ρ s c2 outs h he hr hch hkeep hfin
    cases os with
    | nil => exact nilcase h he hr hch hkeep hfin
    | cons o os =>
      simp only [recvX] at h
      cases hrc : rcB x ch ce with
      | false => rw [hrc] at h; cases h
      | true =>
      rw [hrc] at h; simp only [cond_true] at h
      split at h <;> try (cases h; done)
      rename_i ls hls
      simp only [Option.some.injEq] at h; subst h
      refine recv_step hx hcall hbk hbr hLC he hr hch hkeep hrc (fun a o' b' hos => ?_) (fun hos => by cases hos)
      obtain ⟨y, hy1, hy2⟩ := mapO_mem hls (o', a ++ b') (by rw [hos]; exact splits_mem o' b' a)
      simp only at hy1
      split at hy1 <;> try (cases hy1; done)
      rename_i ce' m' h1
      refine ⟨ce', m', h1, fun ρ' e' s' g' he' hr' hk' => ?_⟩
      exact ih hy1 he' hr' (g'.le _ _ hch) hk' fun z hz ρK eK sK gK => hfin z (List.mem_flatten.2 ⟨y, hy2, hz⟩) ρK eK sK (g'.trans gK)
end
end Go.L
namespace Go.L
open Go Go.Conc
open Go.ConcR (KK wgBlock WgAt stA smA rd wr)

/-- main's class: the run ends as the row asks -/
def C0 (P : Program) : Class := fun main T => main = true ∧ ∃ ios iout Post, T = T0 P ios iout Post
theorem c0_closed {P : Program} : ∀ main T, C0 P main T → Closed P main T := by
  rintro _ _ ⟨rfl, ios, iout, Post, rfl⟩
  exact t0_closed P ios iout Post

section
variable {P : Program} {x : EachP} {LF : Nat} {call : CallT}

theorem each_fn (hx : x.OK P) (hm : P.follows .mixedOrders = true) (hcall : CallOK (CA P) P call) {args args' : List Value} {m m' : Mem} {r : CR} (h : eachB P x LF call args m = some (r, m')) {ρ : Ren} {s : St} {F : Nat × Obj → Prop} {R : Nat → Option Obj} (ha : VRs ρ args args') (hr : Rel P ρ m F R s) :
    Fn (C0 P) P x.f ⟨args'⟩ s (fun en s' => ∃ ρ', Grow ρ m ρ' m' ∧ Rel P ρ' m' F R s' ∧ CRR ρ' r en) := by
  rintro main T ⟨rfl, ios, iout, Post, rfl⟩ cl cs0 kr _
  have hT := t0_closed P ios iout Post
  obtain ⟨hf, hn⟩ := hx.func
  obtain ⟨c, i0, i1, i2, i3, i9, i10, i11, hb, hfl⟩ := hx.code
  unfold eachB at h
  cases hle : Nat.ble args.length x.n with
  | false => rw [hle] at h; cases h
  | true =>
  rw [hle] at h; simp only [cond_true] at h
  split at h <;> try (cases h; done)
  rename_i ce0 m0 h0
  cases hmo0 : m0.more with
  | false => rw [hmo0] at h; cases h
  | true =>
  rw [hmo0] at h; simp only [cond_true] at h
  split at h <;> try (cases h; done)
  rename_i ce1 m1 h1
  cases hmo1 : m1.more with
  | false => rw [hmo1] at h; cases h
  | true =>
  rw [hmo1] at h; simp only [cond_true] at h
  split at h <;> try (cases h; done)
  rename_i ce3 m3 h3
  split at h <;> try (cases h; done)
  rename_i os ce4 m4 hsp
  split at h <;> try (cases h; done)
  rename_i ce5 h5
  split at h <;> try (cases h; done)
  rename_i fc caps hsk
  cases hcl : (Nat.beq fc x.cl.f && closX P x.cl m1.next m0.next caps m4.freeze) with
  | false => rw [hcl] at h; cases h
  | true =>
  rw [hcl] at h; simp only [cond_true] at h
  simp only [Bool.and_eq_true] at hcl
  have hfc := Nat.eq_of_beq_eq_true hcl.1
  subst hfc
  split at h <;> try (cases h; done)
  rename_i ce6 m6 h6
  split at h <;> try (cases h; done)
  rename_i ce7 m7 h7
  split at h <;> try (cases h; done)
  rename_i outs houts
  split at h <;> try (cases h; done)
  rename_i rs hrs
  -- the frame
  let b : Frame := { (default : Frame) with fn := x.f, kind := .normal, roundOf := none }
  have henter : Frame.enter P x.f ⟨args'⟩ .normal = fat b (A x.n (envL 0 args') []) [.code c] := by
    rw [← enter_A args' x.n (by rw [← ha.len]; exact Nat.le_of_ble_eq_true hle)]
    simp [Frame.enter, fat, hf, hb, hn, b]
  rw [henter]
  have hbk : b.kind ≠ .early := by simp [b]
  have hbr : b.roundOf = none := rfl
  refine on_region (b := b) (l := [c]) (k := []) hT (by simpa [flatL] using hfl) fun l1 hl1 => ?_
  refine run_ops hT hcall (runDone_eq h0) (envL_er 0 ha) hr hbk hbr fun ρ0 e0 s0 g0 he0 hr0 => ?_
  -- the channel
  refine on_region (l := l1) hT hl1 fun l2 hl2 => ?_
  obtain ⟨z1, o1, g1⟩ := hx.op1
  rw [z1]
  show T0 P ios iout Post (G (fat b (A x.n e0 []) (.inRegion x.o1 (0 :: [1, 2]) :: (l2.map .code ++ []))) (cl :: cs0)) s0
  refine op_value hT o1 (wanted_none _ _ g1) hbk hbr ?_
  rw [A_eval]
  refine newV_tri (f := fun b => .chan (some b)) (fun Ch hCh => ⟨_, rfl, ?_⟩) _ (hx.new1 e0)
  rw [A_put, updc_A]
  have hrC := hr0.aside (o := .chan 0 #[] false 0 0 false) hmo0 hCh
  have gC : Grow ρ0 m0 (ρ0.put m0.next (Ch, 0)) m0.skip := .put _ hr0.fresh rfl
  refine run_ops hT hcall (runDone_eq h1) ((he0.up gC.le).updc x.a1.dst (.chan _ Ch 0 (Ren.put_same _ _ _))) hrC hbk hbr fun ρ1 e1 s1 gg1 he1 hr1 => ?_
  -- the group
  refine on_region (l := l2) hT hl2 fun l3 hl3 => ?_
  obtain ⟨z2, o2, g2⟩ := hx.op2
  rw [z2]
  show T0 P ios iout Post (G (fat b (A x.n e1 []) (.inRegion x.o2 (0 :: []) :: (l3.map .code ++ []))) (cl :: cs0)) s1
  refine op_value hT o2 (wanted_none _ _ g2) hbk hbr ?_
  rw [A_eval]
  refine newV_tri (f := fun b => .pointer (some ⟨b, 0, none⟩)) (fun Wg hWg => ⟨_, rfl, ?_⟩) _ (hx.new2 e1)
  rw [A_put, updc_A]
  have hrW := hr1.aside (o := wgBlock x.ty 0 0) hmo1 hWg
  have gW : Grow ρ1 m1 (ρ1.put m1.next (Wg, 0)) m1.skip := .put _ hr1.fresh rfl
  refine end_region hT ?_
  -- into the crowd
  have hCin : (Ch, Obj.chan 0 #[] false 0 0 false) ∈ s1.rw := hr1.frame _ (.inr rfl)
  have hne : Wg ≠ Ch := fun e => hWg (e ▸ .inr ⟨_, hCin⟩)
  have hchρ : (ρ1.put m1.next (Wg, 0)) m0.next = some (Ch, 0) := gW.le _ _ (gg1.le _ _ (Ren.put_same _ _ _))
  have hwρ : (ρ1.put m1.next (Wg, 0)) m1.next = some (Wg, 0) := Ren.put_same _ _ _
  generalize hρ2 : ρ1.put m1.next (Wg, 0) = ρ2 at *
  generalize hs2 : (⟨s1.ro, (Wg, wgBlock x.ty 0 0) :: s1.rw⟩ : St) = s2 at *
  have hWin2 : (Wg, wgBlock x.ty 0 0) ∈ s2.rw := by rw [← hs2]; exact List.mem_cons_self
  have hCin2 : (Ch, Obj.chan 0 #[] false 0 0 false) ∈ s2.rw := by rw [← hs2]; exact List.mem_cons_of_mem _ hCin
  refine Closed.agr hT rfl fun hag => ?_
  obtain ⟨w0, hw0⟩ := hag
  let rwX : List (Nat × Obj) := s2.rw.filter fun y => y.1 != Wg && y.1 != Ch
  have hsub : ∀ y ∈ rwX, y ∈ s2.rw := fun y hy => (List.mem_filter.1 hy).1
  have hnot : ∀ y ∈ rwX, y.1 ≠ Wg ∧ y.1 ≠ Ch := fun y hy => by
    have := (List.mem_filter.1 hy).2
    simpa using this
  have hndX : (rwX.map (·.1)).Nodup := hw0.nodup.sublist ((List.filter_sublist).map _)
  have hinX : ∀ q o, (q, o) ∈ s2.rw → q ≠ Wg → q ≠ Ch → (q, o) ∈ rwX := fun q o hq h1 h2 => List.mem_filter.2 ⟨hq, by simp [h1, h2]⟩
  have hapart : ∀ q o, (q, o) ∈ s2.rw → s2.ro q = none := hw0.apart
  have hinO : ∀ i c q k o, m1.skip.t.get i = some c → c.ro = false → ρ2 i = some (q, k) → (q, o) ∈ s2.rw → (q, o) ∈ rwX := fun i c q k o hi hc hq ho =>
    hinX q o ho (fun e => hrW.apart i c q k (wgBlock x.ty 0 0) hi hc hq (.inr (by rw [e]))) (fun e => hrW.apart i c q k (.chan 0 #[] false 0 0 false) hi hc hq (.inl (.inr (by rw [e]))))
  have hfz : Rel P ρ2 m1.skip.freeze (fun _ => False) (St.freeze ⟨s2.ro, rwX⟩).ro (St.freeze ⟨s2.ro, rwX⟩) := hrW.freeze ⟨w0, hw0⟩ hsub hndX hinO
  let L : Nat → Option Obj := fun q => (rwX.find? fun y => y.1 == q).map (·.2)
  have hLmem : ∀ q o, L q = some o → (q, o) ∈ rwX := fun q o hq => by
    obtain ⟨y, hy, rfl⟩ := Option.map_eq_some_iff.1 hq
    obtain ⟨h1, h2⟩ := find_mem hy
    subst h2
    exact h1
  have hLof : ∀ q o, (q, o) ∈ rwX → L q = some o := fun q o hq => by
    show (rwX.find? fun y => y.1 == q).map (·.2) = some o
    rw [find_of_mem hndX hq]; rfl
  have hLC : L Ch = none := by
    cases hq : L Ch with
    | none => rfl
    | some o => exact absurd rfl (hnot _ (hLmem _ _ hq)).2
  have hfzW : ∀ q, (∃ o, (q, o) ∈ s2.rw) → (q = Wg ∨ q = Ch) → ¬ (St.freeze ⟨s2.ro, rwX⟩).knows q := by
    rintro q ⟨o, ho⟩ hq (hk | ⟨o', ho'⟩)
    · simp only [St.freeze] at hk
      split at hk
      · rename_i y hy
        obtain ⟨h1, h2⟩ := find_mem hy
        have := hnot _ h1
        rcases hq with e | e
        · exact this.1 (h2.trans e)
        · exact this.2 (h2.trans e)
      · exact hk (hapart q o ho)
    · cases ho'
  show TL P KnownTo0 (fun _ => none) (Calm ios iout) (Good P Post) _ s2
  refine tl_enter (E := crewOf P x.ty Wg Ch x.mx ios iout) (L := L) (s' := St.freeze ⟨s2.ro, rwX⟩) rfl hne hWin2 ⟨false, hCin2⟩ ?_ (hfzW _ ⟨_, hWin2⟩ (.inl rfl)) (hfzW _ ⟨_, hCin2⟩ (.inr rfl)) (fun q ⟨o, ho⟩ => by cases ho) (fun q o hq => ⟨.inr (hsub _ (hLmem _ _ hq)), hnot _ (hLmem _ _ hq)⟩) (tm_tc ?_)
  · refine ⟨s2.rw, by simp [St.freeze], fun q o hq => ?_⟩
    simp only [St.freeze] at hq
    split at hq
    · rename_i y hy
      obtain ⟨h1, h2⟩ := find_mem hy
      cases hq
      subst h2
      exact .inr (hsub _ h1)
    · exact .inl hq
  generalize hs3 : St.freeze ⟨s2.ro, rwX⟩ = s3 at *
  have hT1 : Closed P true (TM (crewOf P x.ty Wg Ch x.mx ios iout) L (Good P Post) 0 false [] 0) := tm_closed (E := crewOf P x.ty Wg Ch x.mx ios iout) false _ (fun e => (by cases e))
  refine on_region (l := l3) hT1 hl3 fun l4 hl4 => ?_
  have he2 : ER ρ2 (updc x.a2.dst (.pointer (some ⟨m1.next, 0, none⟩)) ce1) (updc x.a2.dst (.pointer (some ⟨Wg, 0, none⟩)) e1) := (he1.up gW.le).updc x.a2.dst (.ptr _ Wg 0 0 hwρ)
  refine run_ops hT1 hcall (runDone_eq h3) he2 hfz hbk hbr fun ρ3 e3 s4 g3 he3 hr3 => ?_
  have hkeep3 : ∀ q o, s3.ro q = some o → s4.ro q = some o := fun q o hq => by rw [hr3.ro]; exact hq
  refine on_block (l := l4) hT1 hl4 fun l5 hl5 => ?_
  refine on_loop (l := [.loop x.lb]) hT1 (rest := []) rfl fun l6 hl6 => ?_
  have := flatL_nil hl6
  subst this
  refine spawn_ok (RK0 := s3.ro) hx hm hcall (b0' := b) hbk hbr (kout := l5.map .code ++ []) 100 hsp he3 (by rw [hr3.ro]; exact hr3) (g3.le _ _ hwρ) (g3.le _ _ hchρ) hkeep3 fun ρ4 e4 s5 g4 he4 hr4 hkeep4 => ?_
  -- the closer
  have hTs : Closed P true (TM (crewOf P x.ty Wg Ch x.mx ios iout) L (Good P Post) 0 false os 0) := tm_closed (E := crewOf P x.ty Wg Ch x.mx ios iout) false _ (fun e => (by cases e))
  have hTc : Closed P true (TM (crewOf P x.ty Wg Ch x.mx ios iout) L (Good P Post) 0 true os 0) := tm_closed (E := crewOf P x.ty Wg Ch x.mx ios iout) true _ (fun _ => rfl)
  refine on_region (l := l5) hTs hl5 fun l7 hl7 => ?_
  obtain ⟨z9, o9, g9, ats9, op9⟩ := hx.op9
  rw [z9]
  show TM (crewOf P x.ty Wg Ch x.mx ios iout) L (Good P Post) 0 false os 0 (G (fat b (A x.n e4 []) (.inRegion x.o9 ([0] ++ [1]) :: _)) (cl :: cs0)) s5
  refine run_vals hTs hbk hbr hr4 h5 he4 fun e5 he5 => ?_
  refine Closed.agr hTs rfl fun hag5 => tm_mono ?_
  have hnd5 : (s5.rw.map (·.1)).Nodup := by obtain ⟨w', hw'⟩ := hag5; exact hw'.nodup
  have hap5 : ∀ q o, (q, o) ∈ s5.rw → s5.ro q = none := by obtain ⟨w', hw'⟩ := hag5; exact hw'.apart
  have hfz5 : Rel P ρ4 m4.freeze (fun _ => False) s5.freeze.ro s5.freeze := hr4.freeze hag5 (rw := s5.rw) (fun _ h => h) hnd5 (fun _ _ _ _ _ _ _ _ h => h)
  have hkeep5 : ∀ q o, s3.ro q = some o → s5.freeze.ro q = some o := fun q o hq => St.freeze_ro (hkeep4 q o hq) hap5
  obtain ⟨vf, q1, q2⟩ := he5.evc hsk
  cases q2
  rename_i fi' ca' hp hfi hca
  cases hfi
  have hst := fun w => go_step (P := P) (main := true) (b := b) (a := A x.n e5 []) (k := l7.map .code ++ []) (cs := cl :: cs0) (rest := []) o9 g9 hbk hbr op9 (by rw [A_eval]; exact ev_of q1) w
  have hg34 := g3.trans g4
  obtain ⟨kw, hwait⟩ := hx.wait Wg
  refine ⟨tc_closer (E := crewOf P x.ty Wg Ch x.mx ios iout) rfl rfl (fun w _ => hst w) (close_ok hx.cl hwait rep_all (hg34.le _ _ hwρ) (hg34.le _ _ hchρ) hcl.2 hca hfz5) (tm_tc ?_), fun e => (by cases e)⟩
  rw [A_put, updc_A]
  refine end_region hTc ?_
  refine on_region (l := l7) hTc hl7 fun l8 hl8 => ?_
  refine run_ops hTc hcall (runDone_eq h6) (he5.updc x.a9.dst vr_undef) hfz5 hbk hbr fun ρ6 e6 s6 g6 he6 hr6 => ?_
  refine on_region (l := l8) hTc hl8 fun l9 hl9 => ?_
  refine run_ops hTc hcall (runDone_eq h7) he6 hr6 hbk hbr fun ρ7 e7 s7 g7 he7 hr7 => ?_
  refine on_block (l := l9) hTc hl9 fun l10 hl10 => ?_
  refine on_loop (l := [.loop x.rb]) hTc (rest := []) rfl fun l11 hl11 => ?_
  have := flatL_nil hl11
  subst this
  have gF4 : Grow ρ4 m4 ρ4 m4.freeze := .same rfl
  have gF2 : Grow ρ2 m1.skip ρ2 m1.skip.freeze := .same rfl
  have gall : Grow ρ2 m1.skip ρ7 m7 := gF2.trans (hg34.trans (gF4.trans (g6.trans g7)))
  refine recv_ok (RK0 := s3.ro) hx hcall hbk hbr hLC (kout := l10.map .code ++ []) os.length houts he7 (by rw [hr7.ro]; exact hr7) ((gF4.trans (g6.trans g7)).le _ _ (hg34.le _ _ hchρ)) (fun q o hq => by rw [hr7.ro]; exact hkeep5 q o hq) ?_
  -- the end
  intro y hy ρK eK sK gK heK hrK hkeepK hagK
  obtain ⟨z, hz1, hz2⟩ := mapO_mem hrs y hy
  obtain ⟨r1, mR⟩ := z
  have hs3ro : ∀ q o, (q, o) ∈ rwX → s3.ro q = some o := fun q o hq => by rw [← hs3]; exact St.freeze_rw (s := ⟨s2.ro, rwX⟩) hq hndX
  have hs3ro2 : ∀ q o, s2.ro q = some o → s3.ro q = some o := fun q o hq => by rw [← hs3]; exact St.freeze_ro (s := ⟨s2.ro, rwX⟩) hq fun b o hb => hapart b o (hsub _ hb)
  have hR2 : s2.ro = R := hrW.ro
  have hFX : ∀ z, F z → ((F z ∨ z = (Ch, Obj.chan 0 #[] false 0 0 false)) ∨ z = (Wg, wgBlock x.ty 0 0)) ∧ z ∈ rwX := by
    rintro ⟨q, o⟩ hz
    refine ⟨.inl (.inl hz), hinX q o (hrW.frame _ (.inl (.inl hz))) (fun e => ?_) (fun e => ?_)⟩
    · subst e
      exact hWg (.inr ⟨o, hr1.frame _ (.inl hz)⟩)
    · subst e
      exact hCh (.inr ⟨o, hr0.frame _ hz⟩)
  have hth := Rel.thaw (F := F) hrW hrK (gall.trans gK) hagK (rwX := rwX) (fun q o hq => by rw [hkeepK q o (hs3ro q o hq)]; simp) hinO hFX
  refine ⟨⟨R, sK.rw ++ rwX⟩, fun w hw hLw => ⟨fun q o hq => ?_, fun q o hq => ?_, ?_, fun q o hq => ?_⟩, fun q hq => ?_, fun l' hl' => ?_⟩
  · have : s2.ro q = some o := by rw [hR2]; exact hq
    exact hw.ro q o (hkeepK q o (hs3ro2 q o this))
  · rcases List.mem_append.1 hq with h' | h'
    · exact hw.rw q o h'
    · exact hLw q o (hLof q o h')
  · show ((sK.rw ++ rwX).map (·.1)).Nodup
    rw [List.map_append, List.nodup_append]
    refine ⟨hw.nodup, hndX, fun q hq q' hq' e => ?_⟩
    subst e
    obtain ⟨⟨q1, o1⟩, h1, rfl⟩ := List.mem_map.1 hq
    obtain ⟨⟨q2, o2⟩, h2, e2⟩ := List.mem_map.1 hq'
    simp only at e2
    subst e2
    have := hw.apart _ _ h1
    rw [hkeepK _ _ (hs3ro _ _ h2)] at this
    cases this
  · show R q = none
    rcases List.mem_append.1 hq with h' | h'
    · cases hRq : R q with
      | none => rfl
      | some o' =>
        have h1 : s2.ro q = some o' := by rw [hR2]; exact hRq
        have := hw.apart _ _ h'
        rw [hkeepK _ _ (hs3ro2 _ _ h1)] at this
        cases this
    · rw [← hR2]; exact hapart q o (hsub _ h')
  · rcases hq with hq | ⟨o, hq⟩
    · have hq : R q ≠ none := hq
      cases hRq : R q with
      | none => exact absurd hRq hq
      | some o' =>
        have h1 : s2.ro q = some o' := by rw [hR2]; exact hRq
        exact .inr (.inl (by rw [hkeepK _ _ (hs3ro2 _ _ h1)]; simp))
    · rcases List.mem_append.1 hq with h' | h'
      · exact .inr (.inr ⟨o, h'⟩)
      · exact .inl (by rw [hLof q o h']; simp)
  · refine end_ok hx hm hcall rfl rfl rfl (m2 := m1.skip) (mK := y.2) (ceK := y.1) hz1 heK hth hl' hl10 fun v s' ρ' g' hr' hcr => ?_
    have gth : Grow ρK y.2 ρK (Go.L.thaw m1.skip y.2) := .same rfl
    have gtot : Grow ρ m ρ' mR := (g0.trans (gC.trans (gg1.trans gW))).trans ((gall.trans gK).trans (gth.trans g'))
    obtain ⟨ρ9, k1, k2, k3⟩ := collapse_ok hr h hz2 gtot hr' hcr
    exact ⟨s', St.le_refl _, kr v s' ⟨ρ9, k1, k2, k3⟩⟩
end
end Go.L
namespace Go.L
open Go Go.Conc

/-! ### Tables: each entry a theorem of its own -/
/-- what cannot be reached any more is forgotten -/
def gcC (call : CallT) : CallT
  | .fn f, args, m => match call (.fn f) args m with
    | some x => canonR m.next x
    | none => none
  | t, args, m => call t args m
theorem gcC_ok {C : Class} {P : Program} {call : CallT} (hcall : CallOK C P call) : CallOK C P (gcC call) := by
  intro t args m r m' h ρ args' s F R ha hr g hg1 hg2
  cases t with
  | yield l => exact hcall _ _ _ _ _ h ρ args' s F R ha hr g hg1 hg2
  | fn f =>
    simp only [gcC] at h
    split at h <;> try (cases h; done)
    rename_i x hx
    rcases x with ⟨r1, m1⟩
    refine tri_mono _ _ _ _ _ _ (fun nx s1 hf => ?_) (fun _ _ hh => hh) (hcall _ _ _ _ _ hx ρ args' s F R ha hr g hg1 hg2)
    refine Follows.mono (fun en s' hen => ?_) hf
    obtain ⟨ρ1, k1, k2, k3⟩ := hen
    exact canon_ok hr h k1 k2 k3
def lookC (tab : List TabE) (call : CallT) : CallT
  | .fn g, args, m => match findT g args m tab with
    | some e => some (e.r, e.m')
    | none => gcC call (.fn g) args m
  | .yield l, args, m => call (.yield l) args m
def tabG (fs : List FuncId) (tab : List TabE) (call : CallT) : CallT
  | .fn f, args, m => bif memF f fs then localC reachA (lookC tab call) (.fn f) args m else call (.fn f) args m
  | t, args, m => call t args m
def AllT (C : Class) (P : Program) : List TabE → Prop
  | [] => True
  | e :: l => TabOK C P e ∧ AllT C P l
theorem AllT.mem {C : Class} {P : Program} : ∀ {l : List TabE}, AllT C P l → ∀ e ∈ l, TabOK C P e
  | [], _, e, h => by cases h
  | x :: l, h, e, he => by
    rcases List.mem_cons.1 he with rfl | he
    · exact h.1
    · exact h.2.mem e he
theorem TabOK.anti {C C' : Class} {P : Program} {e : TabE} (hcc : ∀ m T, C' m T → C m T) (h : TabOK C P e) : TabOK C' P e :=
  fun ρ args' s F R ha hr hf main T hT => h ρ args' s F R ha hr hf main T (hcc _ _ hT)
theorem AllT.anti {C C' : Class} {P : Program} (hcc : ∀ m T, C' m T → C m T) : ∀ {l : List TabE}, AllT C P l → AllT C' P l
  | [], _ => trivial
  | _ :: _, h => ⟨h.1.anti hcc, h.2.anti hcc⟩
theorem lookC_ok {C : Class} {P : Program} {tab : List TabE} (ht : AllT C P tab) {call : CallT} (hcall : CallOK C P call) : CallOK C P (lookC tab call) := by
  intro t args m r m' h ρ args' s F R ha hr g hg1 hg2
  cases t with
  | yield l => exact hcall _ _ _ _ _ h ρ args' s F R ha hr g hg1 hg2
  | fn f =>
    simp only [lookC] at h
    split at h
    · rename_i e he
      simp only [Option.some.injEq, Prod.mk.injEq] at h
      obtain ⟨rfl, rfl⟩ := h
      obtain ⟨h1, rfl, rfl, rfl⟩ := findT_ok he
      exact t_callFunc (hg2 _ rfl) (ht.mem e h1 ρ args' s F R ha hr (hg2 _ rfl))
    · exact gcC_ok hcall _ _ _ _ _ h ρ args' s F R ha hr g hg1 hg2
theorem tabG_ok {C : Class} {P : Program} {fs : List FuncId} {tab : List TabE} (ht : AllT C P tab) {call : CallT} (hcall : CallOK C P call) : CallOK C P (tabG fs tab call) := by
  intro t args m r m' h
  cases t with
  | yield l => exact hcall _ _ _ _ _ h
  | fn f =>
    simp only [tabG] at h
    cases hb : memF f fs with
    | true => rw [hb] at h; exact local_ok (lookC_ok ht hcall) _ _ _ _ _ h
    | false => rw [hb] at h; exact hcall _ _ _ _ _ h
/-- the executor with these tables -/
def exT (P : Program) (fs : List FuncId) (tab : List TabE) : CallT := execF P 100000 (tabG fs tab) 200
theorem exT_ok {C : Class} {P : Program} (hC : ∀ main T, C main T → Closed P main T) (hm : P.follows .mixedOrders = true) {fs : List FuncId} {tab : List TabE} (ht : AllT C P tab) : CallOK C P (exT P fs tab) :=
  execF_ok hC hm (fun _ hcall => tabG_ok ht hcall) 200
theorem ca_closed {P : Program} : ∀ main T, CA P main T → Closed P main T := fun _ _ h => h
/-- an entry, by a run -/
theorem ent {C : Class} {P : Program} (hC : ∀ main T, C main T → Closed P main T) (hm : P.follows .mixedOrders = true) (fs : List FuncId) (tab : List TabE) (ht : AllT C P tab) {e : TabE} (h : gcC (exT P fs tab) (.fn e.f) e.args e.m = some (e.r, e.m')) : TabOK C P e :=
  tab_of_run (gcC_ok (exT_ok hC hm ht)) h
/-- an entry of 'each' -/
def eachG (P : Program) (x : EachP) (call : CallT) (args : List Value) (m : Mem) : Option (CR × Mem) :=
  match eachB P x 100000 call args m with
  | some y => canonR m.next y
  | none => none
theorem entEach {P : Program} {x : EachP} (hx : x.OK P) (hm : P.follows .mixedOrders = true) (fs : List FuncId) (tab : List TabE) (ht : AllT (CA P) P tab) {e : TabE} (hf : e.f = x.f) (h : eachG P x (tabG fs tab (exT P fs tab)) e.args e.m = some (e.r, e.m')) : TabOK (C0 P) P e := by
  intro ρ args' s F R ha hr _
  unfold eachG at h
  split at h <;> try (cases h; done)
  rename_i y hy
  rcases y with ⟨r1, m1⟩
  rw [hf]
  refine Fn.mono (each_fn hx hm (tabG_ok ht (exT_ok ca_closed hm ht)) hy ha hr) fun en s' hen => ?_
  obtain ⟨ρ1, k1, k2, k3⟩ := hen
  exact canon_ok hr h k1 k2 k3
end Go.L
namespace Go.L
open Go Go.Conc

/-! ### The outermost call -/
def isTrue : CR × Mem → Bool
  | (.ret (.bool true), _) => true
  | _ => false
theorem isTrue_eq {r : CR} {m : Mem} (h : isTrue (r, m) = true) : r = .ret (.bool true) := by
  unfold isTrue at h
  split at h
  · rename_i e; cases e; rfl
  · cases h
/-- does the function f, called with no arguments, return true? -/
def rootB (P : Program) (call : CallT) (LF : Nat) (f : FuncId) : Bool :=
  match P.funcs[f]? with
  | some fn => match fn.body with
    | some c => match execC P call f true fn.ntmps LF c (envL 0 []) ⟨.nil, 0⟩ [] with
      | some l => match mapO (finOne P call LF fn) l with
        | some rs => rs.all isTrue
        | none => false
      | none => false
    | none => false
  | none => false
theorem Rel.none {P : Program} {R : Nat → Option Obj} : Rel P (fun _ => none) ⟨.nil, 0⟩ (fun _ => False) R ⟨R, []⟩ where
  len := fun _ _ => rfl
  fits := Nat.two_pow_pos _
  out := fun _ _ => rfl
  blk := fun i c h => by cases h
  inj := fun i j ci cj b k k' h => by cases h
  frame := fun x h => h.elim
  apart := fun i c b k o h => by cases h
  ro := rfl
theorem last_step {P : Program} {f : FuncId} {fn : Func} (hf : P.funcs[f]? = some fn) (hi : P.inits.idxOf? f = none) {fr : Frame} (h1 : fr.fn = f) (h2 : fr.kind = .normal) (h3 : fr.mode = .returning) (h4 : fr.defers = []) {s : St}
    {os : Os} {out : Array (Nat × ByteArray)} {Post : Value → World → Prop} (hr : tri P (results fn fr.tmps) s (fun v s' => ∀ w, Agrees s' w → w.os = os → w.output = out → Post v w) (fun _ _ => False)) : T0 P os out Post (G fr []) s := by
  refine t0_return rfl fun w hag hos hout => ?_
  obtain ⟨r, es, hrun, hl⟩ := tri_sound _ _ _ _ w #[] hr hag
  rw [Array.empty_append] at hrun
  cases r with
  | ok v w' =>
    obtain ⟨s', ht, hu⟩ := hl
    refine ⟨v, w', seen P fr.fn es, s', ?_, hu w' ht.agr (ht.os.trans hos) (ht.output.trans hout), ht.sub (seen_sub _ _ _)⟩
    rcases fr with ⟨fn', tmps, todo, defers, mode, kind, ro⟩
    simp only at h1 h2 h3 h4 hrun ⊢
    subst h1 h2 h3 h4
    simp only [G, stepG, unwind, hf, hrun, doReturn, hi, GStep.after, Array.append_empty, Bool.not_true, Bool.false_eq_true, if_false]
  | halt _ _ => obtain ⟨_, _, hu⟩ := hl; exact hu.elim
theorem root_ok {P : Program} (hm : P.follows .mixedOrders = true) {call : CallT} (hcall : CallOK (C0 P) P call) {f : FuncId} {LF : Nat} (hi : P.inits.idxOf? f = none) (h : rootB P call LF f = true) {os : Os} {out : Array (Nat × ByteArray)} {R : Nat → Option Obj} {Post : Value → World → Prop}
    (hPost : ∀ w l, Agrees ⟨R, l⟩ w → w.os = os → w.output = out → Post (.bool true) w) : T0 P os out Post (G (Frame.enter P f #[] .normal) []) ⟨R, []⟩ := by
  unfold rootB at h
  split at h <;> try (cases h; done)
  rename_i fn hfn
  split at h <;> try (cases h; done)
  rename_i c hb
  split at h <;> try (cases h; done)
  rename_i l hx
  split at h <;> try (cases h; done)
  rename_i rs hrs
  have hT : C0 P true (T0 P os out Post) := ⟨rfl, os, out, Post, rfl⟩
  have hcl := t0_closed P os out Post
  let b : Frame := { (default : Frame) with fn := f, kind := .normal, roundOf := none }
  have henter : Frame.enter P f #[] .normal = fat b (A fn.ntmps (envL 0 []) []) [.code c] := by
    rw [← enter_A [] fn.ntmps (Nat.zero_le _)]
    simp [Frame.enter, fat, hfn, hb, b]
  rw [henter]
  refine execC_ok (rnd := none) c0_closed hm hcall (fun _ => rfl) c (Q := fun e a s' => After (T0 P os out Post) b [] [] e a s') hx (envL_er 0 .nil) .nil (Rel.none (R := R)) (fun q hq => ?_) true _ hT b [] _ rfl (by simp [b]) rfl (fun _ _ _ h => h)
  obtain ⟨y, hy1, hy2⟩ := mapO_mem hrs q hq
  have hyt := List.all_eq_true.1 h y hy2
  rcases q with ⟨x, ce, mq, ds⟩
  -- the frame is left
  have leave : ∀ (u : UM), exitU x = some u → ∀ (fr : Frame), fr.fn = f → fr.kind = .normal → ∀ ρ' e' rest D' s', fr.tmps = (A fn.ntmps (e' ++ rest) D').tmps → fr.defers = D' → MR ρ' u fr.mode → ER ρ' ce e' → DRs ρ' ds D' → Rel P ρ' mq (fun _ => False) R s' → T0 P os out Post (G fr []) s' := by
    intro u hu fr hf1 hf2 ρ' e' rest D' s' htm hdf hmr he hd hrel
    simp only [finOne, hu] at hy1
    cases huw : unwindC P call LF ds u mq with
    | none => rw [huw] at hy1; cases hy1
    | some um =>
    rcases um with ⟨u', m1⟩
    rw [huw] at hy1
    refine unwind_ok c0_closed hm hcall hT ds huw hmr hdf hd hrel fun ρ2 s2 mode2 hg2 hm2 hr2 => ?_
    cases hm2 with
    | ret =>
      simp only at hy1
      split at hy1 <;> try (cases hy1; done)
      rename_i vs hvs
      simp only [Option.some.injEq] at hy1; subst hy1
      obtain ⟨vs', g1, g2⟩ := resV_ok rest (he.up hg2.le) hr2 hvs
      have hbt : packV vs = .bool true := by
        have := isTrue_eq hyt
        simpa using this
      have hbt' : packV vs' = .bool true := by
        have := packV_vr g2
        rw [hbt] at this
        generalize packV vs' = q' at this
        cases this; rfl
      refine last_step (fr := { fr with defers := [], mode := .returning }) hfn hi hf1 hf2 rfl rfl ?_
      have : ({ fr with defers := [], mode := .returning } : Frame).tmps = (A fn.ntmps (e' ++ rest) []).tmps := htm
      rw [this]
      refine tri_results g1 fun w hag hos hout => ?_
      rw [hbt']
      have hro := hr2.ro
      rcases s2 with ⟨r2, l2⟩
      simp only at hro
      subst hro
      exact hPost w l2 hag hos hout
    | panic v v' hv =>
      simp only [Option.some.injEq] at hy1; subst hy1
      have := isTrue_eq hyt
      cases this
  refine ⟨fun x0 ρ' e' D' s' hxr hg he hd hrel => ?_, fun v hv ρ' v' e' rest D' s' hg hvr he hd hrel => ?_⟩
  · cases hxr with
    | normal => exact hcl.go rfl rfl (g' := G { fat b (A fn.ntmps e' D') [] with mode := .returning } []) (fun w => by simp [G, stepG, stepG.exec, fat, b]) (leave .ret rfl _ rfl rfl ρ' e' [] D' s' (by rw [List.append_nil]; rfl) rfl .ret he hd hrel)
    | ret => exact fun todo => hcl.go rfl rfl (g' := G { fat b (A fn.ntmps e' D') (.code .ret :: todo) with mode := .returning } []) (fun w => by simp [G, stepG, stepG.exec, fat, b]) (leave .ret rfl _ rfl rfl ρ' e' [] D' s' (by rw [List.append_nil]; rfl) rfl .ret he hd hrel)
    | exit id => simp [finOne, exitU] at hy1
  · subst hv
    exact fun todo => leave (.panic v) rfl _ rfl rfl ρ' e' rest D' s' rfl rfl (.panic _ _ hvr) he hd hrel
/-- THE WHOLE RUN: from a world whose blocks stay as they are. -/
theorem whole_run {P : Program} (hm : P.follows .mixedOrders = true) {call : CallT} (hcall : CallOK (C0 P) P call) {f : FuncId} {LF : Nat} (hi : P.inits.idxOf? f = none) (h : rootB P call LF f = true) (W : World) {Post : Value → World → Prop}
    (hPost : ∀ w : World, (∀ (b : Nat) (o : Obj), W.heap[b]? = some o → w.heap[b]? = some o) → w.os = W.os → w.output = W.output → Post (.bool true) w) :
    ∃ N last o w' t', runNT P (N + 1) (solo (G (Frame.enter P f #[] .normal) []) W) #[] = (.ended o w', t') ∧ runN P N (solo (G (Frame.enter P f #[] .normal) []) W) = .next last ∧ step P last = .ended o w' ∧ Good P Post last o w' t' := by
  have ha : Agrees ⟨fun b => W.heap[b]?, []⟩ W := ⟨fun _ _ h => h, (fun _ _ h => (by cases h)), by simp, (fun _ _ h => (by cases h))⟩
  exact t0_start ha (root_ok hm hcall hi h (R := fun b => W.heap[b]?) fun w l hag hos hout => hPost w (fun b o hb => hag.ro b o hb) hos hout)
end Go.L
namespace Go.L
open Go Go.Conc

/-! ### Short names for the tables' entries -/
abbrev zb (b : Bool) : Value := .bool b
abbrev zi (n : Int) : Value := .int .i64 n
abbrev zk (k : IntKind) (n : Int) : Value := .int k n
abbrev zs (l : List Nat) : Value := .string ⟨⟨l.map UInt8.ofNat⟩⟩
abbrev zp0 : Value := .pointer none
abbrev zp (b o : Nat) : Value := .pointer (some ⟨b, o, none⟩)
abbrev zl0 (l c : Nat) : Value := .slice none l c
abbrev zl (b o l c : Nat) : Value := .slice (some ⟨b, o, none⟩) l c
abbrev zm (r : Option Nat) : Value := .map r
abbrev zc (r : Option Nat) : Value := .chan r
abbrev zf (f : Nat) (x y : List Value) : Value := .func (.func f) ⟨x⟩ ⟨y⟩
abbrev zy (i : Nat) : Value := .func (.yield i) #[] #[]
abbrev zf0 : Value := .nilFunc
abbrev zt (t : Nat) (v : Value) : Value := .iface t v
abbrev zt0 : Value := .nilIface
abbrev za (l : List Value) : Value := .agg ⟨l⟩
abbrev zu (l : List Value) : Value := .tuple ⟨l⟩
abbrev zn : Tr CB := .nil
abbrev zo (l r : Tr CB) : Tr CB := .node none l r
abbrev zr (o : CObj) (l r : Tr CB) : Tr CB := .node (some ⟨true, o⟩) l r
abbrev zw (o : CObj) (l r : Tr CB) : Tr CB := .node (some ⟨false, o⟩) l r

/-! ### Entries, by one look each -/
def entB (P : Program) (fs : List FuncId) (tab : List TabE) (e : TabE) : Bool :=
  match gcC (exT P fs tab) (.fn e.f) e.args e.m with
  | some x => beqR x (e.r, e.m')
  | none => false
theorem entB_ok {C : Class} {P : Program} (hC : ∀ main T, C main T → Closed P main T) (hm : P.follows .mixedOrders = true) {fs : List FuncId} {tab : List TabE} (ht : AllT C P tab) {e : TabE} (h : entB P fs tab e = true) : TabOK C P e := by
  unfold entB at h
  split at h
  · rename_i x hx
    rw [beqR_eq h] at hx
    exact ent hC hm fs tab ht hx
  · cases h
def eachEB (P : Program) (x : EachP) (fs : List FuncId) (tab : List TabE) (e : TabE) : Bool :=
  match eachG P x (tabG fs tab (exT P fs tab)) e.args e.m with
  | some y => beqR y (e.r, e.m')
  | none => false
theorem eachEB_ok {P : Program} {x : EachP} (hx : x.OK P) (hm : P.follows .mixedOrders = true) {fs : List FuncId} {tab : List TabE} (ht : AllT (CA P) P tab) {e : TabE} (hf : e.f = x.f) (h : eachEB P x fs tab e = true) : TabOK (C0 P) P e := by
  unfold eachEB at h
  split at h
  · rename_i y hy
    rw [beqR_eq h] at hy
    exact entEach hx hm fs tab ht hf hy
  · cases h
theorem call_ok {C : Class} {P : Program} (hC : ∀ main T, C main T → Closed P main T) (hm : P.follows .mixedOrders = true) {fs : List FuncId} {tab : List TabE} (ht : AllT C P tab) : CallOK C P (tabG fs tab (exT P fs tab)) :=
  tabG_ok ht (exT_ok hC hm ht)
end Go.L
namespace Go.L
open Go Go.Conc

/-! ### An entry whose function is one long loop: its rounds in pieces -/
def nrounds (f : Env → Mem → List CD → Outs) : Nat → Env → Mem → Option (Env × Mem)
  | 0, ce, m => some (ce, m)
  | k + 1, ce, m => match f ce m [] with
    | some [⟨.normal, ce', m', []⟩] => nrounds f k ce' m'
    | _ => none
theorem nrounds_iter {f : Env → Mem → List CD → Outs} : ∀ {j : Nat} {ce ce' : Env} {m m' : Mem}, nrounds f j ce m = some (ce', m') → ∀ k, iterC f (k + j) ce m [] = iterC f k ce' m' []
  | 0, ce, ce', m, m', h, k => by
    simp only [nrounds, Option.some.injEq, Prod.mk.injEq] at h
    obtain ⟨rfl, rfl⟩ := h
    rfl
  | j + 1, ce, ce', m, m', h, k => by
    simp only [nrounds] at h
    split at h
    · rename_i ce1 m1 h1
      rw [← Nat.add_assoc]
      simp only [iterC, h1, bindO]
      exact nrounds_iter h k
    · cases h
def beqE : Env → Env → Bool
  | [], [] => true
  | a :: l, b :: m => Nat.beq a.1 b.1 && (beqV a.2 b.2 && beqE l m)
  | _, _ => false
theorem beqE_eq : ∀ {l m : Env}, beqE l m = true → l = m
  | [], [], _ => rfl
  | [], _ :: _, h => by simp [beqE] at h
  | _ :: _, [], h => by simp [beqE] at h
  | (a, v) :: l, (b, w) :: m, h => by
    simp only [beqE, Bool.and_eq_true] at h
    rw [Nat.eq_of_beq_eq_true h.1, beqV_eq h.2.1, beqE_eq h.2.2]
def isNE (o : Outs) (ce : Env) (m : Mem) : Bool :=
  match o with
  | some [⟨.normal, ce', m', []⟩] => beqE ce' ce && beqMem m' m
  | _ => false
theorem isNE_eq {o : Outs} {ce : Env} {m : Mem} (h : isNE o ce m = true) : o = some [⟨.normal, ce, m, []⟩] := by
  unfold isNE at h
  split at h
  · simp only [Bool.and_eq_true] at h
    rw [beqE_eq h.1, beqMem_eq h.2]
  · cases h
def isNR (o : Option (Env × Mem)) (ce : Env) (m : Mem) : Bool :=
  match o with
  | some (ce', m') => beqE ce' ce && beqMem m' m
  | none => false
theorem isNR_eq {o : Option (Env × Mem)} {ce : Env} {m : Mem} (h : isNR o ce m = true) : o = some (ce, m) := by
  unfold isNR at h
  split at h
  · simp only [Bool.and_eq_true] at h
    rw [beqE_eq h.1, beqMem_eq h.2]
  · cases h
def callT (P : Program) (fs : List FuncId) (tab : List TabE) : CallT := tabG fs tab (execF P 100000 (tabG fs tab) 199)
/-- the pieces of a text that is: something, then a loop in a block -/
def splA : Code → Code
  | .seq a _ => a
  | _ => .skip
def splB : Code → Code
  | .seq _ (.block _ (.loop b)) => b
  | _ => .skip
def splI : Code → Nat
  | .seq _ (.block id _) => id
  | _ => 0
def isSpl : Code → Bool
  | .seq _ (.block _ (.loop _)) => true
  | _ => false
theorem spl_eq {c : Code} (h : isSpl c = true) : c = .seq (splA c) (.block (splI c) (.loop (splB c))) := by
  unfold isSpl at h
  split at h
  · rfl
  · cases h
def codeA (P : Program) (f : FuncId) : Code := (((P.funcs[f]?).getD default).body).getD .skip
def tmpsA (P : Program) (f : FuncId) : Nat := ((P.funcs[f]?).getD default).ntmps
def bodyX (P : Program) (fs : List FuncId) (tab : List TabE) (f : FuncId) : Env → Mem → List CD → Outs := execC P (callT P fs tab) f true (tmpsA P f) 100000 (splB (codeA P f))
def preX (P : Program) (fs : List FuncId) (tab : List TabE) (e : TabE) : Outs := execC P (callT P fs tab) e.f true (tmpsA P e.f) 100000 (splA (codeA P e.f)) (envL 0 e.args) e.m []
def postX (P : Program) (fs : List FuncId) (tab : List TabE) (e : TabE) (o : Outs) : Bool :=
  match o with
  | some l => match mapO (finOne P (callT P fs tab) 100000 ((P.funcs[e.f]?).getD default)) (l.map (leaveB (splI (codeA P e.f)))) with
    | some rs => match collapse e.m.next rs with
      | some x => match canonR e.m.next x with
        | some y => beqR y (e.r, e.m')
        | none => false
      | none => false
    | none => false
  | none => false
def shapeX (P : Program) (e : TabE) : Bool :=
  match P.funcs[e.f]? with
  | some fn => (match fn.body with
    | some c => isSpl c && Nat.ble e.args.length fn.ntmps
    | none => false)
  | none => false
theorem loop_ent {C : Class} {P : Program} (hC : ∀ main T, C main T → Closed P main T) (hm : P.follows .mixedOrders = true) {fs : List FuncId} {tab : List TabE} (ht : AllT C P tab) {e : TabE} (hs : shapeX P e = true)
    {ce0 ceJ : Env} {m0 mJ : Mem} {k : Nat} (h0 : isNE (preX P fs tab e) ce0 m0 = true) (hJ : iterC (bodyX P fs tab e.f) 100000 ce0 m0 [] = iterC (bodyX P fs tab e.f) k ceJ mJ []) (h1 : postX P fs tab e (iterC (bodyX P fs tab e.f) k ceJ mJ []) = true) : TabOK C P e := by
  unfold shapeX at hs
  split at hs <;> try (cases hs; done)
  rename_i fn hfn
  split at hs <;> try (cases hs; done)
  rename_i c hb
  simp only [Bool.and_eq_true] at hs
  have hc : codeA P e.f = c := by simp [codeA, hfn, hb]
  have hn : tmpsA P e.f = fn.ntmps := by simp [tmpsA, hfn]
  have hg : (P.funcs[e.f]?).getD default = fn := by simp [hfn]
  have h0 := isNE_eq h0
  rw [← hJ] at h1
  unfold preX at h0
  unfold postX bodyX at h1
  rw [hc, hn] at h0
  rw [hc, hn, hg] at h1
  split at h1 <;> try (cases h1; done)
  rename_i l hl
  split at h1 <;> try (cases h1; done)
  rename_i rs hrs
  split at h1 <;> try (cases h1; done)
  rename_i x hx
  split at h1 <;> try (cases h1; done)
  rename_i y hy
  refine ent hC hm fs tab ht ?_
  have hexec : execC P (callT P fs tab) e.f true fn.ntmps 100000 c (envL 0 e.args) e.m [] = some (l.map (leaveB (splI c))) := by
    rw [spl_eq hs.1]
    simp only [execC]
    rw [h0]
    simp only [bindO]
    rw [hl]
    rfl
  have hrun : exT P fs tab (.fn e.f) e.args e.m = some x := by
    show execF P 100000 (tabG fs tab) 200 (.fn e.f) e.args e.m = some x
    simp only [execF, hfn, hb, hs.2, cond_true]
    have he : execC P (tabG fs tab (execF P 100000 (tabG fs tab) 199)) e.f true fn.ntmps 100000 c (envL 0 e.args) e.m [] = some (l.map (leaveB (splI c))) := hexec
    have hr : mapO (finOne P (tabG fs tab (execF P 100000 (tabG fs tab) 199)) 100000 fn) (l.map (leaveB (splI c))) = some rs := hrs
    rw [he]
    simp only [hr]
    exact hx
  simp only [gcC, hrun, hy]
  rw [beqR_eq h1]
end Go.L
