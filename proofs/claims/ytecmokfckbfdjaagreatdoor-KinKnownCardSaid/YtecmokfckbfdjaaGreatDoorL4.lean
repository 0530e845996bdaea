/- The library of this proof, part 4: a program logic, an executor with its soundness, a theorem on goroutines. -/
import Derived.Test.YtecmokfckbfdjaaGreatDoorL3
import Derived.Conc.CrowdStepC
import Derived.Conc.Holds
import Derived.Conc.Own2
import Derived.Conc.TokenWalk
set_option linter.all false
namespace Go.L
open Go Go.Conc
open Go.ConcR (KK wgBlock WgAt stA smA rd wr)

def CK.phi (mx : Nat) : CK → Nat
  | .kd => 2 * mx + 9
  | .w1 b => 2 * b + 8
  | .w2 b _ => 2 * b + 9
  | .wr => 7
  | .w3 | .blk => 6
  | .w4 => 5
  | .ke => 4
  | .aq => 3
  | .run _ => 2
def CK.tree : CK → Tree
  | .run tr => tr
  | _ => .leaf
def cloMu (mx : Nat) : Clo → Nat × Tree × Nat
  | none => (0, .leaf, 0)
  | some (_, c, n) => (c.phi mx, c.tree, n)

section
variable {ι : Type} {E : Crew ι} {L : Nat → Option Obj} {K : Nat → St} {gs : Array Goroutine} {w w' : World} {t u : Trace} {D : List (Role ι)} {pend d0 : Nat} {main : Goroutine} {sl : Option (Nat × Nat)}
  {ic : Nat} {g g' : Goroutine} {es : Array Event} {c : CK} {n : Nat}

/-- The machine behind a step of the closer's. -/
def GoesC (E : Crew ι) (L : Nat → Option Obj) (K : Nat → St) (D : List (Role ι)) (pend : Nat) (ic : Nat) (c : CK) (n : Nat) (main : Goroutine) (d0 : Nat) (m : Machine) (sl : Option (Nat × Nat)) (t : Trace) : Prop :=
  ∃ K' gs' w' u c' n', runT E.P m (ic + 1) = (.next (crowd gs' w' sl), u) ∧ Inv E L K' gs' w' (t ++ u) D pend (some (ic, c', n')) main d0 ∧ K' 0 = K 0 ∧ MuLt (cloMu E.max (some (ic, c', n'))) (cloMu E.max (some (ic, c, n)))

theorem Inv.goC (h : Inv E L K gs w t D pend (some (ic, c, n)) main d0) (hm : MainOK E main) {c' : CK} {n' : Nat} {s' : St}
    (hg : gs[ic + 1]? = some g) (hgo : stepG E.P false g w = .go g' w' es) (hsm : Same w w')
    (hs1 : ¬ s'.knows E.Wg) (hs2 : ¬ s'.knows E.Ch) (hch : w'.heap[E.Ch]? = w.heap[E.Ch]?)
    (hfit : Fit L (setK K (ic + 1) s') w' (t ++ MemOp.ofEvents (ic + 1) g.frame.fn g.frame.place es))
    (htouch : ∀ op ∈ MemOp.ofEvents (ic + 1) g.frame.fn g.frame.place es, ∀ x, op.act.touch? = some x → E.At x → x.kind ≠ .plain)
    (hsaid : c'.early → c.early ∧ ∀ op ∈ MemOp.ofEvents (ic + 1) g.frame.fn g.frame.place es, ∀ x, op.act.touch? = some x → blk x.loc = some E.Wg → x.kind ≠ .said)
    (hrel : ∀ op ∈ MemOp.ofEvents (ic + 1) g.frame.fn g.frame.place es, ∀ a, op.act ≠ .mark (.release a))
    (hcells : ∃ st sm, WgAt E.ty E.Wg w' st sm ∧ Md E.max (tot Role.cnt D + pend) (tot Role.c4 D) (tot Role.c3 D) (tot Role.c2 D) (some c') st sm)
    (hdf : deafBehind c.deaf es = c'.deaf) (hat : c'.at E s' g' n') (hacq : (∃ tr, c' = .run tr) → AcqAll E (t ++ MemOp.ofEvents (ic + 1) g.frame.fn g.frame.place es) D ic)
    (hmu : MuLt (cloMu E.max (some (ic, c', n'))) (cloMu E.max (some (ic, c, n)))) :
    GoesC E L K D pend ic c n main d0 (crowd gs w sl) sl t := by
  have hu : ∀ op ∈ MemOp.ofEvents (ic + 1) g.frame.fn g.frame.place es, op.g = ic + 1 := fun op hop => Go.ConcR.g_of_ofEvents op hop
  obtain ⟨h1, h2, h3, ⟨gc, hgc, hat0⟩, h5⟩ := h.sy.clo
  have hlt := (List.getElem?_eq_some_iff.1 h1).1
  obtain ⟨sn, rc, tm, hc⟩ := h.sy.chan
  have hc' : w'.heap[E.Ch]? = some (.chan 0 #[] false sn rc tm) := by rw [hch]; exact hc
  have eD : D.set ic Role.closer = D := by obtain ⟨hl, e⟩ := List.getElem?_eq_some_iff.1 h1; rw [← e]; simp
  have hbase := h.base.step (g := g) (g' := g') (r' := .closer) hlt hu hsm hfit trivial fun _ _ _ _ => ⟨sn, rc, tm, hc'⟩
  rw [eD] at hbase
  have hrun := runT_crowd_go (P := E.P) (sl := sl) (i := ic + 1) hg (by simpa using hgo)
  have hid : ∀ b, ¬ s'.knows b → (∀ j, ¬ (K j).knows b) → ∀ j, ¬ (setK K (ic + 1) s' j).knows b := fun b h1 h2 j => by
    by_cases e : j = ic + 1
    · subst e; rw [setK_same]; exact h1
    · rw [setK_ne _ _ e]; exact h2 j
  have old : ∀ p x, touchAt (t ++ MemOp.ofEvents (ic + 1) g.frame.fn g.frame.place es) p = some x → E.At x → x.kind = .plain → touchAt t p = some x := fun p x hx hb hk => by
    rcases touchAt_cases hx with ⟨_, h'⟩ | ⟨_, op, hm, _, hxo⟩
    · exact h'
    · exact absurd hk (htouch op hm x hxo hb)
  refine ⟨_, _, w', _, c', n', hrun, ⟨hbase, ⟨hid _ hs1 h.sy.kW, hid _ hs2 h.sy.kC, h.sy.lW, h.sy.lC, h.sy.ne, fun a => (h.sy.norel a).app fun op hop => hrel op hop a, fun j hj p x hx hb hk => (h.sy.plain j hj p x (old p x hx hb hk) hb hk).app _, fun he p x hx hb hk => ?_, hcells, h.sy.most, ⟨sn, rc, tm, hc'⟩, fun sn rc tm hc => h.sy.bal sn rc tm (by rw [← hch]; exact hc),
    ⟨h1, h2, by rw [Deaf_own, h3]; exact hdf, ⟨g', by simp [h.base.size, hlt], by rw [setK_same]; exact hat⟩, hacq⟩⟩, ?_, ?_⟩, setK_ne _ _ (by omega), hmu⟩
  · rcases touchAt_cases hx with ⟨_, h'⟩ | ⟨_, op, hm, _, hxo⟩
    · exact (h.sy.said (hsaid he).1 p x h' hb hk).app _
    · exact absurd hk ((hsaid he).2 op hm x hxo hb)
  · rw [get_woken (by omega) h.main, hm.woken _ _ hc']
  · rw [Deaf_others _ _ fun op hop => by rw [hu op hop]; omega]; exact h.deaf

/-- .. of which others notice nothing but the group. -/
theorem Inv.syncC (h : Inv E L K gs w t D pend (some (ic, c, n)) main d0) (hm : MainOK E main) {c' : CK} {n' : Nat}
    (hg : gs[ic + 1]? = some g) (hgo : stepG E.P false g w = .go g' w' es) (hw : Turned E w w') (hes : ∀ e ∈ es, SyncEv E e) (hearly : c'.early → c.early)
    (hcells : ∃ st sm, WgAt E.ty E.Wg w' st sm ∧ Md E.max (tot Role.cnt D + pend) (tot Role.c4 D) (tot Role.c3 D) (tot Role.c2 D) (some c') st sm)
    (hdf : deafBehind c.deaf es = c'.deaf) (hat : c'.at E (K (ic + 1)) g' n') (hacq : (∃ tr, c' = .run tr) → AcqAll E (t ++ MemOp.ofEvents (ic + 1) g.frame.fn g.frame.place es) D ic)
    (hmu : MuLt (cloMu E.max (some (ic, c', n'))) (cloMu E.max (some (ic, c, n)))) :
    GoesC E L K D pend ic c n main d0 (crowd gs w sl) sl t := by
  have ho := SyncEv.ops hes (ic + 1) g.frame.fn g.frame.place
  refine h.goC hm hg hgo hw.same (h.sy.kW _) (h.sy.kC _) (hw.block _ (Ne.symm h.sy.ne)) ?_ (fun op hop x hx _ => by rw [((ho op hop).2.2 x hx).2]; simp) (fun e => ⟨hearly e, fun op hop x hx _ => by rw [((ho op hop).2.2 x hx).2]; simp⟩)
    (fun op hop => (ho op hop).2.1) hcells hdf hat hacq hmu
  rw [setK_self]
  exact h.sy.fit_sync h.base.fit (.inr ⟨ic, _, rfl, h.sy.clo.1, rfl⟩) hw hes _ _

/-- A move that lists nothing. -/
theorem Inv.pureC (h : Inv E L K gs w t D pend (some (ic, c, n)) main d0) (hm : MainOK E main) {n' : Nat} (hg : gs[ic + 1]? = some g) (hnr : ∀ tr, c ≠ .run tr)
    (hst : ∀ w, E.live w → stepG E.P false g w = .go g' w #[]) (hat : c.at E (K (ic + 1)) g' n') (hn : n' < n) : GoesC E L K D pend ic c n main d0 (crowd gs w sl) sl t := by
  obtain ⟨st, sm, ha, hmd⟩ := h.sy.cells
  exact h.syncC hm hg (hst w ⟨st, sm, ha⟩) (Turned.refl w) (by simp) (fun e => e) ⟨st, sm, ha, hmd⟩ rfl hat (fun ⟨tr, e⟩ => absurd e (hnr tr)) (mul_num hn)

theorem Md.zero {mx n a b c : Nat} {k : CK} {st sm : Int} (h : Md mx n a b c (some k) st sm) (hk : k = .kd ∨ (∃ b, k = .w1 b) ∨ ∃ b v, k = .w2 b v) : st = (n : Int) * KK ∧ sm = 0 ∧ a = 0 ∧ b = 0 ∧ c = 0 ∧ (∀ b, k = .w1 b → n ≤ b) ∧ ∀ b v, k = .w2 b v → n ≤ v ∧ 1 ≤ v ∧ v ≤ b + 1 := by
  have nw : ¬ k.waits ∧ ¬ k.over := by rcases hk with rfl | ⟨_, rfl⟩ | ⟨_, _, rfl⟩ <;> exact ⟨id, id⟩
  cases h with
  | kd => exact ⟨rfl, rfl, rfl, rfl, rfl, (fun _ e => (by cases e)), (fun _ _ e => (by cases e))⟩
  | w1 h1 => exact ⟨rfl, rfl, rfl, rfl, rfl, (fun _ e => by cases e; exact h1), (fun _ _ e => (by cases e))⟩
  | w2 h1 h2 h3 => exact ⟨rfl, rfl, rfl, rfl, rfl, (fun _ e => (by cases e)), (fun _ _ e => by cases e; exact ⟨h1, h2, h3⟩)⟩
  | reg h1 _ => exact absurd h1 nw.1
  | l4 h1 => exact absurd h1 nw.1
  | l3 h1 => exact absurd h1 nw.1
  | l2 h1 => exact absurd h1 nw.1
  | sema h1 _ => exact absurd h1 nw.1
  | over h1 => exact absurd h1 nw.2
theorem Md.waiting {mx n a b c : Nat} {k k' : CK} {st sm : Int} (h : Md mx n a b c (some k) st sm) (hk : k.waits) (hk' : k'.waits) (hb : k' ≠ .blk ∨ sm = 0) : Md mx n a b c (some k') st sm := by
  cases h with
  | kd => exact hk.elim
  | w1 _ => exact hk.elim
  | w2 _ _ _ => exact hk.elim
  | reg _ h2 => exact .reg hk' h2
  | l4 _ => exact .l4 hk'
  | l3 _ => exact .l3 hk'
  | l2 _ => exact .l2 hk'
  | sema _ _ => exact .sema hk' (hb.resolve_right (by decide))
  | over h1 => cases k <;> first | exact hk.elim | exact h1.elim
theorem Md.up {mx n a b c : Nat} {k : CK} {st sm : Int} (h : Md mx n a b c (some k) st sm) (hk : k.waits) : (∃ x, x = st ∧ sm = 0) ∨ (st = 0 ∧ sm = 1 ∧ n = 0 ∧ a = 0 ∧ b = 0 ∧ c = 0) := by
  cases h with
  | kd => exact hk.elim
  | w1 _ => exact hk.elim
  | w2 _ _ _ => exact hk.elim
  | reg _ _ => exact .inl ⟨_, rfl, rfl⟩
  | l4 _ => exact .inl ⟨_, rfl, rfl⟩
  | l3 _ => exact .inl ⟨_, rfl, rfl⟩
  | l2 _ => exact .inl ⟨_, rfl, rfl⟩
  | sema _ _ => exact .inr ⟨rfl, rfl, rfl, rfl, rfl, rfl⟩
  | over h1 => cases k <;> first | exact hk.elim | exact h1.elim

theorem said_sync : (∀ e ∈ #[said .disable], SyncEv E e) ∧ (∀ e ∈ #[said .enable], SyncEv E e) ∧ (∀ e ∈ #[said (.acquire (stA E.Wg))], SyncEv E e) ∧ (∀ e ∈ #[rd (stA E.Wg)], SyncEv E e) ∧ (∀ e ∈ #[rd (stA E.Wg), wr (stA E.Wg)], SyncEv E e) ∧ (∀ e ∈ semEvents (smA E.Wg), SyncEv E e) := by
  refine ⟨?_, ?_, ?_, ?_, ?_, ?_⟩
  · intro e he; simp at he; subst he; exact .inl rfl
  · intro e he; simp at he; subst he; exact .inr (.inl rfl)
  · intro e he; simp at he; subst he; exact .inr (.inr (.inr (.inl rfl)))
  · intro e he; simp at he; subst he; exact wg_sync 0 _
  · intro e he; simp at he; rcases he with rfl | rfl <;> exact wg_sync 0 _
  · intro e he; simp [semEvents] at he
    rcases he with rfl | rfl | rfl | rfl
    · exact .inl rfl
    · exact wg_sync 1 _
    · exact wg_sync 1 _
    · exact .inr (.inl rfl)
end
end Go.L
namespace Go.L
open Go Go.Conc
open Go.ConcR (KK wgBlock WgAt stA smA rd wr)

section
variable {ι : Type} {E : Crew ι} {L : Nat → Option Obj} {K : Nat → St} {gs : Array Goroutine} {w w' : World} {t u : Trace} {D : List (Role ι)} {pend d0 : Nat} {main : Goroutine} {sl : Option (Nat × Nat)}
  {ic : Nat} {g g' : Goroutine} {es : Array Event} {c : CK} {n : Nat}

/-- A step of the closer's, till it closes the channel. -/
theorem Inv.closer (h : Inv E L K gs w t D pend (some (ic, c, n)) main d0) (hm : MainOK E main) (hg : gs[ic + 1]? = some g) (hs : g.status = .running) (hnr : c ≠ .run .leaf) :
    GoesC E L K D pend ic c n main d0 (crowd gs w sl) sl t := by
  obtain ⟨_, _, hdf, ⟨gc, hgc, hat⟩, hacq⟩ := h.sy.clo
  obtain rfl : gc = g := by rw [hg] at hgc; exact (Option.some.inj hgc).symm
  obtain ⟨st, sm, ha, hmd⟩ := h.sy.cells
  obtain ⟨s1, s2, s3, s4, s5, s6⟩ := said_sync (E := E)
  cases c with
  | kd =>
    cases n with
    | succ n => obtain ⟨_, g', hst, hp⟩ := hat; exact h.pureC hm hg (by simp) hst hp (Nat.lt_succ_self n)
    | zero =>
      obtain ⟨_, g', hst, n', hp⟩ := hat
      obtain ⟨rfl, rfl, e4, e3, e2, _⟩ := hmd.zero (.inl rfl)
      refine h.syncC hm (c' := .w1 E.max) hg (hst w) (Turned.refl w) s1 (fun _ => trivial) ⟨_, _, ha, ?_⟩ rfl hp (fun ⟨_, e⟩ => (by cases e)) (mul_fst (by simp [cloMu, CK.phi]))
      rw [e4, e3, e2]; exact .w1 h.sy.most
  | w1 b =>
    cases n with
    | succ n =>
      have : ∃ g', (∀ w, E.live w → stepG E.P false gc w = .go g' w #[]) ∧ Pure E.P false E.live (E.W1 (K (ic + 1)) b) n g' := hat.2
      obtain ⟨g', hst, hp⟩ := this
      exact h.pureC hm hg (by simp) hst hp (Nat.lt_succ_self n)
    | zero =>
      obtain ⟨rfl, rfl, e4, e3, e2, hb, _⟩ := hmd.zero (.inr (.inl ⟨b, rfl⟩))
      have hle := hb b rfl
      rw [e4, e3, e2] at hmd
      have out : (∃ g', (∀ w, WgAt E.ty E.Wg w 0 0 → stepG E.P false gc w = .go g' w #[rd (stA E.Wg)]) ∧ E.pure false (E.Ke (K (ic + 1))) g') → tot Role.cnt D + pend = 0 → GoesC E L K D pend ic (.w1 b) 0 main d0 (crowd gs w sl) sl t := by
        rintro ⟨g', hst, n', hp⟩ h0
        rw [h0] at ha
        have ha' : WgAt E.ty E.Wg w 0 0 := by simpa using ha
        refine h.syncC hm (c' := .ke) hg (hst w ha') (Turned.refl w) s4 (fun e => e.elim) ⟨_, _, ha', ?_⟩ rfl hp (fun ⟨_, e⟩ => (by cases e)) (mul_fst (by simp [cloMu, CK.phi]))
        rw [e4, e3, e2, h0]; exact .over trivial
      cases b with
      | zero => exact out hat.2 (by omega)
      | succ b =>
        obtain ⟨_, h0, hv⟩ := hat
        by_cases hz : tot Role.cnt D + pend = 0
        · exact out h0 hz
        · obtain ⟨g', hst, n', hp⟩ := hv (tot Role.cnt D + pend) (by omega) hle
          refine h.syncC hm (c' := .w2 b (tot Role.cnt D + pend)) hg (hst w ha) (Turned.refl w) s4 (fun _ => trivial) ⟨_, _, ha, ?_⟩ rfl hp (fun ⟨_, e⟩ => (by cases e)) (mul_fst (by simp only [cloMu, CK.phi]; omega))
          rw [e4, e3, e2]; exact .w2 (Nat.le_refl _) (by omega) hle
  | w2 b v =>
    cases n with
    | succ n => obtain ⟨_, g', hst, hp⟩ := hat; exact h.pureC hm hg (by simp) hst hp (Nat.lt_succ_self n)
    | zero =>
      obtain ⟨rfl, rfl, e4, e3, e2, _, hb⟩ := hmd.zero (.inr (.inr ⟨b, v, rfl⟩))
      obtain ⟨h1, h2, h3⟩ := hb b v rfl
      obtain ⟨_, ⟨g₁, hst1, n1, hp1⟩, hmiss⟩ := hat
      by_cases hv : tot Role.cnt D + pend = v
      · rw [hv] at ha
        refine h.syncC hm (c' := .wr) hg (hst1 w ha) (Turned.set w 0 _) s5 (fun _ => trivial) ⟨_, _, Go.ConcR.WgAt.setSt ha _, ?_⟩ rfl hp1 (fun ⟨_, e⟩ => (by cases e)) (mul_fst (by simp only [cloMu, CK.phi]; omega))
        rw [e4, e3, e2, hv]; exact .reg trivial h2
      · obtain ⟨g₂, hst2, n2, hp2⟩ := hmiss (tot Role.cnt D + pend) (by omega)
        refine h.syncC hm (c' := .w1 b) hg (hst2 w ha) (Turned.refl w) s4 (fun _ => trivial) ⟨_, _, ha, ?_⟩ rfl hp2 (fun ⟨_, e⟩ => (by cases e)) (mul_fst (by simp only [cloMu, CK.phi]; omega))
        rw [e4, e3, e2]; exact .w1 (by omega)
  | wr =>
    cases n with
    | succ n => obtain ⟨_, g', hst, hp⟩ := hat; exact h.pureC hm hg (by simp) hst hp (Nat.lt_succ_self n)
    | zero =>
      obtain ⟨_, g', hst, n', hp⟩ := hat
      have e1 : MemOp.ofEvents (ic + 1) gc.frame.fn gc.frame.place #[said (.write (smA E.Wg))] = #[{ g := ic + 1, fn := gc.frame.fn, pos := gc.frame.place, act := .mark (.write (smA E.Wg)) }] := by rw [ofEvents_eq]; simp [said, Go.ConcR.ofEvent_mk]
      refine h.goC hm (c' := .w3) (n' := n' + 1) (s' := K (ic + 1)) hg (hst w) ⟨rfl, rfl⟩ (h.sy.kW _) (h.sy.kC _) rfl ?_ (fun op hop x hx _ => ?_) (fun e => e.elim) (fun op hop => ?_)
        ⟨_, _, ha, hmd.waiting trivial trivial (.inl (by simp))⟩ rfl ⟨n', rfl, hp⟩ (fun ⟨_, e⟩ => (by cases e)) (mul_fst (by simp [cloMu, CK.phi]))
      · rw [setK_self, e1]
        refine h.base.fit.beside E.Wg (ic + 1) h.sy.kW h.sy.lW (lt_size ha) (Nat.le_refl _) (fun _ _ _ => rfl) (by simp) fun op hop x hx => ?_
        simp only [List.mem_toArray, List.mem_singleton] at hop
        subst hop
        simp only [MemAct.touch?, Option.some.injEq] at hx
        subst hx
        refine ⟨rfl, fun sd p a ha' hc => ?_⟩
        have hl : blk a.loc = some E.Wg := by rw [hc.1]; rfl
        rcases hc.2.2.2 with h3 | h3 | h3
        · exact h.sy.plain _ (.inr ⟨ic, _, rfl, h.sy.clo.1, rfl⟩) p a ha' (.inl hl) h3
        · cases h3
        · exact h.sy.said trivial p a ha' hl h3.2.1
      · rw [e1] at hop
        simp only [List.mem_toArray, List.mem_singleton] at hop
        subst hop
        simp only [MemAct.touch?, Option.some.injEq] at hx
        subst hx
        simp
      · rw [e1] at hop
        simp only [List.mem_toArray, List.mem_singleton] at hop
        subst hop
        simp
  | w3 =>
    obtain ⟨m, rfl, hp⟩ := hat
    cases m with
    | succ m => obtain ⟨_, g', hst, hp⟩ := hp; exact h.pureC hm hg (by simp) hst ⟨m, rfl, hp⟩ (Nat.lt_succ_self _)
    | zero =>
      have hp0 : E.W3 (K (ic + 1)) gc := hp
      obtain ⟨h1, h2, hb, g', hst, n', hp⟩ := hp
      rcases hmd.up trivial with ⟨_, rfl, rfl⟩ | ⟨rfl, rfl, e1, e4, e3, e2⟩
      · refine h.syncC hm (c' := .blk) (n' := 0) hg (hb w _ ha) (Turned.refl w) (by simp) (fun e => e.elim) ⟨_, _, ha, hmd.waiting trivial trivial (.inr rfl)⟩ rfl ⟨rfl, gc, hp0, rfl⟩ (fun ⟨_, e⟩ => (by cases e)) (mul_num (Nat.lt_succ_self 0))
      · refine h.syncC hm (c' := .w4) hg (hst w ha) (Turned.set w 1 _) s6 (fun e => e.elim) ⟨_, _, Go.ConcR.WgAt.setSm ha _, ?_⟩ rfl hp (fun ⟨_, e⟩ => (by cases e)) (mul_fst (by simp [cloMu, CK.phi]))
        rw [e1, e4, e3, e2]; exact .over trivial
  | blk =>
    obtain ⟨_, g₀, _, e⟩ := hat
    rw [e] at hs; cases hs
  | w4 =>
    obtain ⟨e1, e4, e3, e2, rfl, rfl⟩ := hmd.run rfl trivial
    cases n with
    | succ n => obtain ⟨_, g', hst, hp⟩ := hat; exact h.pureC hm hg (by simp) hst hp (Nat.lt_succ_self n)
    | zero =>
      obtain ⟨_, g', hst, n', hp⟩ := hat
      refine h.syncC hm (c' := .ke) hg (hst w ha) (Turned.refl w) s4 (fun e => e.elim) ⟨_, _, ha, ?_⟩ rfl hp (fun ⟨_, e⟩ => (by cases e)) (mul_fst (by simp [cloMu, CK.phi]))
      rw [e1, e4, e3, e2]; exact .over trivial
  | ke =>
    obtain ⟨e1, e4, e3, e2, rfl, rfl⟩ := hmd.run rfl trivial
    cases n with
    | succ n => obtain ⟨_, g', hst, hp⟩ := hat; exact h.pureC hm hg (by simp) hst hp (Nat.lt_succ_self n)
    | zero =>
      obtain ⟨_, g', hst, n', hp⟩ := hat
      refine h.syncC hm (c' := .aq) hg (hst w) (Turned.refl w) s2 (fun e => e.elim) ⟨_, _, ha, ?_⟩ rfl hp (fun ⟨_, e⟩ => (by cases e)) (mul_fst (by simp [cloMu, CK.phi]))
      rw [e1, e4, e3, e2]; exact .over trivial
  | aq =>
    obtain ⟨e1, e4, e3, e2, rfl, rfl⟩ := hmd.run rfl trivial
    cases n with
    | succ n => obtain ⟨_, g', hst, hp⟩ := hat; exact h.pureC hm hg (by simp) hst hp (Nat.lt_succ_self n)
    | zero =>
      obtain ⟨_, g', hst, tr, s₀, hle, hp⟩ := hat
      have q1 : MemOp.ofEvents (ic + 1) gc.frame.fn gc.frame.place #[said (.acquire (stA E.Wg))] = #[{ g := ic + 1, fn := gc.frame.fn, pos := gc.frame.place, act := .mark (.acquire (stA E.Wg)) }] := by rw [ofEvents_eq]; simp [said, Go.ConcR.ofEvent_mk]
      have hy : (t ++ #[({ g := ic + 1, fn := gc.frame.fn, pos := gc.frame.place, act := .mark (.acquire (stA E.Wg)) } : MemOp)])[t.size]? = some { g := ic + 1, fn := gc.frame.fn, pos := gc.frame.place, act := .mark (.acquire (stA E.Wg)) } := by simp
      refine h.goC hm (c' := .run tr) (n' := 0) (s' := s₀) hg (hst w) ⟨rfl, rfl⟩ (fun hk => h.sy.kW _ (hle.knows hk)) (fun hk => h.sy.kC _ (hle.knows hk)) rfl ?_
        (fun op hop x hx _ => by rw [((SyncEv.ops s3 _ _ _ op hop).2.2 x hx).2]; simp) (fun e => e.elim) (fun op hop => (SyncEv.ops s3 _ _ _ op hop).2.1) ⟨_, _, ha, ?_⟩ rfl ⟨rfl, hp⟩ (fun _ => ?_) (mul_fst (by simp [cloMu, CK.phi]))
      · refine (h.sy.fit_sync h.base.fit (.inr ⟨ic, _, rfl, h.sy.clo.1, rfl⟩) (Turned.refl w) s3 _ _).le fun j => ?_
        by_cases e : j = ic + 1
        · subst e; rw [setK_same]; exact hle
        · rw [setK_ne _ _ e]; exact St.le_refl _
      · rw [e1, e4, e3, e2]; exact .over trivial
      · rw [q1]
        refine ⟨t.size, by rw [act?_of hy], by simp [Trace.g?], ⟨ic + 1, by simp [Trace.g?], by rw [deaf_old (Nat.le_refl _)]; exact hdf⟩, fun i r hi hc => ?_⟩
        obtain ⟨x, hx, hok⟩ := h.base.ok i r hi
        cases r with
        | leave q d cur =>
          obtain ⟨p, hp⟩ := hok.2.2.2.1 hc
          have hne : i ≠ ic := fun e => by subst e; rw [h.sy.clo.1] at hi; cases hi
          refine ⟨p, RelBy.other hp (fun op hop => by simp at hop; subst hop; simp; omega), lt_of_act? hp.act⟩
        | _ => cases hc
  | run tr =>
    obtain ⟨e1, e4, e3, e2, rfl, rfl⟩ := hmd.run rfl trivial
    obtain ⟨rfl, hp⟩ := hat
    cases tr with
    | leaf => exact absurd rfl hnr
    | node f =>
      obtain ⟨_, hstep⟩ := hp
      obtain ⟨g', w', es, s', hst, hrun, ht, htr⟩ := hstep w (h.base.fit.agr _)
      obtain ⟨k1, k2, k3, k4, k5, k6⟩ := h.sy.own_side ht gc.frame.fn gc.frame.place
      refine h.goC hm (c' := .run (f w)) (n' := 0) hg hst ⟨ht.os, ht.output⟩ k1 k2 k4 (h.base.fit.own ht _ _) (fun op hop x hx hb => absurd hb (k5 op hop x hx)) (fun e => e.elim) k6
        ⟨0, 0, by unfold WgAt; rw [k3]; exact ha, by rw [e1, e4, e3, e2]; exact .over trivial⟩ (ht.deaf _) ⟨rfl, htr⟩ (fun _ => ?_) (mul_tree (.mk f w))
      have := (hacq ⟨_, rfl⟩).step (r := .closer) (r' := .closer) h.sy.clo.1 (u := MemOp.ofEvents (ic + 1) gc.frame.fn gc.frame.place es) (fun op hop => Go.ConcR.g_of_ofEvents op hop) (fun e => e) (fun e => (by cases e))
      rwa [show D.set ic Role.closer = D from by obtain ⟨hl, e⟩ := List.getElem?_eq_some_iff.1 h.sy.clo.1; rw [← e]; simp] at this
end
end Go.L
namespace Go.L
open Go Go.Conc
open Go.ConcR (KK wgBlock WgAt stA smA rd wr)

section
variable {ι : Type} {E : Crew ι} {L : Nat → Option Obj} {K : Nat → St} {gs : Array Goroutine} {w w' : World} {t u : Trace} {D : List (Role ι)} {pend d0 : Nat} {cl : Clo} {main : Goroutine} {sl : Option (Nat × Nat)}
  {i : Nat} {g g' : Goroutine} {es : Array Event}

theorem offersAt_none {g : Goroutine} (h : g.offers = none) (r : Nat) (send : Bool) : offersAt g r send = [] := by
  unfold offersAt
  split
  · rename_i h'; rw [h] at h'; cases h'
  · rfl
theorem not_blocked {g : Goroutine} (h : g.status = .running ∨ g.status = .finished) (r : Nat) (send : Bool) : offersAt g r send = [] :=
  offersAt_of_not_blocked (by rcases h with h | h <;> rw [h] <;> simp) r send

/-- Who among the others offers what at the channel. -/
theorem Inv.offers (h : Inv E L K gs w t D pend cl main d0) {j : Nat} {x : Goroutine} (hj : gs[j + 1]? = some x) :
    (∃ o g₂ v zs, D[j]? = some (.sendB o) ∧ x = parked g₂ #[scase E.Ch v zs] .send) ∨ ∀ r send, offersAt x r send = [] := by
  have hlt : j < D.length := by have := lt_size hj; have := h.base.size; omega
  have hD : D[j]? = some D[j] := List.getElem?_eq_getElem hlt
  obtain ⟨y, hy, hok⟩ := h.base.ok j _ hD
  obtain rfl : y = x := by rw [hj] at hy; exact (Option.some.inj hy).symm
  by_cases hb : ∃ o, D[j] = .sendB o
  · obtain ⟨o, e⟩ := hb
    rw [e] at hok
    obtain ⟨_, g₀, g₂, v, zs, X, Y, rfl, _⟩ := hok
    exact .inl ⟨o, g₂, v, zs, by rw [hD, e], rfl⟩
  · right
    by_cases hc : D[j] = .closer
    · have hclo := h.sy.clo
      match cl, hclo with
      | none, hclo =>
        have := hclo D[j] (List.mem_of_getElem? hD)
        rw [hc] at this
        exact this.elim
      | some (ic, c, n), ⟨_, h2, _, ⟨gc, hgc, hat⟩, _⟩ =>
        have e := h2 j (by rw [hD, hc])
        subst e
        obtain rfl : gc = y := by rw [hj] at hgc; exact (Option.some.inj hgc).symm
        intro r send
        by_cases hblk : c = .blk
        · subst hblk
          obtain ⟨_, g₀, hg₀, e⟩ := hat
          exact offersAt_none (by rw [e]; exact hg₀.2.1) r send
        · exact not_blocked (.inl (CK.at_running hat hblk)) r send
    · exact not_blocked (hok.running (fun o e => hb ⟨o, e⟩) hc)

/-- A worker that sends, and nobody receives: it waits. -/
theorem Inv.sendWaits (h : Inv E L K gs w t D pend cl main d0) (hm : main.status = .running) {o : ι} (hi : D[i]? = some (.work o .leaf)) (hg : gs[i + 1]? = some g) :
    Goes1 E L K D pend cl main d0 (crowd gs w sl) sl t (i + 1) := by
  obtain ⟨g₁, hg₁, hok⟩ := h.base.ok i _ hi
  obtain rfl : g₁ = g := by rw [hg] at hg₁; exact (Option.some.inj hg₁).symm
  obtain ⟨hd, hs, g₂, v, zs, X, Y, hXY, hsent, hst, hback⟩ := hok
  obtain ⟨sn, rc, tm, hc⟩ := h.sy.chan
  have hno : partners (gs.setIfInBounds (i + 1) ph) E.Ch false = [] := partners_nil fun j x hx => by
    rcases getElem?_stand gs _ _ _ hx with ⟨_, rfl⟩ | ⟨_, hx'⟩
    · exact offersAt_ph _ _
    · cases j with
      | zero =>
        have : x = main := by rw [h.main] at hx'; exact (Option.some.inj hx').symm
        subst this
        exact not_blocked (.inl hm) _ _
      | succ j =>
        rcases h.offers hx' with ⟨o', g', v', zs', _, rfl⟩ | hn
        · exact offersAt_parked_send' _ _ _ _ _ _
        · exact hn _ _
  have hrun := crowd_waits (sl := sl) hg (by simpa using hst w (h.base.fit.agr _)) (fun cc hcc => by
    simp only [List.mem_toArray, List.mem_singleton] at hcc
    subst hcc
    exact ways_send_none hc (Nat.le_refl 0) hno)
  have e0 : MemOp.ofEvents (i + 1) g₁.frame.fn g₁.frame.place #[] = #[] := rfl
  rw [e0] at hrun
  have ew : gs.map (woken E.P g₁ (parked g₂ #[scase E.Ch v zs] .send) w) = gs := by
    have : woken E.P g₁ (parked g₂ #[scase E.Ch v zs] .send) w = id := by funext x; simp [Go.Conc.woken, parked]
    rw [this, Array.map_id]
  refine h.go' (.inl hm) (r' := .sendB o) (s' := K (i + 1)) (w' := w) (g' := parked g₂ #[scase E.Ch v zs] .send) (u := #[]) hi (by simp) (by simp) hg (by simp) (by rw [ew]; exact hrun) ⟨rfl, rfl⟩ (h.sy.kW _) (h.sy.kC _) rfl ?_ ?_ (by simp) (by simp)
    (fun _ => rfl) (fun e => e) (fun _ e => e) (fun e => (by cases e)) (Nat.le_refl _) rfl (mul_fst (by simp [Role.mu])) (fun cl' hw _ => h.cells_same (r' := .sendB o) hi rfl rfl rfl rfl rfl cl' hw) fun _ => hm
  · rw [setK_self, Array.append_empty]; exact h.base.fit
  · rw [Array.append_empty]; exact ⟨hd, g₂, g₂, v, zs, X, Y, rfl, hXY, hsent, rfl, hback⟩

/-- A worker that is back from its send stands at the first of the library's stages. -/
theorem Inv.norm (h : Inv E L K gs w t D pend cl main d0) (hi : D[i]? = some (.back .leaf)) :
    ∃ n, Inv E L (setK K (i + 1) ⟨fun _ => none, []⟩) gs w t (D.set i (.st .r0 n)) pend cl main d0 ∧ owes (D.set i (.st .r0 n)) = owes D ∧ One RoleLt (D.set i (.st .r0 n)) D := by
  obtain ⟨g, hg, hd, n, hp⟩ := h.base.ok i _ hi
  have hlt := (List.getElem?_eq_some_iff.1 hi).1
  have hset : ∀ {k x}, (D.set i (Role.st .r0 n))[k]? = some x → (k = i ∧ x = .st .r0 n) ∨ (k ≠ i ∧ D[k]? = some x) := fun {k x} hk => by
    by_cases e : k = i
    · subst e
      exact .inl ⟨rfl, by simpa [List.getElem?_set, hlt] using hk.symm⟩
    · rw [List.getElem?_set_ne (Ne.symm e)] at hk; exact .inr ⟨e, hk⟩
  have hle : ∀ j, (setK K (i + 1) ⟨fun _ => none, []⟩ j).le (K j) := fun j => by
    by_cases e : j = i + 1
    · subst e; rw [setK_same]; exact ⟨(K (i + 1)).rw, by simp, fun b o hb => (by cases hb)⟩
    · rw [setK_ne _ _ e]; exact St.le_refl _
  have hcl : cl ≠ none := fun e => by
    have := h.sy.clo
    subst e
    exact this _ (List.mem_of_getElem? hi)
  refine ⟨n, ⟨⟨h.base.fit.le hle, by simp [h.base.size], fun k r hk => ?_, fun k hk b hb => h.base.far k hk b ((hle k).knows hb), h.base.ops, h.base.same⟩,
    ⟨fun j hj => h.sy.kW j ((hle j).knows hj), fun j hj => h.sy.kC j ((hle j).knows hj), h.sy.lW, h.sy.lC, h.sy.ne, h.sy.norel, fun j hj => h.sy.plain j ?_, h.sy.said, ?_, ?_, h.sy.chan, h.sy.bal, ?_⟩, h.main, h.deaf⟩, owes_set (r := .back .leaf) (r' := .st .r0 n) rfl hi, One.set hi (mul_fst (by simp [Role.mu, WK.rank]))⟩
  · rcases hset hk with ⟨rfl, rfl⟩ | ⟨hne, hk'⟩
    · exact ⟨g, hg, by rw [setK_same], hd, hp, fun e => (by cases e)⟩
    · rw [setK_ne _ _ (by omega)]; exact h.base.ok k r hk'
  · rcases hj with hj | ⟨k, r, rfl, hk, hl⟩
    · exact .inl hj
    · rcases hset hk with ⟨rfl, rfl⟩ | ⟨_, hk'⟩
      · exact .inr ⟨_, _, rfl, hi, rfl⟩
      · exact .inr ⟨k, r, rfl, hk', hl⟩
  · obtain ⟨st, sm, ha, hmd⟩ := h.sy.cells
    exact ⟨st, sm, ha, tots hi rfl rfl rfl rfl hmd⟩
  · have := tot_set Role.cnt (y := Role.st .r0 n) hi
    have e : (Role.st (ι := ι) .r0 n).cnt = (Role.back (ι := ι) .leaf).cnt := rfl
    have := h.sy.most
    omega
  · have hclo := h.sy.clo
    match cl, hclo, hcl with
    | some (ic, c, m), ⟨h1, h2, h3, ⟨gc, hgc, hat⟩, h5⟩, _ =>
      have hne : ic ≠ i := fun e => by subst e; rw [hi] at h1; cases h1
      refine ⟨by rw [List.getElem?_set_ne (Ne.symm hne)]; exact h1, fun k hk => ?_, h3, ⟨gc, hgc, by rw [setK_ne _ _ (by omega)]; exact hat⟩, fun hr => ?_⟩
      · rcases hset hk with ⟨_, e⟩ | ⟨_, hk'⟩
        · cases e
        · exact h2 k hk'
      · have := (h5 hr).step (u := #[]) (r' := .st .r0 n) hi (by simp) (fun e => (by cases e)) (fun e => (by cases e))
        rwa [Array.append_empty] at this
end
end Go.L
namespace Go.L
open Go Go.Conc
open Go.ConcR (KK wgBlock WgAt stA smA rd wr)

section
variable {ι : Type} {E : Crew ι} {L : Nat → Option Obj} {K : Nat → St} {gs gs' : Array Goroutine} {w w' : World} {t u : Trace} {D : List (Role ι)} {pend d0 : Nat} {cl : Clo} {main main' : Goroutine} {sl : Option (Nat × Nat)}
  {i : Nat} {g g' : Goroutine} {es : Array Event}

theorem Deaf_unmarked (t : Trace) (g : Nat) (u : Trace) (hu : ∀ op ∈ u, ∀ m, op.act ≠ .mark m) : Deaf (t ++ u) g = Deaf t g := by
  obtain ⟨l⟩ := u
  rw [Deaf_append]
  induction l generalizing t with
  | nil => rfl
  | cons y l ih =>
    have hy := hu y (by simp)
    have e1 : deafStep g (Deaf t g) y = Deaf t g := by
      unfold deafStep
      split
      · rename_i e; exact absurd e (hy _)
      · rename_i e; exact absurd e (hy _)
      · rfl
    rw [List.foldl_cons, e1]
    exact ih t (fun op hop => hu op (by simp at hop ⊢; exact .inr hop))

theorem owes_take {o : ι} {r' : Role ι} (ho : r'.owe = none) : ∀ {D : List (Role ι)} {i : Nat} {r : Role ι}, D[i]? = some r → r.owe = some o → ∃ a b, owes D = a ++ o :: b ∧ owes (D.set i r') = a ++ b
  | [], i, r, h, _ => by simp at h
  | x :: D, 0, r, h, hr => by
    simp only [List.getElem?_cons_zero, Option.some.injEq] at h; subst h
    exact ⟨[], owes D, by simp [owes, hr], by simp [owes, ho]⟩
  | x :: D, i + 1, r, h, hr => by
    obtain ⟨a, b, h1, h2⟩ := owes_take ho (D := D) (i := i) (by simpa using h) hr
    cases hx : x.owe with
    | none => exact ⟨a, b, by simp only [owes, List.filterMap_cons, hx] at h1 ⊢; exact h1, by simp only [owes, List.set_cons_succ, List.filterMap_cons, hx] at h2 ⊢; exact h2⟩
    | some y => exact ⟨y :: a, b, by simp only [owes, List.filterMap_cons, hx] at h1 ⊢; rw [h1]; rfl, by simp only [owes, List.set_cons_succ, List.filterMap_cons, hx] at h2 ⊢; rw [h2]; rfl⟩

/-- A worker's send and main's receive have met. -/
theorem Inv.meet (h : Inv E L K gs w t D pend cl main 0) (hcl : cl ≠ none) {r : Role ι} {o : ι} {X Y : List (Nat × Obj)} {tr : Tree} {s₀ : St} {gw : Goroutine} (hi : D[i]? = some r) (hr : r = .work o .leaf ∨ r = .sendB o)
    (hd : Deaf t (i + 1) = 0) (hXY : (K (i + 1)).rw.Perm (X ++ Y)) (hle : s₀.le ⟨(K (i + 1)).ro, Y⟩) (hb : Tread E.P false E.Back tr gw s₀)
    (hsz : gs'.size = gs.size) (h0 : gs'[0]? = some main') (hw1 : gs'[i + 1]? = some gw) (hgs : ∀ k, k ≠ 0 → k ≠ i + 1 → gs'[k]? = gs[k]?)
    {sn rc : Nat} {tm : Bool} (hc : w.heap[E.Ch]? = some (.chan 0 #[] false sn rc tm)) (hc' : w'.heap[E.Ch]? = some (.chan 0 #[] false (sn + 1) (rc + 1) tm)) (hws : w'.heap.size = w.heap.size) (hwb : ∀ b, b ≠ E.Ch → w'.heap[b]? = w.heap[b]?) (hsm : Same w w')
    {a0 a1 a2 a3 : MemOp} (e0 : a0.g = i + 1 ∧ a0.act = .send E.Ch sn) (e1 : a1.g = 0 ∧ a1.act = .recv E.Ch rc 0) (e2 : a2.g = i + 1 ∧ a2.act = .sendDone E.Ch sn) (e3 : a3.g = 0 ∧ a3.act = .recvDone E.Ch rc) :
    Inv E L (setK (setK K (i + 1) s₀) 0 ⟨(K 0).ro, X ++ (K 0).rw⟩) gs' w' (t ++ #[a0, a1, a2, a3]) (D.set i (.back tr)) pend cl main' 0 := by
  have hlt := (List.getElem?_eq_some_iff.1 hi).1
  have hbal := h.sy.bal _ _ _ hc
  subst hbal
  have hset : ∀ {k x}, (D.set i (Role.back tr))[k]? = some x → (k = i ∧ x = .back tr) ∨ (k ≠ i ∧ D[k]? = some x) := fun {k x} hk => by
    by_cases e : k = i
    · subst e
      exact .inl ⟨rfl, by simpa [List.getElem?_set, hlt] using hk.symm⟩
    · rw [List.getElem?_set_ne (Ne.symm e)] at hk; exact .inr ⟨e, hk⟩
  have hu : ∀ op ∈ #[a0, a1, a2, a3], op.g = i + 1 ∨ op.g = 0 := by intro op hop; simp at hop; rcases hop with rfl | rfl | rfl | rfl <;> simp [e0.1, e1.1, e2.1, e3.1]
  have hq : ∀ op ∈ #[a0, a1, a2, a3], op.act.touch? = none := by intro op hop; simp at hop; rcases hop with rfl | rfl | rfl | rfl <;> simp [e0.2, e1.2, e2.2, e3.2, MemAct.touch?]
  have hmk : ∀ op ∈ #[a0, a1, a2, a3], ∀ m, op.act ≠ .mark m := by intro op hop; simp at hop; rcases hop with rfl | rfl | rfl | rfl <;> simp [e0.2, e1.2, e2.2, e3.2]
  have hdf : ∀ k, Deaf (t ++ #[a0, a1, a2, a3]) k = Deaf t k := fun k => Deaf_unmarked t k _ hmk
  have p0 : (t ++ #[a0, a1, a2, a3])[t.size]? = some a0 := by simp
  have p3 : (t ++ #[a0, a1, a2, a3])[t.size + 3]? = some a3 := by simp
  have hear : ∀ k (hk : k ≤ 3) (op : MemOp), (t ++ #[a0, a1, a2, a3])[t.size + k]? = some op → op.g = i + 1 ∨ op.g = 0 → Deaf t (i + 1) = 0 → Deaf t 0 = 0 → (t ++ #[a0, a1, a2, a3]).heard (t.size + k) := by
    intro k hk op ho hg h1 h2
    refine ⟨op.g, by simp only [Trace.g?, ho, Option.map_some], ?_⟩
    have key : ∀ k, k ≤ 3 → ∀ q, Deaf t q = 0 → (t ++ #[a0, a1, a2, a3]).deaf q (t.size + k) = 0 := by
      intro k
      induction k with
      | zero => intro _ q hq; rw [Nat.add_zero, deaf_old (Nat.le_refl _)]; exact hq
      | succ k ih =>
        intro hk q hq'
        have hlt : t.size + k < (t ++ #[a0, a1, a2, a3]).size := by simp; omega
        have hm : (t ++ #[a0, a1, a2, a3])[t.size + k]? = some (t ++ #[a0, a1, a2, a3])[t.size + k] := Array.getElem?_eq_getElem hlt
        have hin : (t ++ #[a0, a1, a2, a3])[t.size + k] ∈ #[a0, a1, a2, a3] := by
          rcases getElem?_append_cases hm with ⟨h', _⟩ | ⟨_, h'⟩
          · omega
          · exact h'
        rw [show t.size + (k + 1) = t.size + k + 1 by omega, deaf_succ hm, ih (by omega) q hq']
        have hn := hmk _ hin
        unfold deafStep
        split
        · rename_i e; exact absurd e (hn _)
        · rename_i e; exact absurd e (hn _)
        · rfl
    rcases hg with hg | hg <;> rw [hg]
    · exact key k hk _ h1
    · exact key k hk _ h2
  have edge : HappensBefore (t ++ #[a0, a1, a2, a3]) t.size (t.size + 3) :=
    .single (.inr ⟨.handOver (c := E.Ch) (k := sn) (by rw [act?_of p0, e0.2]) (by rw [act?_of p3, e3.2]), hear 0 (by omega) a0 p0 (.inl e0.1) hd h.deaf, hear 3 (by omega) a3 p3 (.inr e3.1) hd h.deaf⟩)
  have fit1 : Fit L K w' (t ++ #[a0, a1, a2, a3]) := h.base.fit.quiet E.Ch h.sy.kC h.sy.lC (Nat.le_of_eq hws.symm) (fun b hb _ => hwb b hb) hq
  have hown : ∀ b o, (b, o) ∈ X → (K (i + 1)).owns b := fun b o hm => ⟨o, hXY.mem_iff.2 (by simp [hm])⟩
  have fit2 := fit1.hand (i := 0) (j := i + 1) (by omega) X Y hXY fun b o hm p x hx hxb => by
    rcases touchAt_cases hx with ⟨hp, hx'⟩ | ⟨_, op, hm', _, hxo⟩
    · have k1 := h.base.fit.perm (i + 1) b (hown b o hm) p x hx' hxb
      exact ⟨t.size + 3, a3, p3, e3.1, .inr ((k1.hb_new (Nat.le_refl _) p0 e0.1).trans edge)⟩
    · rw [hq op hm'] at hxo; cases hxo
  have fit3 : Fit L (setK (setK K (i + 1) s₀) 0 ⟨(K 0).ro, X ++ (K 0).rw⟩) w' (t ++ #[a0, a1, a2, a3]) := fit2.le fun j => by
    by_cases e : j = 0
    · subst e; rw [setK_same, setK_same]; exact St.le_refl _
    · rw [setK_ne _ _ e, setK_ne _ _ e]
      by_cases e' : j = i + 1
      · subst e'; rw [setK_same, setK_same]; exact hle
      · rw [setK_ne _ _ e', setK_ne _ _ e']; exact St.le_refl _
  have hid : ∀ b, (∀ j, ¬ (K j).knows b) → ∀ j, ¬ (setK (setK K (i + 1) s₀) 0 ⟨(K 0).ro, X ++ (K 0).rw⟩ j).knows b := fun b hb j hk => by
    by_cases e : j = 0
    · subst e; rw [setK_same] at hk
      rcases hk with hk | ⟨o, ho⟩
      · exact hb 0 (.inl hk)
      · rcases List.mem_append.1 ho with h' | h'
        · exact hb (i + 1) (.inr (hown b o h'))
        · exact hb 0 (.inr ⟨o, h'⟩)
    · rw [setK_ne _ _ e] at hk
      by_cases e' : j = i + 1
      · subst e'; rw [setK_same] at hk
        rcases hle.knows hk with hk | ⟨o, ho⟩
        · exact hb (i + 1) (.inl hk)
        · exact hb (i + 1) (.inr ⟨o, hXY.mem_iff.2 (by simp [ho])⟩)
      · rw [setK_ne _ _ e'] at hk; exact hb j hk
  have hcnt : r.cnt = 1 ∧ r.c4 = 0 ∧ r.c3 = 0 ∧ r.c2 = 0 := by rcases hr with rfl | rfl <;> exact ⟨rfl, rfl, rfl, rfl⟩
  refine ⟨⟨fit3, by rw [hsz]; simp [h.base.size], fun k x hk => ?_, fun k hk b hb => ?_, fun op hop => ?_, ⟨hsm.1.trans h.base.same.1, hsm.2.trans h.base.same.2⟩⟩,
    ⟨hid _ h.sy.kW, hid _ h.sy.kC, h.sy.lW, h.sy.lC, h.sy.ne, fun a => (h.sy.norel a).app fun op hop => hmk op hop _, fun j hj p x hx hxb hk => ?_, ?_, ?_, ?_, ⟨_, _, _, hc'⟩, fun a b c hx => ?_, ?_⟩, h0, by rw [hdf]; exact h.deaf⟩
  · rcases hset hk with ⟨rfl, rfl⟩ | ⟨hne, hk'⟩
    · exact ⟨gw, hw1, by rw [hdf]; exact hd, by rw [setK_ne _ _ (by omega), setK_same]; exact hb⟩
    · obtain ⟨y, hy, hok⟩ := h.base.ok k x hk'
      refine ⟨y, by rw [hgs (k + 1) (by omega) (by omega)]; exact hy, ?_⟩
      rw [setK_ne _ _ (by omega), setK_ne _ _ (by omega)]
      exact hok.other fun op hop => by rcases hu op hop with e | e <;> rw [e] <;> omega
  · rw [hsz] at hk
    have := h.base.size
    rw [setK_ne _ _ (by omega), setK_ne _ _ (by omega)] at hb
    exact h.base.far k hk b hb
  · rw [hsz]
    rcases Array.mem_append.1 hop with h' | h'
    · exact h.base.ops op h'
    · rcases hu op h' with e | e <;> rw [e, h.base.size] <;> omega
  · rcases touchAt_cases hx with ⟨_, hx'⟩ | ⟨_, op, hm', _, hxo⟩
    · refine (h.sy.plain j ?_ p x hx' hxb hk).app _
      rcases hj with hj | ⟨k, y, rfl, hk', hl⟩
      · exact .inl hj
      · rcases hset hk' with ⟨rfl, rfl⟩ | ⟨_, hk''⟩
        · exact .inr ⟨_, r, rfl, hi, by rcases hr with rfl | rfl <;> rfl⟩
        · exact .inr ⟨k, y, rfl, hk'', hl⟩
    · rw [hq op hm'] at hxo; cases hxo
  · have hs := h.sy.said
    match cl, hs, hcl with
    | some (ic, c, n), hs, _ =>
      intro he p x hx hxb hk
      rcases touchAt_cases hx with ⟨_, hx'⟩ | ⟨_, op, hm', _, hxo⟩
      · exact (hs he p x hx' hxb hk).app _
      · rw [hq op hm'] at hxo; cases hxo
  · obtain ⟨st, sm, ha, hmd⟩ := h.sy.cells
    refine ⟨st, sm, by unfold WgAt; rw [hwb _ h.sy.ne]; exact ha, tots hi ?_ ?_ ?_ ?_ hmd⟩
    · rw [hcnt.1]; rfl
    · rw [hcnt.2.1]; rfl
    · rw [hcnt.2.2.1]; rfl
    · rw [hcnt.2.2.2]; rfl
  · have := tot_set Role.cnt (y := Role.back tr) hi
    have e : (Role.back (ι := ι) tr).cnt = 1 := rfl
    have := h.sy.most
    omega
  · rw [hc'] at hx
    simp only [Option.some.injEq, Obj.chan.injEq] at hx
    omega
  · have hclo := h.sy.clo
    obtain ⟨st, sm, ha, hmd⟩ := h.sy.cells
    have hpos : 1 ≤ tot Role.cnt D := by have := le_tot Role.cnt hi; rw [hcnt.1] at this; exact this
    match cl, hclo, hcl, hmd with
    | some (ic, c, m), ⟨h1, h2, h3, ⟨gc, hgc, hat⟩, h5⟩, _, hmd =>
      have hne : ic ≠ i := fun e => by subst e; rw [hi] at h1; rcases hr with rfl | rfl <;> cases h1
      refine ⟨by rw [List.getElem?_set_ne (Ne.symm hne)]; exact h1, fun k hk => ?_, by rw [hdf]; exact h3, ⟨gc, by rw [hgs _ (by omega) (by omega)]; exact hgc, by rw [setK_ne _ _ (by omega), setK_ne _ _ (by omega)]; exact hat⟩, fun ⟨tr', e⟩ => ?_⟩
      · rcases hset hk with ⟨_, e⟩ | ⟨_, hk'⟩
        · cases e
        · exact h2 k hk'
      · subst e
        have := (hmd.run rfl trivial).1
        omega
end
end Go.L
namespace Go.L
open Go Go.Conc
open Go.ConcR (KK wgBlock WgAt stA smA rd wr)

/-! ### Runs that end well -/
def Ends (P : Program) (Q : Machine → Outcome → World → Trace → Prop) (m : Machine) (t : Trace) : Prop :=
  ∃ n last o w' t', runNT P (n + 1) m t = (.ended o w', t') ∧ runN P n m = .next last ∧ step P last = .ended o w' ∧ Q last o w' t'
theorem Ends.next {P : Program} {Q : Machine → Outcome → World → Trace → Prop} {m m' : Machine} {t : Trace} {ops : Array MemOp} (hs : stepT P m = (.next m', ops)) (h : Ends P Q m' (t ++ ops)) : Ends P Q m t := by
  obtain ⟨n, last, o, w, t', h1, h2, h3, h4⟩ := h
  exact ⟨n + 1, last, o, w, t', by rw [runNT_succ_next hs]; exact h1, by rw [runN_succ_next hs]; exact h2, h3, h4⟩

section
variable {L : Nat → Option Obj} {K : Nat → St} {w : World} {t : Trace}
theorem Agrees.at {s : St} (h : Agrees s w) (d : Nat) : Agrees s (w.at d) := ⟨h.ro, h.rw, h.nodup, h.apart⟩
theorem Fit.at (h : Fit L K w t) (d : Nat) : Fit L K (w.at d) t := ⟨h.lent, h.lentSep, fun i => (h.agr i).at d, h.sep, h.perm, h.permR, h.old, h.clean, h.sync⟩
end
section
variable {ι : Type} {E : Crew ι} {L : Nat → Option Obj} {K : Nat → St} {gs : Array Goroutine} {w : World} {t : Trace} {D : List (Role ι)} {pend d0 : Nat} {cl : Clo} {main : Goroutine}
theorem Inv.at (h : Inv E L K gs w t D pend cl main d0) (d : Nat) : Inv E L K gs (w.at d) t D pend cl main d0 :=
  ⟨⟨h.base.fit.at d, h.base.size, h.base.ok, h.base.far, h.base.ops, h.base.same⟩,
    ⟨h.sy.kW, h.sy.kC, h.sy.lW, h.sy.lC, h.sy.ne, h.sy.norel, h.sy.plain, h.sy.said, h.sy.cells, h.sy.most, h.sy.chan, h.sy.bal, h.sy.clo⟩, h.main, h.deaf⟩
end

/-! ### Those who only leave -/
/-- All others only leave; G: what main knows of each. -/
structure Lv (P : Program) (G : Trace → Nat → Prop) (L : Nat → Option Obj) (K : Nat → St) (gs : Array Goroutine) (w : World) (t : Trace) (q : List Nat) : Prop where
  fit : Fit L K w t
  size : gs.size = q.length + 1
  ok : ∀ i n, q[i]? = some n → ∃ g d, gs[i + 1]? = some g ∧ QuitsD P n d g ∧ Deaf t (i + 1) = d ∧ G t (i + 1)
  none : ∀ i b, i ≠ 0 → ¬ (K i).knows b
  ops : ∀ op ∈ t, op.g < gs.size

/-- What main knows of a goroutine stands where the trace grows by what is not counted. -/
structure Grows (G : Trace → Nat → Prop) : Prop where
  other : ∀ t u i, G t i → (∀ op ∈ u, op.g ≠ i) → G (t ++ u) i
  quiet : ∀ t u i, G t i → (∀ op ∈ u, op.act.touch? = none) → G (t ++ u) i
theorem grows_known : Grows KnownTo0 := ⟨fun _ _ _ h hu => h.other hu, fun _ _ _ h hu => h.quiet hu⟩
def KnownAt (pc : Nat) (t : Trace) (i : Nat) : Prop := pc < t.size ∧ (KnownTo0 t i ∨ ∀ p, t.g? p = some i → t.counts p → HappensBefore t p pc)
theorem KnownAt.grow {pc : Nat} {t u : Trace} {i : Nat} (h : KnownAt pc t i) (hu : ∀ p op, t.size ≤ p → (t ++ u)[p]? = some op → op.g = i → ¬ (t ++ u).counts p) (hk : KnownTo0 t i → KnownTo0 (t ++ u) i) : KnownAt pc (t ++ u) i := by
  refine ⟨by rw [Array.size_append]; have := h.1; omega, h.2.imp hk fun h' p hp hc => ?_⟩
  obtain ⟨op, ho, hg⟩ := Option.map_eq_some_iff.1 hp
  rcases Nat.lt_or_ge p t.size with hlt | hge
  · exact hb_app u (h' p (by rw [← g?_old (u := u) hlt]; exact hp) ((counts_old hlt).1 hc))
  · exact absurd hc (hu p op hge ho hg)
theorem grows_at (pc : Nat) : Grows (KnownAt pc) :=
  ⟨fun t u i h hu => h.grow (fun p op hp ho hg => by
      rcases getElem?_append_cases ho with ⟨h', _⟩ | ⟨_, hm⟩
      · omega
      · exact absurd hg (hu op hm)) fun h' => h'.other hu,
    fun t u i h hu => h.grow (fun p op hp ho hg hc => by
      obtain ⟨x, hx, _⟩ := hc
      obtain ⟨o', ho', hx'⟩ := touch_of hx
      rw [ho] at ho'; cases ho'
      rcases getElem?_append_cases ho with ⟨h', _⟩ | ⟨_, hm⟩
      · omega
      · rw [hu op hm] at hx'; cases hx') fun h' => h'.quiet hu⟩

section
variable {P : Program} {G : Trace → Nat → Prop} {L : Nat → Option Obj} {K : Nat → St} {gs : Array Goroutine} {w : World} {t : Trace} {q : List Nat} {sl : Option (Nat × Nat)}

theorem Lv.at (h : Lv P G L K gs w t q) (d : Nat) : Lv P G L K gs (w.at d) t q := ⟨h.fit.at d, h.size, h.ok, h.none, h.ops⟩
theorem Lv.le (h : Lv P G L K gs w t q) {s : St} (hl : s.le (K 0)) : Lv P G L (setK K 0 s) gs w t q :=
  ⟨h.fit.le fun j => by
    by_cases e : j = 0
    · subst e; rw [setK_same]; exact hl
    · rw [setK_ne _ _ e]; exact St.le_refl _, h.size, h.ok, fun i b hi hk => by rw [setK_ne _ _ hi] at hk; exact h.none i b hi hk, h.ops⟩

/-- A step of one who leaves. -/
theorem Lv.leave (hG : Grows G) (h : Lv P G L K gs w t q) {i : Nat} {g m : Goroutine} (hm : gs[0]? = some m) (hmr : m.status = .running) (hg : gs[i + 1]? = some g) (hs : g.status = .running) :
    ∃ gs' u q', runT P (crowd gs w sl) (i + 1) = (.next (crowd gs' w sl), u) ∧ Lv P G L K gs' w (t ++ u) q' ∧ gs'[0]? = some m ∧ Deaf (t ++ u) 0 = Deaf t 0 ∧ q'.sum < q.sum ∧ ∀ op ∈ u, ∀ a, op.act ≠ .mark (.release a) := by
  have hlt : i < q.length := by have := lt_size hg; have := h.size; omega
  have hq := List.getElem?_eq_getElem hlt
  obtain ⟨g₁, d, hg₁, hqd, hd, hk⟩ := h.ok i _ hq
  obtain rfl : g₁ = g := by rw [hg] at hg₁; exact (Option.some.inj hg₁).symm
  cases e : q[i] with
  | zero => rw [e] at hqd; have := hqd.1; rw [hs] at this; cases this
  | succ n =>
    rw [e] at hqd
    rcases hqd with ⟨h1, _⟩ | ⟨_, g', es, hmu, hst, hq'⟩
    · rw [hs] at h1; cases h1
    · have hu := mute_sync (i := i + 1) (fn := g₁.frame.fn) (pos := g₁.frame.place) hmu
      have hgi : ∀ op ∈ MemOp.ofEvents (i + 1) g₁.frame.fn g₁.frame.place es, op.g = i + 1 := fun op hop => Go.ConcR.g_of_ofEvents op hop
      have hwk : ∀ x : Goroutine, (x.status = .running ∨ x.status = .finished) → woken P g₁ g' w x = x := fun x hx => by
        unfold Go.Conc.woken
        split
        · exact again_running _ hx
        · rfl
      refine ⟨_, _, q.set i n, runT_crowd_go (P := P) (sl := sl) (i := i + 1) hg (by simpa using hst w), ⟨?_, by simp [h.size], fun k n' hk' => ?_, h.none, fun op hop => ?_⟩, ?_, ?_, ?_, fun op hop a => mute_rel hmu a op hop⟩
      · exact h.fit.quiet w.heap.size (fun j hj => absurd (h.fit.knows_lt hj) (Nat.lt_irrefl _)) (by
          cases hL : L w.heap.size with
          | none => rfl
          | some o => exact absurd (lt_size (h.fit.lent _ o hL)) (Nat.lt_irrefl _)) (Nat.le_refl _) (fun _ _ _ => rfl) hu
      · by_cases hki : k = i
        · subst hki
          have : n = n' := by simpa [List.getElem?_set, hlt] using hk'
          subst this
          exact ⟨g', _, by simp [h.size, hlt], hq', by rw [Deaf_own, hd], hG.quiet _ _ _ hk hu⟩
        · rw [List.getElem?_set_ne (Ne.symm hki)] at hk'
          obtain ⟨x, dx, hx, hqx, hdx, hkx⟩ := h.ok k n' hk'
          have hne : ∀ op ∈ MemOp.ofEvents (i + 1) g₁.frame.fn g₁.frame.place es, op.g ≠ k + 1 := fun op hop => by rw [hgi op hop]; omega
          exact ⟨x, dx, by rw [get_woken (by omega) hx, hwk x hqx.status], hqx, by rw [Deaf_others _ _ hne]; exact hdx, hG.other _ _ _ hkx hne⟩
      · rw [Array.size_setIfInBounds, Array.size_map]
        rcases Array.mem_append.1 hop with h' | h'
        · exact h.ops op h'
        · rw [hgi op h', h.size]; omega
      · rw [get_woken (by omega) hm, hwk m (.inl hmr)]
      · exact Deaf_others _ _ fun op hop => by rw [hgi op hop]; omega
      · have key : ∀ (l : List Nat) (i : Nat) (x : Nat), l[i]? = some x → ∀ y, y < x → (l.set i y).sum < l.sum := by
          intro l
          induction l with
          | nil => intro i x h; simp at h
          | cons a l ih =>
            intro i x hx y hy
            cases i with
            | zero => simp only [List.getElem?_cons_zero, Option.some.injEq] at hx; subst hx; simp only [List.set_cons_zero, List.sum_cons]; omega
            | succ i => have := ih i x (by simpa using hx) y hy; simp only [List.set_cons_succ, List.sum_cons]; omega
        exact key q i _ (by rw [hq, e]) n (Nat.lt_succ_self n)

/-- A step of main's own, the others only leaving. -/
theorem Lv.own (hG : Grows G) (h : Lv P G L K gs w t q) {g g' : Goroutine} {w' : World} {s' : St} {es : Array Event} (hm : gs[0]? = some g) (hst : stepG P true g w = .go g' w' es) (ht : Trans (K 0) w s' w' es) :
    ∃ gs' u, runT P (crowd gs w sl) 0 = (.next (crowd gs' w' sl), u) ∧ Lv P G L (setK K 0 s') gs' w' (t ++ u) q ∧ gs'[0]? = some g' ∧ Deaf (t ++ u) 0 = Deaf t 0 ∧ ∀ op ∈ u, ∀ a, op.act ≠ .mark (.release a) := by
  have hgi : ∀ op ∈ MemOp.ofEvents 0 g.frame.fn g.frame.place es, op.g = 0 := fun op hop => Go.ConcR.g_of_ofEvents op hop
  refine ⟨_, _, runT_crowd_go (P := P) (sl := sl) (i := 0) hm (by simpa using hst), ⟨h.fit.own ht _ _, by simp [h.size], fun k n hk => ?_, fun i b hi hk => ?_, fun op hop => ?_⟩, ?_, ?_, fun op hop a e => ?_⟩
  · obtain ⟨x, dx, hx, hqx, hdx, hkx⟩ := h.ok k n hk
    have hne : ∀ op ∈ MemOp.ofEvents 0 g.frame.fn g.frame.place es, op.g ≠ k + 1 := fun op hop => by rw [hgi op hop]; omega
    exact ⟨x, dx, by rw [get_woken (by omega) hx, woken_quitsD hqx], hqx, by rw [Deaf_others _ _ hne]; exact hdx, hG.other _ _ _ hkx hne⟩
  · rw [setK_ne _ _ hi] at hk; exact h.none i b hi hk
  · rw [Array.size_setIfInBounds, Array.size_map]
    rcases Array.mem_append.1 hop with h' | h'
    · exact h.ops op h'
    · rw [hgi op h', h.size]; omega
  · simp [h.size]
  · rw [Deaf_own, ht.deaf]
  · rw [ofEvents_eq] at hop
    obtain ⟨e', he, rfl⟩ := Array.mem_map.1 hop
    have hl := Go.ConcR.loc_of_ofEvent e
    have := ht.evs e' he
    unfold EvOK at this
    rw [hl] at this
    simp [okMark] at this

/-- What else is known of the machine, kept by all that happens. -/
structure Stays (I : (Nat → St) → World → Trace → Prop) : Prop where
  grow : ∀ K w t u, I K w t → (∀ op ∈ u, ∀ a, op.act ≠ .mark (.release a)) → I K w (t ++ u)
  drawn : ∀ K w t d, I K w t → I K (w.at d) t
  le : ∀ K w t s, I K w t → s.le (K 0) → I (setK K 0 s) w t
  own : ∀ K w t s' w' es u, I K w t → Trans (K 0) w s' w' es → (∀ op ∈ u, ∀ a, op.act ≠ .mark (.release a)) → I (setK K 0 s') w' (t ++ u)

/-- No release is said; nothing of the world beside memory and tape turns. -/
def Calm (os : Os) (out : Array (Nat × ByteArray)) : (Nat → St) → World → Trace → Prop := fun _ w t => (∀ a, NoRelease a t) ∧ w.os = os ∧ w.output = out
/-- Main, the others only leaving: the run ends well. -/
def TL (P : Program) (G : Trace → Nat → Prop) (L : Nat → Option Obj) (I : (Nat → St) → World → Trace → Prop) (Q : Machine → Outcome → World → Trace → Prop) (g : Goroutine) (s : St) : Prop :=
  ∀ K gs w t q sl, Lv P G L K gs w t q → gs[0]? = some g → s.le (K 0) → Deaf t 0 = 0 → I K w t → Ends P Q (crowd gs w sl) t

theorem tl_step (hG : Grows G) {I : (Nat → St) → World → Trace → Prop} (hI : Stays I) {Q : Machine → Outcome → World → Trace → Prop} {g : Goroutine} {s : St} (hs : g.status = .running)
    (h : ∀ K gs w t q sl m, Lv P G L K gs w t q → gs[0]? = some g → K 0 = s → Deaf t 0 = 0 → I K w t → stepT P m = runT P (crowd gs w sl) 0 → (m.gs = gs ∧ m.rest.timers = #[]) → Ends P Q m t) : TL P G L I Q g s := by
  intro K gs w t q sl hL h0 hle hd hi
  generalize hn : q.sum = n
  induction n using Nat.strongRecOn generalizing K gs w t q sl with
  | _ n ih =>
    have hL := hL.le hle
    have hi := hI.le _ _ _ _ hi hle
    obtain ⟨i, g₁, d, sl', hg₁, hs₁, hst⟩ := crowd_pick (P := P) (gs := gs) (w := w) (sl := sl) (fun x hx => by
      obtain ⟨j, hj, rfl⟩ := Array.mem_iff_getElem.1 hx
      have hj' : gs[j]? = some gs[j] := Array.getElem?_eq_getElem hj
      intro k
      cases j with
      | zero => rw [h0] at hj'; rw [← Option.some.inj hj', hs]; simp
      | succ j =>
        have hlt : j < q.length := by have := hL.size; omega
        obtain ⟨y, d, hy, hq, _⟩ := hL.ok j _ (List.getElem?_eq_getElem hlt)
        rw [hj'] at hy
        rw [Option.some.inj hy]
        rcases hq.status with e | e <;> rw [e] <;> simp) ⟨0, g, h0, hs⟩
    cases i with
    | zero => exact h _ gs (w.at d) t q sl' _ (hL.at d) h0 (setK_same _ _ _) hd (hI.drawn _ _ _ _ hi) hst ⟨rfl, rfl⟩
    | succ i =>
      obtain ⟨gs', u, q', hr, hL', hm', hd', hlt, hrl⟩ := (hL.at d).leave (sl := sl') hG h0 hs hg₁ hs₁
      refine Ends.next (hst.trans hr) (ih q'.sum (hn ▸ hlt) _ gs' _ _ q' sl' hL' hm' ?_ (by rw [hd']; exact hd) (hI.grow _ _ _ _ (hI.drawn _ _ _ _ hi) hrl) rfl)
      rw [setK_same]; exact St.le_refl _

theorem tl_closed (hG : Grows G) {I : (Nat → St) → World → Trace → Prop} (hI : Stays I) (Q : Machine → Outcome → World → Trace → Prop) : Closed P true (TL P G L I Q) where
  step := fun g s hs h => tl_step hG hI hs fun K gs w t q sl m hL h0 hK hd hi hst _ => by
    subst hK
    obtain ⟨g', w', es, s', hgo, _, ht, hT⟩ := h w (hL.fit.agr 0)
    obtain ⟨gs', u, hr, hL', hm', hd', hrl⟩ := hL.own (sl := sl) hG h0 hgo ht
    exact Ends.next (hst.trans hr) (hT _ gs' w' _ q sl hL' hm' (by rw [setK_same]; exact St.le_refl _) (by rw [hd']; exact hd) (hI.own _ _ _ _ _ _ _ hi ht hrl))
  mono := fun g s s' hl h K gs w t q sl hL h0 hle hd hi => h K gs w t q sl hL h0 (hl.trans hle) hd hi
theorem TL.mono {I : (Nat → St) → World → Trace → Prop} {Q : Machine → Outcome → World → Trace → Prop} {g : Goroutine} {s s' : St} (hl : s.le s') (h : TL P G L I Q g s) : TL P G L I Q g s' :=
  fun K gs w t q sl hL h0 hle hd hi => h K gs w t q sl hL h0 (hl.trans hle) hd hi
end
end Go.L
namespace Go.L
open Go Go.Conc
open Go.ConcR (KK wgBlock WgAt stA smA rd wr)

section
variable {ι : Type} {E : Crew ι} {L : Nat → Option Obj} {K : Nat → St} {gs : Array Goroutine} {w : World} {t : Trace} {D : List (Role ι)} {d0 : Nat} {main : Goroutine} {sl : Option (Nat × Nat)}
  {ic n : Nat} {g : Goroutine}

/-- The channel is closed; who closed it knew all. -/
def Gone (E : Crew ι) (pc : Nat) (K : Nat → St) (w : World) (t : Trace) : Prop :=
  (∃ sn tm, w.heap[E.Ch]? = some (.chan 0 #[] true sn sn tm)) ∧ ¬ (K 0).knows E.Ch ∧ t.act? pc = some (.close E.Ch) ∧ t.heard pc ∧ (∀ a, NoRelease a t) ∧ w.os = E.os ∧ w.output = E.out
theorem gone_stays (E : Crew ι) (pc : Nat) : Stays (Gone E pc) where
  grow := fun K w t u h hu => ⟨h.1, h.2.1, by rw [act?_old (lt_of_act? h.2.2.1)]; exact h.2.2.1, (heard_old (lt_of_act? h.2.2.1)).2 h.2.2.2.1, fun a => (h.2.2.2.2.1 a).app fun op hop => hu op hop a, h.2.2.2.2.2⟩
  drawn := fun K w t d h => h
  le := fun K w t s h hl => ⟨h.1, by rw [setK_same]; exact fun hk => h.2.1 (hl.knows hk), h.2.2⟩
  own := fun K w t s' w' es u h ht hu => by
    obtain ⟨⟨sn, tm, hc⟩, hk, ha, hh, hn, hsm⟩ := h
    have hlt := lt_size hc
    refine ⟨⟨sn, tm, by rw [ht.frame _ hlt fun ho => hk (.inr ho)]; exact hc⟩, ?_, by rw [act?_old (lt_of_act? ha)]; exact ha, (heard_old (lt_of_act? ha)).2 hh, fun a => (hn a).app fun op hop => hu op hop a, ht.os.trans hsm.1, ht.output.trans hsm.2⟩
    rw [setK_same]
    rintro (h' | h')
    · rcases ht.ros _ h' with h1 | h1 | h1
      · omega
      · exact hk (.inl h1)
      · exact hk (.inr h1)
    · rcases ht.own _ h' with h1 | h1
      · omega
      · exact hk (.inr h1)

theorem role_left {r : Role ι} (h1 : r.cnt = 0) (h4 : r.c4 = 0) (h3 : r.c3 = 0) (h2 : r.c2 = 0) (hc : r ≠ .closer) : ∃ q d c, r = .leave q d c := by
  cases r with
  | leave q d c => exact ⟨q, d, c, rfl⟩
  | closer => exact absurd rfl hc
  | st k n => cases k <;> simp [Role.cnt, Role.c4, Role.c3, Role.c2] at h1 h4 h3 h2
  | _ => exact absurd h1 (by simp [Role.cnt])

/-- What the closer, before it closes, knows of all others. -/
theorem AcqAll.known (hA : AcqAll E t D ic) (hn : NoRelease (stA E.Wg) t) {u : Trace} {pc : Nat} (hpc : t.size ≤ pc) {y : MemOp} (hy : (t ++ u)[pc]? = some y) (hyg : y.g = ic + 1) {i : Nat} {r : Role ι} (hi : D[i]? = some r) (hc : r.cur = true)
    {p : Nat} (hp : t.g? p = some (i + 1)) (hct : t.counts p) : HappensBefore (t ++ u) p pc := by
  obtain ⟨q, h1, h2, h3, h4⟩ := hA
  obtain ⟨x, hx, hxq⟩ := h4 i r hi hc
  have hq := lt_of_act? h1
  have hqg := h2
  obtain ⟨oq, hoq, hgq⟩ := Option.map_eq_some_iff.1 h2
  have edge : HappensBefore t x q := .single (.inr ⟨.marked hxq (.inr hx.act) h1 (fun k _ _ => hn k), hx.heard, h3⟩)
  have last : HappensBefore (t ++ u) q pc := hb_po (by omega) (by rw [getElem?_append_old hq]; exact hoq) hy (hgq.trans hyg.symm)
  have hle : p ≤ x := Nat.le_of_not_lt fun hlt => hx.after p hlt hp hct
  rcases Nat.lt_or_ge p x with hlt | hge
  · exact ((hb_app u (.trans (.single (.inl ⟨hlt, _, hp, hx.g⟩)) edge)).trans last)
  · obtain rfl : p = x := by omega
    exact (hb_app u edge).trans last

def leftFuel (qc : Nat) : Role ι → Nat
  | .leave q _ _ => q
  | _ => qc

/-- THE CLOSER CLOSES THE CHANNEL: all others only leave from now on. -/
theorem Inv.close (h : Inv E L K gs w t D 0 (some (ic, .run .leaf, n)) main d0) {main' : Goroutine} (hm : ∀ (a a' : Goroutine) (w' : World), mayWake E.P a = true → (a'.status = .running ∨ a'.status = .finished) → (∃ sn tm, w'.heap[E.Ch]? = some (.chan 0 #[] true sn sn tm)) → woken E.P a a' w' main = main')
    (hg : gs[ic + 1]? = some g) :
    ∃ gs' w' u q, runT E.P (crowd gs w sl) (ic + 1) = (.next (crowd gs' w' sl), u) ∧ Lv E.P (KnownAt (t.size + 1)) L (fun j => if j = 0 then K 0 else ⟨fun _ => none, []⟩) gs' w' (t ++ u) q ∧ gs'[0]? = some main' ∧ Deaf (t ++ u) 0 = d0 ∧
      Gone E (t.size + 1) (fun j => if j = 0 then K 0 else ⟨fun _ => none, []⟩) w' (t ++ u) ∧ owes D = [] := by
  obtain ⟨hic, huniq, hdf, ⟨gc, hgc, hat⟩, hacq⟩ := h.sy.clo
  obtain rfl : gc = g := by rw [hg] at hgc; exact (Option.some.inj hgc).symm
  obtain ⟨st, sm, ha, hmd⟩ := h.sy.cells
  obtain ⟨e1, e4, e3, e2, rfl, rfl⟩ := hmd.run rfl trivial
  obtain ⟨_, hs, hmw, g', hst, q, hq⟩ := hat
  obtain ⟨sn, rc, tm, hc⟩ := h.sy.chan
  have hbal := h.sy.bal _ _ _ hc
  subst hbal
  have hA := hacq ⟨_, rfl⟩
  have hlt := (List.getElem?_eq_some_iff.1 hic).1
  have hroles : ∀ k r, D[k]? = some r → k ≠ ic → ∃ q d c, r = .leave q d c := fun k r hk hne => by
    refine role_left ?_ ?_ ?_ ?_ fun e => hne (huniq k (e ▸ hk))
    · have := le_tot Role.cnt hk; omega
    · have := le_tot Role.c4 hk; omega
    · have := le_tot Role.c3 hk; omega
    · have := le_tot Role.c2 hk; omega
  have hstep := hst w sn sn tm hc
  have hrun := runT_crowd_go (P := E.P) (sl := sl) (i := ic + 1) hg (by simpa using hstep)
  have q1 : MemOp.ofEvents (ic + 1) gc.frame.fn gc.frame.place #[⟨.obj E.Ch, false, true⟩, ⟨.obj E.Ch, true, true⟩] = #[{ g := ic + 1, fn := gc.frame.fn, pos := gc.frame.place, act := .access ⟨.obj E.Ch, false, true⟩ }, { g := ic + 1, fn := gc.frame.fn, pos := gc.frame.place, act := .close E.Ch }] := by rw [ofEvents_eq]; simp [MemAct.ofEvent]
  rw [q1] at hrun
  generalize hu : (#[{ g := ic + 1, fn := gc.frame.fn, pos := gc.frame.place, act := .access ⟨.obj E.Ch, false, true⟩ }, { g := ic + 1, fn := gc.frame.fn, pos := gc.frame.place, act := .close E.Ch }] : Trace) = u at hrun
  have hug : ∀ op ∈ u, op.g = ic + 1 ∧ (op.act = .access ⟨.obj E.Ch, false, true⟩ ∨ op.act = .close E.Ch) := by rw [← hu]; intro op hop; simp at hop; rcases hop with rfl | rfl <;> simp
  have hq0 : ∀ op ∈ u, ∀ x, op.act.touch? = some x → x = ⟨.obj E.Ch, false, .atomic⟩ := fun op hop x hx => by
    rcases (hug op hop).2 with e | e <;> rw [e] at hx
    · simp only [MemAct.touch?, if_true, Option.some.injEq] at hx; exact hx.symm
    · cases hx
  have hmk : ∀ op ∈ u, ∀ m, op.act ≠ .mark m := fun op hop m => by rcases (hug op hop).2 with e | e <;> rw [e] <;> simp
  have hClt : E.Ch < w.heap.size := lt_size hc
  have hc' : (w.heap.setIfInBounds E.Ch (.chan 0 #[] true sn sn tm))[E.Ch]? = some (.chan 0 #[] true sn sn tm) := by simp [hClt]
  have hpc : (t ++ u)[t.size + 1]? = some { g := ic + 1, fn := gc.frame.fn, pos := gc.frame.place, act := .close E.Ch } := by rw [← hu]; simp
  have hle : ∀ j, ((fun j => if j = 0 then K 0 else ⟨fun _ => none, []⟩) j : St).le (K j) := fun j => by
    by_cases e : j = 0
    · subst e; exact St.le_refl _
    · simp only [if_neg e]; exact ⟨(K j).rw, by simp, fun b o hb => (by cases hb)⟩
  have hgst : ∀ x : Goroutine, (x.status = .running ∨ x.status = .finished) → woken E.P gc g' { w with heap := w.heap.setIfInBounds E.Ch (.chan 0 #[] true sn sn tm) } x = x := fun x hx => by
    unfold Go.Conc.woken
    split
    · exact again_running _ hx
    · rfl
  have hown : ∀ i r, D[i]? = some r → i ≠ ic → KnownAt (t.size + 1) (t ++ u) (i + 1) := fun i r hi hne => by
    obtain ⟨x, hx, hok⟩ := h.base.ok i r hi
    obtain ⟨qq, d, c, rfl⟩ := hroles i r hi hne
    refine ⟨by rw [← hu]; simp, ?_⟩
    cases c with
    | false => exact .inl ((hok.2.2.2.2 rfl).other fun op hop => by rw [(hug op hop).1]; omega)
    | true =>
      refine .inr fun p hp hct => ?_
      obtain ⟨op, ho, hgo⟩ := Option.map_eq_some_iff.1 hp
      rcases getElem?_append_cases ho with ⟨hplt, _⟩ | ⟨_, hmem⟩
      · exact hA.known (h.sy.norel _) (Nat.le_succ _) hpc rfl hi rfl (by rw [← g?_old (u := u) hplt]; exact hp) ((counts_old hplt).1 hct)
      · rw [(hug op hmem).1] at hgo; omega
  refine ⟨_, _, u, D.map (leftFuel q), hrun, ⟨?_, by simp [h.base.size], fun k x hk => ?_, fun i b hi hk => ?_, fun op hop => ?_⟩, ?_, ?_, ⟨⟨sn, tm, hc'⟩, h.sy.kC 0, ?_, ?_, fun a => (h.sy.norel a).app fun op hop => hmk op hop _, h.base.same.1, h.base.same.2⟩, ?_⟩
  · refine (h.base.fit.beside E.Ch (ic + 1) h.sy.kC h.sy.lC hClt (by simp) (fun b hb _ => by simp [Ne.symm hb]) (fun op hop => (hug op hop).1) fun op hop x hx => ?_).le hle
    obtain rfl := hq0 op hop x hx
    refine ⟨rfl, fun sd p a ha' hc => h.sy.plain _ (.inr ⟨ic, _, rfl, hic, rfl⟩) p a ha' (.inr (by rw [hc.1]; rfl)) ?_⟩
    rcases hc.2.2.2 with h3 | h3 | h3
    · exact h3
    · cases h3
    · cases h3.2.2
  · rw [List.getElem?_map] at hk
    obtain ⟨r, hr, rfl⟩ := Option.map_eq_some_iff.1 hk
    by_cases hne : k = ic
    · subst hne
      rw [hic] at hr
      cases hr
      refine ⟨g', 0, by simp [h.base.size, hlt], hq, by rw [Deaf_unmarked _ _ _ hmk]; exact hdf, by rw [← hu]; simp, .inr fun p hp hct => ?_⟩
      obtain ⟨op, ho, hgo⟩ := Option.map_eq_some_iff.1 hp
      rcases Nat.lt_or_ge p (t.size + 1) with hplt | hge
      · exact hb_po hplt ho hpc hgo
      · have hpe : p = t.size + 1 := by
          have := lt_size ho
          rw [← hu] at this
          simp at this
          omega
        subst hpe
        obtain ⟨y, hy, _⟩ := hct
        obtain ⟨o', ho', hx'⟩ := touch_of hy
        rw [hpc] at ho'; cases ho'
        cases hx'
    · obtain ⟨x, hx, hok⟩ := h.base.ok k r hr
      have hkn := hown k r hr hne
      obtain ⟨qq, d, c, rfl⟩ := hroles k r hr hne
      exact ⟨x, d, by rw [get_woken (by omega) hx, hgst x hok.2.1.status], hok.2.1, by rw [Deaf_unmarked _ _ _ hmk]; exact hok.2.2.1, hkn⟩
  · simp only [if_neg hi] at hk
    rcases hk with hk | ⟨o, ho⟩
    · exact hk rfl
    · cases ho
  · rw [Array.size_setIfInBounds, Array.size_map]
    rcases Array.mem_append.1 hop with h' | h'
    · exact h.base.ops op h'
    · rw [(hug op h').1, h.base.size]; omega
  · rw [get_woken (by omega) h.main, hm _ _ _ hmw hq.status ⟨sn, tm, hc'⟩]
  · rw [Deaf_unmarked _ _ _ hmk]; exact h.deaf
  · rw [act?_of hpc]
  · refine ⟨ic + 1, by simp [Trace.g?, hpc], ?_⟩
    have e2 : t ++ u = (t ++ #[({ g := ic + 1, fn := gc.frame.fn, pos := gc.frame.place, act := .access ⟨.obj E.Ch, false, true⟩ } : MemOp)]) ++ #[({ g := ic + 1, fn := gc.frame.fn, pos := gc.frame.place, act := .close E.Ch } : MemOp)] := by rw [← hu, Array.append_assoc]; rfl
    have e3 := Deaf_unmarked t (ic + 1) #[({ g := ic + 1, fn := gc.frame.fn, pos := gc.frame.place, act := .access ⟨.obj E.Ch, false, true⟩ } : MemOp)] (by intro op hop m; simp only [List.mem_toArray, List.mem_singleton] at hop; subst hop; simp)
    rw [e2, deaf_old (by simp)]
    unfold Deaf at e3 hdf
    rw [Array.size_append] at e3
    exact e3.trans hdf
  · unfold owes
    rw [List.filterMap_eq_nil_iff]
    intro r hr
    obtain ⟨k, hk⟩ := List.getElem?_of_mem hr
    by_cases hne : k = ic
    · subst hne; rw [hic] at hk; cases hk; rfl
    · obtain ⟨qq, d, c, rfl⟩ := hroles k r hk hne; rfl
end
end Go.L
namespace Go.L
open Go Go.Conc
open Go.ConcR (KK wgBlock WgAt stA smA rd wr)

section
variable {ι : Type} {E : Crew ι} {L : Nat → Option Obj} {K : Nat → St} {gs : Array Goroutine} {w w' : World} {t u : Trace} {D : List (Role ι)} {pend d0 : Nat} {cl : Clo} {main : Goroutine} {sl : Option (Nat × Nat)}
  {i : Nat} {g g' : Goroutine} {es : Array Event}

def PLt (mx : Nat) : List (Role ι) × Clo → List (Role ι) × Clo → Prop := Prod.Lex (One RoleLt) (InvImage MuLt (cloMu mx))
theorem PLt.wf (mx : Nat) : WellFounded (PLt (ι := ι) mx) := (Prod.lex ⟨_, One.wf RoleLt.wf⟩ ⟨_, InvImage.wf (cloMu mx) MuLt.wf⟩).wf

/-- A step of another's, that neither meets main nor closes the channel. -/
theorem Inv.other (h : Inv E L K gs w t D pend cl main d0) (hm : MainOK E main) (hg : gs[i + 1]? = some g) (hs : g.status = .running) (hnb : D[i]? ≠ some (.back .leaf)) (hnc : ∀ n, cl ≠ some (i, .run .leaf, n))
    (hw : (∃ o, D[i]? = some (.work o .leaf)) → main.status = .running) :
    ∃ K' gs' w' u D' cl', runT E.P (crowd gs w sl) (i + 1) = (.next (crowd gs' w' sl), u) ∧ Inv E L K' gs' w' (t ++ u) D' pend cl' main d0 ∧ K' 0 = K 0 ∧ owes D' = owes D ∧ cl'.isSome = cl.isSome ∧ PLt E.max (D', cl') (D, cl) ∧ ∀ o, Role.sendB o ∈ D' → Role.sendB o ∈ D ∨ main.status = .running := by
  have hlt : i < D.length := by have := lt_size hg; have := h.base.size; omega
  have hD : D[i]? = some D[i] := List.getElem?_eq_getElem hlt
  have fin : Goes1 E L K D pend cl main d0 (crowd gs w sl) sl t (i + 1) →
      ∃ K' gs' w' u D' cl', runT E.P (crowd gs w sl) (i + 1) = (.next (crowd gs' w' sl), u) ∧ Inv E L K' gs' w' (t ++ u) D' pend cl' main d0 ∧ K' 0 = K 0 ∧ owes D' = owes D ∧ cl'.isSome = cl.isSome ∧ PLt E.max (D', cl') (D, cl) ∧ ∀ o, Role.sendB o ∈ D' → Role.sendB o ∈ D ∨ main.status = .running := by
    rintro ⟨K', gs', w', u, D', cl', h1, h2, h3, h4, h5, h6, h7, h8⟩
    refine ⟨K', gs', w', u, D', cl', h1, h2, h3, h4, ?_, Prod.Lex.left _ _ h5, h8⟩
    cases hc : cl with
    | none => rw [h6 hc]
    | some x => have := h7 (by rw [hc]; simp); cases cl' <;> simp_all
  obtain ⟨x, hx, hok⟩ := h.base.ok i _ hD
  obtain rfl : x = g := by rw [hg] at hx; exact (Option.some.inj hx).symm
  generalize hr : D[i] = r at hD hok
  match r, hD, hok with
  | .leave q d c, hD, hok => exact fin (h.leave hm hD hg hs)
  | .work o (.node f), hD, hok => exact fin (h.work hm hD hg)
  | .work o .leaf, hD, hok => exact fin (h.sendWaits (hw ⟨o, hD⟩) hD hg)
  | .sendB o, hD, ⟨_, g₀, g₂, v, zs, X, Y, e, _⟩ => rw [e] at hs; cases hs
  | .back (.node f), hD, hok => exact fin (h.back hm hD hg)
  | .back .leaf, hD, hok => exact absurd hD hnb
  | .st k (n + 1), hD, hok => exact fin (h.stPure hm hD hg)
  | .st .r0 0, hD, hok => exact fin (h.r0 hm hD hg)
  | .st .k1 0, hD, hok => exact fin (h.k1 hm hD hg)
  | .st .d1 0, hD, hok => exact fin (h.d1 hm hD hg)
  | .st .d2 0, hD, hok => exact fin (h.d2 hm hD hg)
  | .st .d3 0, hD, hok => exact fin (h.d3 hm hD hg)
  | .st .d4 0, hD, hok => exact fin (h.d4 hm hD hg)
  | .closer, hD, hok =>
    have hclo := h.sy.clo
    match cl, h, hclo, hnc with
    | none, h, hclo, _ => exact (hclo _ (List.mem_of_getElem? hD)).elim
    | some (ic, c, n), h, ⟨_, hu, _, _, _⟩, hnc =>
      have e := hu i hD
      subst e
      obtain ⟨K', gs', w', u, c', n', h1, h2, h3, h4⟩ := h.closer (sl := sl) hm hg hs fun e => hnc n (by rw [e])
      exact ⟨K', gs', w', u, D, _, h1, h2, h3, rfl, rfl, Prod.Lex.right _ h4, fun _ h => .inl h⟩

theorem Inv.awake (h : Inv E L K gs w t D pend cl main d0) (hm : MainOK E main) : ∀ x ∈ gs, Go.Conc.awake x := by
  intro x hx
  obtain ⟨j, hj, rfl⟩ := Array.mem_iff_getElem.1 hx
  have hj' : gs[j]? = some gs[j] := Array.getElem?_eq_getElem hj
  intro k
  cases j with
  | zero =>
    rw [h.main] at hj'
    rw [← Option.some.inj hj']
    rcases hm with e | ⟨m, z, rfl⟩
    · rw [e]; simp
    · simp [parked]
  | succ j =>
    have hlt : j < D.length := by have := h.base.size; omega
    have hD : D[j]? = some D[j] := List.getElem?_eq_getElem hlt
    obtain ⟨y, hy, hok⟩ := h.base.ok j _ hD
    rw [hj'] at hy
    rw [Option.some.inj hy]
    by_cases hb : ∃ o, D[j] = .sendB o
    · obtain ⟨o, e⟩ := hb
      rw [e] at hok
      obtain ⟨_, g₀, g₂, v, zs, X, Y, rfl, _⟩ := hok
      simp [parked]
    · by_cases hc : D[j] = .closer
      · have hclo := h.sy.clo
        match cl, hclo with
        | none, hclo =>
          have := hclo D[j] (List.mem_of_getElem? hD)
          rw [hc] at this
          exact this.elim
        | some (ic, c, n), ⟨_, h2, _, ⟨gc, hgc, hat⟩, _⟩ =>
          have e := h2 j (by rw [hD, hc])
          subst e
          rw [hj', hy] at hgc
          obtain rfl := Option.some.inj hgc
          by_cases hblk : c = .blk
          · subst hblk
            obtain ⟨_, g₀, hg₀, e⟩ := hat
            rw [e]; simp
          · rw [CK.at_running hat hblk]; simp
      · rcases hok.running (fun o e => hb ⟨o, e⟩) hc with e | e <;> rw [e] <;> simp

theorem Inv.le0 (h : Inv E L K gs w t D pend cl main d0) {s : St} (hl : s.le (K 0)) : Inv E L (setK K 0 s) gs w t D pend cl main d0 := by
  have hle : ∀ j, (setK K 0 s j).le (K j) := fun j => by
    by_cases e : j = 0
    · subst e; rw [setK_same]; exact hl
    · rw [setK_ne _ _ e]; exact St.le_refl _
  refine ⟨⟨h.base.fit.le hle, h.base.size, fun k r hk => ?_, fun k hk b hb => h.base.far k hk b ((hle k).knows hb), h.base.ops, h.base.same⟩,
    ⟨fun j hj => h.sy.kW j ((hle j).knows hj), fun j hj => h.sy.kC j ((hle j).knows hj), h.sy.lW, h.sy.lC, h.sy.ne, h.sy.norel, h.sy.plain, h.sy.said, h.sy.cells, h.sy.most, h.sy.chan, h.sy.bal, ?_⟩, h.main, h.deaf⟩
  · rw [setK_ne _ _ (by omega)]; exact h.base.ok k r hk
  · have hclo := h.sy.clo
    match cl, hclo with
    | none, hclo => exact hclo
    | some (ic, c, n), ⟨h1, h2, h3, ⟨gc, hgc, hat⟩, h5⟩ => exact ⟨h1, h2, h3, ⟨gc, hgc, by rw [setK_ne _ _ (by omega)]; exact hat⟩, h5⟩

/-- Main, at g with knowledge s, in a crowd: the run ends well. b: the closer is started. -/
def TC (E : Crew ι) (L : Nat → Option Obj) (Q : Machine → Outcome → World → Trace → Prop) (pend : Nat) (b : Bool) (os : List ι) (d0 : Nat) (g : Goroutine) (s : St) : Prop :=
  ∀ K gs w t D cl sl, cl.isSome = b → Inv E L K gs w t D pend cl g d0 → owes D = os → s.le (K 0) → Ends E.P Q (crowd gs w sl) t

theorem tc_step {Q : Machine → Outcome → World → Trace → Prop} {b : Bool} {os : List ι} {s : St} (hs : g.status = .running)
    (h : ∀ K gs w t D cl sl m, cl.isSome = b → Inv E L K gs w t D pend cl g d0 → owes D = os → K 0 = s → stepT E.P m = runT E.P (crowd gs w sl) 0 → Ends E.P Q m t)
    (hcl : b = true → pend = 0 ∧ d0 = 0 ∧ (os = [] → ∀ pc, TL E.P (KnownAt pc) L (Gone E pc) Q g s)) : TC E L Q pend b os d0 g s := by
  intro K gs w t D cl sl hb hI ho hle
  have key : ∀ μ : List (Role ι) × Clo, ∀ K gs w t sl, μ.2.isSome = b → Inv E L K gs w t μ.1 pend μ.2 g d0 → owes μ.1 = os → K 0 = s → Ends E.P Q (crowd gs w sl) t := by
    intro μ
    induction μ using (PLt.wf E.max).induction with
    | _ μ ih =>
      obtain ⟨D, cl⟩ := μ
      intro K gs w t sl hb hI ho hK
      simp only at hb hI ho
      obtain ⟨i, g₁, d, sl', hg₁, hs₁, hst⟩ := crowd_pick (P := E.P) (gs := gs) (w := w) (sl := sl) (hI.awake (.inl hs)) ⟨0, g, hI.main, hs⟩
      have hI' := hI.at d
      cases i with
      | zero => exact h K gs _ t D cl sl' _ hb hI' ho hK hst
      | succ i =>
        by_cases hbl : D[i]? = some (.back .leaf)
        · obtain ⟨n, h1, h2, h3⟩ := hI.norm hbl
          exact ih (_, cl) (Prod.Lex.left _ _ h3) _ gs w t sl hb h1 (h2.trans ho) (by rw [setK_ne _ _ (by omega)]; exact hK)
        · by_cases hc : ∃ n, cl = some (i, .run .leaf, n)
          · obtain ⟨n, e⟩ := hc
            subst e
            obtain ⟨hp, hd, hT⟩ := hcl (by rw [← hb]; rfl)
            subst hp
            obtain ⟨gs', w', u, q, hr, hL, h0, hdd, hG, hos⟩ := hI'.close (sl := sl') (main' := g) (fun a a' w' _ _ _ => by
              unfold Go.Conc.woken
              split
              · exact again_running _ (.inl hs)
              · rfl) hg₁
            exact Ends.next (hst.trans hr) (hT (ho.symm.trans hos) (t.size + 1) _ gs' w' _ q sl' hL h0 (by simp only [if_true]; rw [hK]; exact St.le_refl _) (by rw [hdd]; exact hd) hG)
          · obtain ⟨K', gs', w', u, D', cl', hr, hI2, hK2, ho2, hb2, hlt, _⟩ := hI'.other (sl := sl') (.inl hs) hg₁ hs₁ hbl (fun n e => hc ⟨n, e⟩) (fun _ => hs)
            exact Ends.next (hst.trans hr) (ih (D', cl') hlt K' gs' w' _ sl' (hb2.trans hb) hI2 (ho2.trans ho) (hK2.trans hK))
  exact key (D, cl) _ gs w t sl hb (hI.le0 hle) ho (setK_same _ _ _)
end
end Go.L
namespace Go.L
open Go Go.Conc
open Go.ConcR (KK wgBlock WgAt stA smA rd wr)

section
variable {ι : Type} {E : Crew ι} {L : Nat → Option Obj} {Q : Machine → Outcome → World → Trace → Prop} {g : Goroutine} {s : St}

/-- MAIN FINDS THE CHANNEL CLOSED: it owns again what it has lent. -/
theorem tl_recv (hLC : L E.Ch = none) {pc : Nat} {x : Goroutine} {z : Value} {s' : St} (hx : x.status = .running) (hst : ∀ w, Agrees s w → stepG E.P true x w = .comm g #[rcase E.Ch z] true (.recv true) w #[])
    (hs' : ∀ w, Agrees s w → (∀ b o, L b = some o → w.heap[b]? = some o) → Agrees s' w) (hin : ∀ b, s'.knows b → L b ≠ none ∨ s.knows b)
    (hT : TL E.P KnownTo0 (fun _ => none) (Calm E.os E.out) Q (Conc.served g (.tuple #[z, .bool false])) s') : TL E.P (KnownAt pc) L (Gone E pc) Q x s := by
  refine tl_step (grows_at pc) (gone_stays E pc) hx fun K gs w t q sl m hL h0 hK hd hG hm _ => ?_
  subst hK
  obtain ⟨⟨sn, tm, hc⟩, hkC, hact, hheard, hnrel, hsame⟩ := hG
  have hno : partners (gs.setIfInBounds 0 ph) E.Ch true = [] := partners_nil fun j y hy => by
    rcases getElem?_stand gs _ _ _ hy with ⟨_, rfl⟩ | ⟨hj, hy'⟩
    · exact offersAt_ph _ _
    · cases j with
      | zero => exact absurd rfl hj
      | succ j =>
        have hlt : j < q.length := by have := lt_size hy'; have := hL.size; omega
        obtain ⟨y', d, hy2, hq, _⟩ := hL.ok j _ (List.getElem?_eq_getElem hlt)
        rw [hy'] at hy2
        rw [Option.some.inj hy2]
        exact not_blocked hq.status _ _
  have hrun := crowd_recv_closed (sl := sl) h0 (by simpa using hst w (hL.fit.agr 0)) hc hno
  have e0 : MemOp.ofEvents 0 x.frame.fn x.frame.place #[] = #[] := rfl
  rw [e0, Array.empty_append] at hrun
  generalize hu : (#[{ g := 0, fn := g.frame.fn, pos := g.frame.place, act := .recvClosed E.Ch }] : Trace) = u at hrun
  have hug : ∀ op ∈ u, op.g = 0 ∧ op.act = .recvClosed E.Ch := by rw [← hu]; intro op hop; simp at hop; subst hop; exact ⟨rfl, rfl⟩
  have hq0 : ∀ op ∈ u, op.act.touch? = none := fun op hop => by rw [(hug op hop).2]; rfl
  have hmk : ∀ op ∈ u, ∀ m, op.act ≠ .mark m := fun op hop m => by rw [(hug op hop).2]; simp
  have hr : (t ++ u)[t.size]? = some { g := 0, fn := g.frame.fn, pos := g.frame.place, act := .recvClosed E.Ch } := by rw [← hu]; simp
  have hpclt := lt_of_act? hact
  have edge : HappensBefore (t ++ u) pc t.size := .single (.inr ⟨.closed (c := E.Ch) (by rw [act?_old hpclt]; exact hact) (by rw [act?_of hr]), (heard_old hpclt).2 hheard, ⟨0, by simp [Trace.g?, hr], by rw [deaf_old (Nat.le_refl _)]; exact hd⟩⟩)
  have hall : ∀ i n, q[i]? = some n → KnownTo0 (t ++ u) (i + 1) := fun i n hi => by
    obtain ⟨y, d, hy, hq, hdd, hk⟩ := hL.ok i n hi
    rcases hk.2 with hk | hk
    · exact hk.quiet hq0
    · intro p hp hct
      obtain ⟨op, ho, hgo⟩ := Option.map_eq_some_iff.1 hp
      rcases getElem?_append_cases ho with ⟨hplt, _⟩ | ⟨_, hmem⟩
      · exact ⟨t.size, by simp [Trace.g?, hr], (hb_app u (hk p (by rw [← g?_old (u := u) hplt]; exact hp) ((counts_old hplt).1 hct))).trans edge⟩
      · rw [(hug op hmem).1] at hgo; omega
  have hfit := hL.fit.quiet (u := u) (w' := w) E.Ch (fun j => by
    by_cases e : j = 0
    · subst e; exact hkC
    · exact hL.none j _ e) hLC (Nat.le_refl _) (fun _ _ _ => rfl) hq0
  refine Ends.next (hm.trans hrun) (hT (setK K 0 s') _ w _ q sl ⟨?_, by simp [hL.size], fun i n hi => ?_, fun i b hi hk => ?_, fun op hop => ?_⟩ ?_ (by rw [setK_same]; exact St.le_refl _) (by rw [Deaf_unmarked _ _ _ hmk]; exact hd) ⟨fun a => (hnrel a).app fun op hop => hmk op hop _, hsame⟩)
  · refine hfit.alone (i := 0) (fun j hj b => hL.none j b hj) s' (hs' w (hL.fit.agr 0) hL.fit.lent) hin fun b hb p y hy hpl hyb => ?_
    obtain ⟨op, ho, hyo⟩ := touch_of hy
    have hlt : op.g < gs.size := by
      rcases Array.mem_append.1 (mem_of_getElem? ho) with h' | h'
      · exact hL.ops op h'
      · rw [(hug op h').1, hL.size]; omega
    cases hgo : op.g with
    | zero => have := knows_own ho; rwa [hgo] at this
    | succ k =>
      have hk : k < q.length := by have := hL.size; omega
      obtain ⟨j, hj, hb'⟩ := hall k _ (List.getElem?_eq_getElem hk) p (by simp [Trace.g?, ho, hgo]) ⟨y, by simpa [touchAt] using hy, by cases hl : y.loc <;> simp_all [blk, Loc.isMemory], .inl (by rw [hpl]; simp)⟩
      obtain ⟨z', hz', hzg⟩ := Option.map_eq_some_iff.1 hj
      exact ⟨j, z', hz', hzg, .inr hb'⟩
  · obtain ⟨y, d, hy, hq, hdd, hk⟩ := hL.ok i n hi
    exact ⟨y, d, by rw [Array.getElem?_setIfInBounds_ne (by omega)]; exact hy, hq, by rw [Deaf_unmarked _ _ _ hmk]; exact hdd, hall i n hi⟩
  · rw [setK_ne _ _ hi] at hk; exact hL.none i b hi hk
  · rw [Array.size_setIfInBounds]
    rcases Array.mem_append.1 hop with h' | h'
    · exact hL.ops op h'
    · rw [(hug op h').1, hL.size]; omega
  · have : 0 < gs.size := by rw [hL.size]; omega
    simp [this, finishComm_recv, recvd]
end
end Go.L
namespace Go.L
open Go Go.Conc
open Go.ConcR (KK wgBlock WgAt stA smA rd wr)

section
variable {ι : Type} {E : Crew ι} {L : Nat → Option Obj} {K : Nat → St} {gs : Array Goroutine} {w w' : World} {t : Trace} {D : List (Role ι)} {pend d0 : Nat} {cl : Clo} {main : Goroutine} {sl : Option (Nat × Nat)}
  {i : Nat} {Q : Machine → Outcome → World → Trace → Prop} {g : Goroutine} {s : St}

theorem setChan_at (w : World) (d c : Nat) (h : c < w.heap.size) (sn rc : Nat) (tm : Bool) :
    ((w.at d).setChan c 0 #[] false sn rc tm).heap[c]? = some (.chan 0 #[] false sn rc tm) ∧ ((w.at d).setChan c 0 #[] false sn rc tm).heap.size = w.heap.size ∧
    ∀ b, b ≠ c → ((w.at d).setChan c 0 #[] false sn rc tm).heap[b]? = w.heap[b]? := by
  refine ⟨by simp [World.setChan, World.at, h], by simp [World.setChan, World.at], fun b hb => by simp [World.setChan, World.at, Ne.symm hb]⟩

/-- While nobody waits to send, somebody runs. -/
theorem Inv.alive (h : Inv E L K gs w t D 0 cl main d0) (hcl : cl ≠ none) (hn : ∀ o, Role.sendB o ∉ D) : ∃ (i : Nat) (x : Goroutine), gs[i]? = some x ∧ x.status = .running := by
  by_cases hall : ∀ r ∈ D, r.left = true ∨ r = .closer
  · have hclo := h.sy.clo
    obtain ⟨st, sm, _, hmd⟩ := h.sy.cells
    match cl, hclo, hmd, hcl with
    | some (ic, c, n), ⟨_, _, _, ⟨gc, hgc, hat⟩, _⟩, hmd, _ =>
      refine ⟨_, gc, hgc, CK.at_running hat fun e => ?_⟩
      subst e
      have z : ∀ (f : Role ι → Nat), (∀ q d c, f (.leave q d c) = 0) → f .closer = 0 → tot f D = 0 := fun f h1 h2 => by
        unfold tot
        rw [List.sum_eq_zero_iff_forall_eq_nat]
        intro x hx
        obtain ⟨r, hr, rfl⟩ := List.mem_map.1 hx
        rcases hall r hr with e | rfl
        · cases r <;> first | exact h1 _ _ _ | cases e
        · exact h2
      have z1 := z Role.cnt (fun _ _ _ => rfl) rfl
      have z4 := z Role.c4 (fun _ _ _ => rfl) rfl
      have z3 := z Role.c3 (fun _ _ _ => rfl) rfl
      have z2 := z Role.c2 (fun _ _ _ => rfl) rfl
      rw [z1, z4, z3, z2] at hmd
      simp only [Option.map_some] at hmd
      generalize ho : some CK.blk = o at hmd
      generalize h0 : 0 + 0 = k at hmd
      cases hmd with
      | reg _ h2 => omega
      | sema _ h2 => cases ho; exact h2 rfl
      | over h1 => cases ho; exact h1.elim
      | _ => cases ho
  · obtain ⟨r, hr'⟩ := Classical.not_forall.1 hall
    obtain ⟨hr, h12⟩ := Classical.not_imp.1 hr'
    have h1 : ¬ r.left = true := fun e => h12 (.inl e)
    have h2 : r ≠ .closer := fun e => h12 (.inr e)
    obtain ⟨k, hk⟩ := List.getElem?_of_mem hr
    obtain ⟨x, hx, hok⟩ := h.base.ok k r hk
    refine ⟨_, x, hx, ?_⟩
    cases r with
    | leave q d c => exact absurd rfl h1
    | work o tr => exact Tread.running (fun _ _ y => y.1) hok.2
    | sendB o => exact absurd hr (hn o)
    | back tr => exact Tread.running (fun _ _ y => Crew.pure.running (fun _ z => z.1) y) hok.2
    | st k n => exact Pure.running (WK.running k) hok.2.2.1
    | closer => exact absurd rfl h2

/-- A worker sends, and main waits for it. -/
theorem Inv.sendMeets {z : Value} (h : Inv E L K gs w t D pend cl (parked g #[rcase E.Ch z] (.recv true)) 0) (hcl : cl ≠ none) {o : ι} {gw : Goroutine} (hi : D[i]? = some (.work o .leaf)) (hg : gs[i + 1]? = some gw) :
    ∃ K' gs' w' u D' v X a b, runT E.P (crowd gs w sl) (i + 1) = (.next (crowd gs' w' sl), u) ∧ Inv E L K' gs' w' (t ++ u) D' pend cl (Conc.served g (.tuple #[v, .bool true])) 0 ∧ K' 0 = ⟨(K 0).ro, X ++ (K 0).rw⟩ ∧
      E.Sent o v X ∧ owes D = a ++ o :: b ∧ owes D' = a ++ b := by
  obtain ⟨g₁, hg₁, hok⟩ := h.base.ok i _ hi
  obtain rfl : g₁ = gw := by rw [hg] at hg₁; exact (Option.some.inj hg₁).symm
  obtain ⟨hd, hs, g₂, v, zs, X, Y, hXY, hsent, hst, tr, s₀, hle, hback⟩ := hok
  obtain ⟨sn, rc, tm, hc⟩ := h.sy.chan
  have hsz := h.base.size
  have hpar : partners (gs.setIfInBounds (i + 1) ph) E.Ch false = [(0, 0)] := by
    have h0 : (gs.setIfInBounds (i + 1) ph)[0]? = some (parked g #[rcase E.Ch z] (.recv true)) := stand_get (by omega) h.main
    rw [partners_one h0 fun k x hk hx => ?_]
    · rw [offersAt_parked_recv]; simp
    · rcases getElem?_stand gs _ _ _ hx with ⟨_, rfl⟩ | ⟨_, hx'⟩
      · exact offersAt_ph _ _
      · cases k with
        | zero => exact absurd rfl hk
        | succ k =>
          rcases h.offers hx' with ⟨o', g', v', zs', _, rfl⟩ | hn
          · exact offersAt_parked_send' _ _ _ _ _ _
          · exact hn _ _
  have hrun := crowd_send_meets (sl := sl) hg (by simpa using hst w (h.base.fit.agr _)) hc (by omega) h.main hpar
  have e0 : MemOp.ofEvents (i + 1) g₁.frame.fn g₁.frame.place #[] = #[] := rfl
  rw [e0, Array.empty_append] at hrun
  obtain ⟨a, b, ha, hb⟩ := owes_take (r' := Role.back tr) rfl hi (o := o) rfl
  have hwc := setChan_at w w.drawn E.Ch (lt_size hc) (sn + 1) (rc + 1) tm
  refine ⟨_, _, _, _, _, v, X, a, b, hrun, h.meet hcl hi (.inl rfl) hd hXY hle hback (by simp) ?_ ?_ (fun k h1 h2 => ?_) hc hwc.1 hwc.2.1 hwc.2.2 ⟨rfl, rfl⟩ ⟨rfl, rfl⟩ ⟨rfl, rfl⟩ ⟨rfl, rfl⟩ ⟨rfl, rfl⟩, setK_same _ _ _, hsent, ha, hb⟩
  · rw [Array.getElem?_setIfInBounds_ne (by omega), Array.getElem?_setIfInBounds_self_of_lt (by omega)]
    rw [finishComm_recv]; rfl
  · rw [Array.getElem?_setIfInBounds_self_of_lt (by have := lt_size hg; simpa using this)]
    rw [finishComm_send]
  · rw [Array.getElem?_setIfInBounds_ne (Ne.symm h2), Array.getElem?_setIfInBounds_ne (Ne.symm h1)]

/-- MAIN WAITS FOR A LIST. -/
theorem parked_ends {z : Value} {os : List ι}
    (hmeet : ∀ a o b v X, os = a ++ o :: b → E.Sent o v X → TC E L Q 0 true (a ++ b) 0 (Conc.served g (.tuple #[v, .bool true])) ⟨s.ro, X ++ s.rw⟩)
    (hend : os = [] → ∀ pc, TL E.P (KnownAt pc) L (Gone E pc) Q { parked g #[rcase E.Ch z] (.recv true) with status := .running } s) :
    ∀ (μ : List (Role ι) × Clo) K gs w t sl, μ.2.isSome = true → Inv E L K gs w t μ.1 0 μ.2 (parked g #[rcase E.Ch z] (.recv true)) 0 → owes μ.1 = os → K 0 = s → (∀ o, Role.sendB o ∉ μ.1) → Ends E.P Q (crowd gs w sl) t := by
  intro μ
  induction μ using (PLt.wf E.max).induction with
  | _ μ ih =>
    obtain ⟨D, cl⟩ := μ
    intro K gs w t sl hb hI ho hK hn
    simp only at hb hI ho hn
    have hcl : cl ≠ none := fun e => by rw [e] at hb; cases hb
    have hmo : MainOK E (parked g #[rcase E.Ch z] (.recv true)) := .inr ⟨g, z, rfl⟩
    obtain ⟨i, g₁, d, sl', hg₁, hs₁, hst⟩ := crowd_pick (P := E.P) (gs := gs) (w := w) (sl := sl) (hI.awake hmo) (hI.alive hcl hn)
    have hI' := hI.at d
    cases i with
    | zero => rw [hI.main] at hg₁; rw [← Option.some.inj hg₁] at hs₁; cases hs₁
    | succ i =>
      by_cases hbl : D[i]? = some (.back .leaf)
      · obtain ⟨n, h1, h2, h3⟩ := hI.norm hbl
        refine ih (_, cl) (Prod.Lex.left _ _ h3) _ gs w t sl hb h1 (h2.trans ho) (by rw [setK_ne _ _ (by omega)]; exact hK) fun o hm => ?_
        rcases List.mem_or_eq_of_mem_set hm with h' | h'
        · exact hn o h'
        · cases h'
      · by_cases hc : ∃ n, cl = some (i, .run .leaf, n)
        · obtain ⟨n, e⟩ := hc
          subst e
          obtain ⟨gs', w', u, q, hr, hL, h0, hdd, hG, hos⟩ := hI'.close (sl := sl') (main' := { parked g #[rcase E.Ch z] (.recv true) with status := .running }) (fun a a' w' hmw hs' ⟨sn, tm, hc'⟩ => by
            have : (mayWake E.P a && a'.status != .blocked && a'.status != .waiting) = true := by rcases hs' with e | e <;> simp [hmw, e]
            unfold Go.Conc.woken
            rw [if_pos this]
            exact again_recv_closed hc') hg₁
          exact Ends.next (hst.trans hr) (hend (ho.symm.trans hos) (t.size + 1) _ gs' w' _ q sl' hL h0 (by simp only [if_true]; rw [hK]; exact St.le_refl _) (by rw [hdd]) hG)
        · by_cases hwk : ∃ o, D[i]? = some (.work o .leaf)
          · obtain ⟨o, hi⟩ := hwk
            obtain ⟨K', gs', w', u, D', v, X, a, b, hr, hI2, hK2, hsent, ha, hb'⟩ := hI'.sendMeets (sl := sl') hcl hi hg₁
            refine Ends.next (hst.trans hr) (hmeet a o b v X (ho.symm.trans ha) hsent K' gs' w' _ D' cl sl' hb hI2 hb' ?_)
            rw [hK2, hK]; exact St.le_refl _
          · obtain ⟨K', gs', w', u, D', cl', hr, hI2, hK2, ho2, hb2, hlt, hsb⟩ := hI'.other (sl := sl') hmo hg₁ hs₁ hbl (fun n e => hc ⟨n, e⟩) (fun hx => absurd hx hwk)
            refine Ends.next (hst.trans hr) (ih (D', cl') hlt K' gs' w' _ sl' (hb2.trans hb) hI2 (ho2.trans ho) (hK2.trans hK) fun o hm => ?_)
            rcases hsb o hm with h' | h'
            · exact hn o h'
            · cases h'

/-- MAIN RECEIVES. -/
theorem tc_recv {z : Value} {os : List ι} (hs : g.status = .running) (hst : ∀ w, Agrees s w → stepG E.P true g w = .comm g #[rcase E.Ch z] true (.recv true) w #[])
    (hmeet : ∀ a o b v X, os = a ++ o :: b → E.Sent o v X → TC E L Q 0 true (a ++ b) 0 (Conc.served g (.tuple #[v, .bool true])) ⟨s.ro, X ++ s.rw⟩)
    (hend : os = [] → ∀ pc, TL E.P (KnownAt pc) L (Gone E pc) Q g s ∧ TL E.P (KnownAt pc) L (Gone E pc) Q { parked g #[rcase E.Ch z] (.recv true) with status := .running } s) : TC E L Q 0 true os 0 g s := by
  refine tc_step hs (fun K gs w t D cl sl m hb hI ho hK hm => ?_) fun _ => ⟨rfl, rfl, fun h pc => (hend h pc).1⟩
  have hcl : cl ≠ none := fun e => by rw [e] at hb; cases hb
  obtain ⟨sn, rc, tm, hc⟩ := hI.sy.chan
  have hgo := hst w (hK ▸ hI.base.fit.agr 0)
  have e0 : MemOp.ofEvents 0 g.frame.fn g.frame.place #[] = #[] := rfl
  by_cases hne : partners (gs.setIfInBounds 0 ph) E.Ch true = []
  · have hrun := crowd_waits (sl := sl) hI.main (by simpa using hgo) (fun cc hcc => by
      simp only [List.mem_toArray, List.mem_singleton] at hcc
      subst hcc
      exact ways_recv_none hc hne)
    rw [e0] at hrun
    have hsz := hI.base.size
    refine Ends.next (hm.trans hrun) (parked_ends hmeet (fun h pc => (hend h pc).2) (D, cl) K _ w _ sl hb ⟨⟨?_, by simp [hsz], fun k r hk => ?_, fun k hk => hI.base.far k (by simpa using hk), fun op hop => ?_, hI.base.same⟩, ?_, ?_, ?_⟩ ho hK fun o hm => ?_)
    · rw [Array.append_empty]; exact hI.base.fit
    · obtain ⟨x, hx, hok⟩ := hI.base.ok k r hk
      exact ⟨x, by rw [Array.getElem?_setIfInBounds_ne (by omega)]; exact hx, by rw [Array.append_empty]; exact hok⟩
    · rw [Array.append_empty] at hop; rw [Array.size_setIfInBounds]; exact hI.base.ops op hop
    · rw [Array.append_empty]
      refine ⟨hI.sy.kW, hI.sy.kC, hI.sy.lW, hI.sy.lC, hI.sy.ne, hI.sy.norel, hI.sy.plain, hI.sy.said, hI.sy.cells, hI.sy.most, hI.sy.chan, hI.sy.bal, ?_⟩
      have hclo := hI.sy.clo
      match cl, hclo with
      | none, hclo => exact hclo
      | some (ic, c, n), ⟨h1, h2, h3, ⟨gc, hgc, hat⟩, h5⟩ => exact ⟨h1, h2, h3, ⟨gc, by rw [Array.getElem?_setIfInBounds_ne (by omega)]; exact hgc, hat⟩, h5⟩
    · rw [Array.getElem?_setIfInBounds_self_of_lt (by omega)]
    · rw [Array.append_empty]; exact hI.deaf
    · obtain ⟨k, hk⟩ := List.getElem?_of_mem hm
      obtain ⟨x, hx, _, g₀, g₂, v, zs, X, Y, rfl, _⟩ := hI.base.ok k _ hk
      have : ((k + 1, 0) : Nat × Nat) ∈ partners (gs.setIfInBounds 0 ph) E.Ch true := mem_partners.2 ⟨_, stand_get (by omega) hx, by rw [offersAt_parked_send]; simp⟩
      rw [hne] at this; cases this
  · obtain ⟨j, gj, vj, zj, shj, d, hj0, hj, hrun⟩ := crowd_recv_meets_some (sl := sl) hI.main (by simpa using hgo) hc hne fun j k hjk => by
      obtain ⟨x, hx, hk⟩ := mem_partners.1 hjk
      rcases getElem?_stand gs _ _ _ hx with ⟨_, rfl⟩ | ⟨hj0, hx'⟩
      · rw [offersAt_ph] at hk; cases hk
      · cases j with
        | zero => exact absurd rfl hj0
        | succ j =>
          rcases hI.offers hx' with ⟨o', g', v', zs', _, rfl⟩ | hn
          · rw [offersAt_parked_send] at hk
            simp at hk
            exact ⟨hk, by omega, _, _, _, _, hx'⟩
          · rw [hn] at hk; cases hk
    rw [e0, Array.empty_append] at hrun
    cases j with
    | zero => exact absurd rfl hj0
    | succ i =>
      rcases hI.offers hj with ⟨o, g₂, v, zs, hi, e⟩ | hn
      · obtain ⟨x, hx, hdf, g₀, g₂', v', zs', X, Y, e', hXY, hsent, _, tr, s₀, hle, hback⟩ := hI.base.ok i _ hi
        obtain rfl : x = parked gj #[scase E.Ch vj zj] shj := by rw [hj] at hx; exact (Option.some.inj hx).symm
        have hv : vj = v' := by
          have := congrArg Goroutine.offers e'
          simp only [parked, scase, Option.some.injEq, Prod.mk.injEq, Array.mk.injEq, List.cons.injEq, CommCase.mk.injEq] at this
          exact this.1.1.2.1
        have hsv : gj.finishComm E.P #[scase E.Ch vj zj] shj 0 undef false = Conc.served g₂' undef := by
          have h1 : shj = .send := by
            have := congrArg Goroutine.offers e'
            simp only [parked, Option.some.injEq, Prod.mk.injEq] at this
            exact this.2
          subst h1
          rw [finishComm_send]
          have h2 := congrArg (fun x : Goroutine => Conc.served x undef) e'
          exact h2
        subst hv
        obtain ⟨a, b, ha, hb'⟩ := owes_take (r' := Role.back tr) rfl hi (o := o) rfl
        have hwc := setChan_at w d E.Ch (lt_size hc) (sn + 1) (rc + 1) tm
        have hsz := hI.base.size
        refine Ends.next (hm.trans hrun) (hmeet a o b vj X (ho.symm.trans ha) hsent _ _ _ _ (D.set i (.back tr)) cl sl hb
          (hI.meet hcl hi (.inr rfl) hdf hXY hle hback (by simp) ?_ ?_ (fun k h1 h2 => ?_) hc hwc.1 hwc.2.1 hwc.2.2 ⟨rfl, rfl⟩ ⟨rfl, rfl⟩ ⟨rfl, rfl⟩ ⟨rfl, rfl⟩ ⟨rfl, rfl⟩) hb' ?_)
        · rw [Array.getElem?_setIfInBounds_self_of_lt (by simp; omega), finishComm_recv]; rfl
        · rw [Array.getElem?_setIfInBounds_ne (by omega), Array.getElem?_setIfInBounds_self_of_lt (lt_size hj), hsv]
        · rw [Array.getElem?_setIfInBounds_ne (Ne.symm h1), Array.getElem?_setIfInBounds_ne (Ne.symm h2)]
        · rw [setK_same, hK]; exact St.le_refl _
      · have : (0 : Nat) ∈ offersAt (parked gj #[scase E.Ch vj zj] shj) E.Ch true := by rw [offersAt_parked_send]; simp
        rw [hn] at this; cases this
end
end Go.L
namespace Go.L
open Go Go.Conc
open Go.ConcR (KK wgBlock WgAt stA smA rd wr)

section
variable {ι : Type} {E : Crew ι} {L : Nat → Option Obj} {K : Nat → St} {gs : Array Goroutine} {w w' : World} {t : Trace} {D : List (Role ι)} {pend d0 : Nat} {cl : Clo} {sl : Option (Nat × Nat)}
  {Q : Machine → Outcome → World → Trace → Prop} {g g' : Goroutine} {s : St} {es : Array Event}

/-- WHATEVER STEP OF MAIN's THAT IS NO COMMUNICATION AND STARTS NOBODY. -/
theorem Inv.go0 (h : Inv E L K gs w t D pend cl g d0) (hgo : stepG E.P true g w = .go g' w' es) (hsm : Same w w') {s' : St} (hs1 : ¬ s'.knows E.Wg) (hs2 : ¬ s'.knows E.Ch) (hch : w'.heap[E.Ch]? = w.heap[E.Ch]?)
    (hfit : Fit L (setK K 0 s') w' (t ++ MemOp.ofEvents 0 g.frame.fn g.frame.place es))
    (htouch : ∀ op ∈ MemOp.ofEvents 0 g.frame.fn g.frame.place es, ∀ x, op.act.touch? = some x → E.At x → x.kind ≠ .plain ∧ (x.kind = .said → cl = none))
    (hrel : ∀ op ∈ MemOp.ofEvents 0 g.frame.fn g.frame.place es, ∀ a, op.act ≠ .mark (.release a)) {pend' : Nat}
    (hcells : ∀ cl', Woke cl cl' → ∃ st sm, WgAt E.ty E.Wg w' st sm ∧ Md E.max (tot Role.cnt D + pend') (tot Role.c4 D) (tot Role.c3 D) (tot Role.c2 D) (cl'.map (·.2.1)) st sm) (hmost : tot Role.cnt D + pend' ≤ E.max) :
    ∃ gs' u cl', runT E.P (crowd gs w sl) 0 = (.next (crowd gs' w' sl), u) ∧ Inv E L (setK K 0 s') gs' w' (t ++ u) D pend' cl' g' (deafBehind d0 es) ∧ cl'.isSome = cl.isSome := by
  have hug : ∀ op ∈ MemOp.ofEvents 0 g.frame.fn g.frame.place es, op.g = 0 := fun op hop => Go.ConcR.g_of_ofEvents op hop
  have hrun := runT_crowd_go (P := E.P) (sl := sl) (i := 0) h.main (by simpa using hgo)
  have hdo : Deaf (t ++ MemOp.ofEvents 0 g.frame.fn g.frame.place es) 0 = deafBehind d0 es := by rw [Deaf_own, h.deaf]
  generalize MemOp.ofEvents 0 g.frame.fn g.frame.place es = u at *
  obtain ⟨sn, rc, tm, hc⟩ := h.sy.chan
  have hc' : w'.heap[E.Ch]? = some (.chan 0 #[] false sn rc tm) := by rw [hch]; exact hc
  have hne : ∀ k, ∀ op ∈ u, op.g ≠ k + 1 := fun k op hop => by rw [hug op hop]; omega
  have hid : ∀ b, ¬ s'.knows b → (∀ j, ¬ (K j).knows b) → ∀ j, ¬ (setK K 0 s' j).knows b := fun b h1 h2 j => by
    by_cases e : j = 0
    · subst e; rw [setK_same]; exact h1
    · rw [setK_ne _ _ e]; exact h2 j
  obtain ⟨cl', hwk, hclo⟩ : ∃ cl', Woke cl cl' ∧ CloOK E (setK K 0 s') ((gs.map (woken E.P g g' w')).setIfInBounds 0 g') (t ++ u) D cl' := by
    have hclo := h.sy.clo
    match cl, hclo with
    | none, hclo => exact ⟨none, .same _, hclo⟩
    | some (ic, c, n), ⟨h1, h2, h3, ⟨gc, hgc, hat⟩, h5⟩ =>
      obtain ⟨c', n', hw, hat', _, hdc⟩ := CK.tries (ic := ic) hat g g' w'
      refine ⟨some (ic, c', n'), hw, h1, h2, by rw [Deaf_others _ _ (hne ic), hdc]; exact h3, ⟨_, get_woken (by omega) hgc, by rw [setK_ne _ _ (by omega)]; exact hat'⟩, fun ⟨tr, e⟩ => ?_⟩
      subst e
      cases hw with
      | same =>
        obtain ⟨q, a1, a2, a3, a4⟩ := h5 ⟨tr, rfl⟩
        have hq := lt_of_act? a1
        exact ⟨q, by rw [act?_old hq]; exact a1, by rw [g?_old hq]; exact a2, (heard_old hq).2 a3, fun i r hi hcu => let ⟨p, hp, hpq⟩ := a4 i r hi hcu; ⟨p, RelBy.other hp (hne i), hpq⟩⟩
  refine ⟨_, u, cl', hrun, ⟨⟨hfit, by simp [h.base.size], fun k r hk => ?_, fun k hk b hb => ?_, fun op hop => ?_, ⟨hsm.1.trans h.base.same.1, hsm.2.trans h.base.same.2⟩⟩,
    ⟨hid _ hs1 h.sy.kW, hid _ hs2 h.sy.kC, h.sy.lW, h.sy.lC, h.sy.ne, fun a => (h.sy.norel a).app fun op hop => hrel op hop a, fun j hj p x hx hb hk => ?_, ?_, hcells cl' hwk, hmost, ⟨sn, rc, tm, hc'⟩, fun a b c hx => h.sy.bal a b c (by rw [← hch]; exact hx), hclo⟩, ?_, hdo⟩, by cases hwk <;> rfl⟩
  · obtain ⟨x, hx, hok⟩ := h.base.ok k r hk
    rw [setK_ne _ _ (by omega)]
    have hok' := hok.other (hne k)
    by_cases hcr : r = .closer
    · subst hcr; exact ⟨_, get_woken (by omega) hx, trivial⟩
    · exact ⟨x, by rw [get_woken (by omega) hx, hok.woken hcr fun _ => ⟨sn, rc, tm, hc'⟩], hok'⟩
  · rw [Array.size_setIfInBounds, Array.size_map] at hk
    have := h.base.size
    rw [setK_ne _ _ (by omega)] at hb
    exact h.base.far k hk b hb
  · rw [Array.size_setIfInBounds, Array.size_map]
    rcases Array.mem_append.1 hop with h' | h'
    · exact h.base.ops op h'
    · rw [hug op h', h.base.size]; omega
  · rcases touchAt_cases hx with ⟨_, hx'⟩ | ⟨_, op, hm', _, hxo⟩
    · exact (h.sy.plain j hj p x hx' hb hk).app u
    · exact absurd hk (htouch op hm' x hxo hb).1
  · have hsd := h.sy.said
    match cl, cl', hwk, hsd, htouch with
    | none, _, .same _, hsd, _ =>
      intro p x hx hb hk
      rcases touchAt_cases hx with ⟨_, hx'⟩ | ⟨hp, op, hm', hop, hxo⟩
      · exact (hsd p x hx' hb hk).app u
      · exact knows_new hug hp hop
    | some (ic, c, n), _, .same _, hsd, htouch =>
      intro he p x hx hb hk
      rcases touchAt_cases hx with ⟨_, hx'⟩ | ⟨_, op, hm', _, hxo⟩
      · exact (hsd he p x hx' hb hk).app u
      · exact absurd ((htouch op hm' x hxo (.inl hb)).2 hk) (by simp)
    | _, _, .up ic, _, _ => exact fun he => he.elim
  · have := h.base.size
    rw [Array.getElem?_setIfInBounds_self_of_lt (by simp; omega)]

theorem Inv.cells_kept (h : Inv E L K gs w t D pend cl g d0) (hw : w'.heap[E.Wg]? = w.heap[E.Wg]?) : ∀ cl', Woke cl cl' → ∃ st sm, WgAt E.ty E.Wg w' st sm ∧ Md E.max (tot Role.cnt D + pend) (tot Role.c4 D) (tot Role.c3 D) (tot Role.c2 D) (cl'.map (·.2.1)) st sm := by
  intro cl' hwk
  obtain ⟨st, sm, ha, hm⟩ := h.sy.cells
  exact ⟨st, sm, by unfold WgAt; rw [hw]; exact ha, hm.woke hwk⟩

/-- Main's predicate in a crowd: closed under its own steps. -/
def TM (E : Crew ι) (L : Nat → Option Obj) (Q : Machine → Outcome → World → Trace → Prop) (pend : Nat) (b : Bool) (os : List ι) (d0 : Nat) (g : Goroutine) (s : St) : Prop :=
  TC E L Q pend b os d0 g s ∧ (b = true → os = [] → ∀ pc, TL E.P (KnownAt pc) L (Gone E pc) Q g s)
theorem TC.mono {b : Bool} {os : List ι} {s' : St} (hl : s.le s') (h : TC E L Q pend b os d0 g s) : TC E L Q pend b os d0 g s' :=
  fun K gs w t D cl sl hb hI ho hle => h K gs w t D cl sl hb hI ho (hl.trans hle)
theorem tm_closed (b : Bool) (os : List ι) (hb : b = true → pend = 0) : Closed E.P true (TM E L Q pend b os 0) where
  step := fun g s hs h => by
    have hL : b = true → os = [] → ∀ pc, TL E.P (KnownAt pc) L (Gone E pc) Q g s := fun e ho pc =>
      (tl_closed (grows_at pc) (gone_stays E pc) Q).step g s hs fun w ha => let ⟨g', w', es, s', h1, h2, h3, h4⟩ := h w ha; ⟨g', w', es, s', h1, h2, h3, h4.2 e ho pc⟩
    refine ⟨tc_step hs (fun K gs w t D cl sl m hcl hI ho hK hm => ?_) fun e => ⟨hb e, rfl, fun ho pc => hL e ho pc⟩, hL⟩
    subst hK
    obtain ⟨g', w', es, s', hgo, _, ht, hT, _⟩ := h w (hI.base.fit.agr 0)
    obtain ⟨k1, k2, k3, k4, k5, k6⟩ := hI.sy.own_side ht g.frame.fn g.frame.place
    obtain ⟨gs', u, cl', hr, hI', hcl'⟩ := hI.go0 (sl := sl) hgo ⟨ht.os, ht.output⟩ k1 k2 k4 (hI.base.fit.own ht _ _) (fun op hop x hx hbk => absurd hbk (k5 op hop x hx)) k6 (hI.cells_kept k3) hI.sy.most
    rw [ht.deaf] at hI'
    exact Ends.next (hm.trans hr) (hT _ gs' w' _ D cl' sl (hcl'.trans hcl) hI' ho (by rw [setK_same]; exact St.le_refl _))
  mono := fun g s s' hl h => ⟨h.1.mono hl, fun e ho pc => (h.2 e ho pc).mono hl⟩

theorem Md.opened {mx n a b c : Nat} {o : Option CK} {st sm : Int} (h : Md mx n a b c o st sm) (ho : o = none) : st = (n : Int) * KK ∧ sm = 0 := by
  cases h with
  | start => exact ⟨rfl, rfl⟩
  | _ => cases ho
/-- A step of main's in the library's code. -/
theorem tc_sync {b : Bool} {os : List ι} {pend' d' : Nat} (hs : g.status = .running) (hb : b = false)
    (h : ∀ w st sm, WgAt E.ty E.Wg w st sm → (b = false → st = ((os.length + pend : Nat) : Int) * KK ∧ sm = 0) → os.length + pend ≤ E.max → ∃ w', stepG E.P true g w = .go g' w' es ∧ Turned E w w' ∧ WgAt E.ty E.Wg w' (((os.length + pend' : Nat) : Int) * KK) 0)
    (hes : ∀ e ∈ es, SyncEv E e) (hd : deafBehind d0 es = d') (hp : os.length + pend ≤ E.max → os.length + pend' ≤ E.max) (hT : TC E L Q pend' b os d' g' s) : TC E L Q pend b os d0 g s := by
  subst hb
  refine tc_step hs (fun K gs w t D cl sl m hcl hI ho hK hm => ?_) fun e => (by cases e)
  subst hK
  have hcn : cl = none := by cases cl <;> simp_all
  subst hcn
  have hclo := hI.sy.clo
  have hcount : ∀ D : List (Role ι), (∀ r ∈ D, r.early) → tot Role.cnt D = (owes D).length ∧ tot Role.c4 D = 0 ∧ tot Role.c3 D = 0 ∧ tot Role.c2 D = 0 := by
    intro D
    induction D with
    | nil => intro _; exact ⟨rfl, rfl, rfl, rfl⟩
    | cons r D ih =>
      intro hr
      obtain ⟨i1, i4, i3, i2⟩ := ih fun x hx => hr x (by simp [hx])
      have := hr r (by simp)
      simp only [tot, List.map_cons, List.sum_cons, owes, List.filterMap_cons] at *
      cases r <;> first | exact this.elim | (simp [Role.cnt, Role.c4, Role.c3, Role.c2, Role.owe, i1, i4, i3, i2]; try omega)
  obtain ⟨c1, c4, c3, c2⟩ := hcount D hclo
  rw [ho] at c1
  obtain ⟨st, sm, ha, hmd⟩ := hI.sy.cells
  have hmx := hI.sy.most
  rw [c1] at hmx
  have hst : st = ((os.length + pend : Nat) : Int) * KK ∧ sm = 0 := by
    rw [c1] at hmd
    exact hmd.opened rfl
  obtain ⟨w', hgo, htu, ha'⟩ := h w st sm ha (fun _ => hst) hmx
  have hops := SyncEv.ops hes 0 g.frame.fn g.frame.place
  obtain ⟨gs', u, cl', hr, hI', hcl'⟩ := hI.go0 (sl := sl) (s' := K 0) (pend' := pend') hgo htu.same (hI.sy.kW 0) (hI.sy.kC 0) (htu.block _ (Ne.symm hI.sy.ne)) (by rw [setK_self]; exact hI.sy.fit_sync hI.base.fit (.inl rfl) htu hes _ _)
    (fun op hop x hx _ => by rw [((hops op hop).2.2 x hx).2]; exact ⟨by simp, by simp⟩) (fun op hop => (hops op hop).2.1) (fun cl' hw => by
      cases hw
      rw [c1, c4, c3, c2]
      exact ⟨_, _, ha', .start⟩) (by rw [c1]; exact hp hmx)
  rw [hd] at hI'
  exact Ends.next (hm.trans hr) (hT _ gs' w' _ D cl' sl (hcl'.trans hcl) hI' ho (by rw [setK_same]; exact St.le_refl _))
end
end Go.L
namespace Go.L
open Go Go.Conc
open Go.ConcR (KK wgBlock WgAt stA smA rd wr)

section
variable {ι : Type} {E : Crew ι} {L : Nat → Option Obj} {K : Nat → St} {gs : Array Goroutine} {w w' : World} {t : Trace} {D : List (Role ι)} {pend d0 : Nat} {cl : Clo} {sl : Option (Nat × Nat)}
  {Q : Machine → Outcome → World → Trace → Prop} {g g' child : Goroutine} {s s₀ : St} {es : Array Event}

theorem tot_snoc (f : Role ι → Nat) (D : List (Role ι)) (r : Role ι) : tot f (D ++ [r]) = tot f D + f r := by simp [tot]

/-- MAIN STARTS A GOROUTINE. -/
theorem Inv.spawn (h : Inv E L K gs w t D pend none g 0) (hrw : (K 0).rw = []) (hst : stepG E.P true g w = .spawn g' child w #[]) (hle : s₀.le (K 0)) {r : Role ι} {cl' : Clo} {pend' : Nat}
    (hr : r.left = false) (hok : ∀ t', Deaf t' gs.size = 0 → RoleOK E t' gs.size s₀ child r)
    (hn : r.cnt + pend' = pend) (h4 : r.c4 = 0) (h3 : r.c3 = 0) (h2 : r.c2 = 0)
    (hcl : (cl' = none ∧ r.early) ∨ (∃ n, cl' = some (D.length, .kd, n) ∧ r = .closer ∧ CK.at E s₀ child n .kd)) :
    ∃ gs' u, runT E.P (crowd gs w sl) 0 = (.next (crowd gs' w sl), u) ∧ Inv E L (setK K gs.size s₀) gs' w (t ++ u) (D ++ [r]) pend' cl' g' 0 ∧ 0 < gs.size := by
  have hsz := h.base.size
  have hrun := runT_crowd_spawn (P := E.P) (sl := sl) (i := 0) h.main (by simpa using hst)
  have e0 : MemOp.ofEvents 0 g.frame.fn g.frame.place #[] = #[] := rfl
  rw [e0] at hrun
  generalize hx : ({ g := 0, fn := g.frame.fn, pos := g.frame.place, act := .go gs.size } : MemOp) = x at hrun
  generalize hy : ({ g := gs.size, fn := child.frame.fn, pos := g.frame.place, act := .start } : MemOp) = y at hrun
  have ex : x.g = 0 ∧ x.act = .go gs.size := by rw [← hx]; exact ⟨rfl, rfl⟩
  have ey : y.g = gs.size ∧ y.act = .start := by rw [← hy]; exact ⟨rfl, rfl⟩
  have eu : ((#[] : Array MemOp).push x).push y = #[x, y] := rfl
  rw [eu] at hrun
  have hq : ∀ op ∈ #[x, y], op.act.touch? = none := by intro op hop; simp at hop; rcases hop with rfl | rfl <;> simp [ex.2, ey.2, MemAct.touch?]
  have hmk : ∀ op ∈ #[x, y], ∀ m, op.act ≠ .mark m := by intro op hop; simp at hop; rcases hop with rfl | rfl <;> simp [ex.2, ey.2]
  have hg : ∀ op ∈ #[x, y], op.g = 0 ∨ op.g = gs.size := by intro op hop; simp at hop; rcases hop with rfl | rfl <;> simp [ex.1, ey.1]
  have hdn : Deaf t gs.size = 0 := ConcN.Deaf_absent fun i op ho e => by have := h.base.ops op (mem_of_getElem? ho); omega
  have hdf : ∀ k, Deaf (t ++ #[x, y]) k = Deaf t k := fun k => Deaf_unmarked t k _ hmk
  have hfork : ∀ p, Knows t 0 p → Knows (t ++ #[x, y]) gs.size p := fun p hp => ConcN.fork_knows ex ey h.deaf hdn hp
  have hfit := h.base.fit.quiet (u := #[x, y]) (w' := w) E.Ch h.sy.kC h.sy.lC (Nat.le_refl _) (fun _ _ _ => rfl) hq
  have hs0 : s₀.rw = [] := by
    obtain ⟨R, hR, _⟩ := hle
    rw [hrw] at hR
    have := List.append_eq_nil_iff.1 (List.nil_perm.1 hR)
    exact this.1
  have hro : ∀ b o, s₀.ro b = some o → (K 0).ro b = some o := fun b o hb => by
    obtain ⟨R, hR, h2⟩ := hle
    rw [hrw] at hR
    have := List.append_eq_nil_iff.1 (List.nil_perm.1 hR)
    rcases h2 b o hb with h3 | h3
    · exact h3
    · rw [this.2] at h3; cases h3
  have hfit2 := hfit.share (i := 0) (n := gs.size) (by omega) s₀ hs0 hro fun b hb p z hz hzb hzw => by
    rcases touchAt_cases hz with ⟨_, hz'⟩ | ⟨_, op, hm, _, hzo⟩
    · refine hfork p (h.base.fit.permR 0 b ?_ p z hz' hzb hzw)
      cases hb' : s₀.ro b with
      | none => exact absurd hb' hb
      | some o => rw [hro b o hb']; simp
    · rw [hq op hm] at hzo; cases hzo
  have hid : ∀ b, (∀ j, ¬ (K j).knows b) → ∀ j, ¬ (setK K gs.size s₀ j).knows b := fun b hb j hk => by
    by_cases e : j = gs.size
    · subst e; rw [setK_same] at hk; exact hb 0 (hle.knows hk)
    · rw [setK_ne _ _ e] at hk; exact hb j hk
  have hclo := h.sy.clo
  have hget : ∀ {k z}, (D ++ [r])[k]? = some z → (k < D.length ∧ D[k]? = some z) ∨ (k = D.length ∧ z = r) := fun {k z} hk => by
    rcases Nat.lt_trichotomy k D.length with hlt | e | hgt
    · rw [List.getElem?_append_left hlt] at hk; exact .inl ⟨hlt, hk⟩
    · subst e; rw [List.getElem?_append_right (Nat.le_refl _)] at hk; simp at hk; exact .inr ⟨rfl, hk.symm⟩
    · rw [List.getElem?_eq_none (by simp; omega)] at hk; cases hk
  have hgs : ∀ k, k ≠ 0 → k < gs.size → ((gs.setIfInBounds 0 g').push child)[k]? = gs[k]? := fun k h0 hlt => by
    rw [Array.getElem?_push_lt (by simpa using hlt), ← Array.getElem?_eq_getElem, Array.getElem?_setIfInBounds_ne (Ne.symm h0)]
  have hgn : ((gs.setIfInBounds 0 g').push child)[gs.size]? = some child := by
    rw [Array.getElem?_push, if_pos (by simp)]
  refine ⟨_, _, hrun, ⟨⟨hfit2, by simp [hsz], fun k z hk => ?_, fun k hk b hb => ?_, fun op hop => ?_, h.base.same⟩,
    ⟨hid _ h.sy.kW, hid _ h.sy.kC, h.sy.lW, h.sy.lC, h.sy.ne, fun a => (h.sy.norel a).app fun op hop => hmk op hop _, fun j hj p z hz hzb hzk => ?_, ?_, ?_, ?_, h.sy.chan, h.sy.bal, ?_⟩, ?_, by rw [hdf]; exact h.deaf⟩, by omega⟩
  · rcases hget hk with ⟨hlt, hk'⟩ | ⟨rfl, rfl⟩
    · obtain ⟨q, hqk, hokk⟩ := h.base.ok k z hk'
      exact ⟨q, by rw [hgs _ (by omega) (by omega)]; exact hqk, by rw [setK_ne _ _ (by omega)]; exact hokk.other fun op hop => by rcases hg op hop with e | e <;> rw [e] <;> omega⟩
    · refine ⟨child, by rw [← hsz]; exact hgn, ?_⟩
      rw [← hsz, setK_same]
      exact hok _ (by rw [hdf]; exact hdn)
  · rw [Array.size_push, Array.size_setIfInBounds] at hk
    rw [setK_ne _ _ (by omega)] at hb
    exact h.base.far k (by omega) b hb
  · rw [Array.size_push, Array.size_setIfInBounds]
    rcases Array.mem_append.1 hop with h' | h'
    · have := h.base.ops op h'; omega
    · rcases hg op h' with e | e <;> rw [e] <;> omega
  · rcases touchAt_cases hz with ⟨_, hz'⟩ | ⟨_, op, hm, _, hzo⟩
    · rcases hj with rfl | ⟨k, q, rfl, hk, hl⟩
      · exact (h.sy.plain 0 (.inl rfl) p z hz' hzb hzk).app _
      · rcases hget hk with ⟨_, hk'⟩ | ⟨rfl, rfl⟩
        · exact (h.sy.plain (k + 1) (.inr ⟨k, q, rfl, hk', hl⟩) p z hz' hzb hzk).app _
        · rw [← hsz]; exact hfork p (h.sy.plain 0 (.inl rfl) p z hz' hzb hzk)
    · rw [hq op hm] at hzo; cases hzo
  · have hsd := h.sy.said
    rcases hcl with ⟨rfl, _⟩ | ⟨n, rfl, _, _⟩
    · intro p z hz hzb hzk
      rcases touchAt_cases hz with ⟨_, hz'⟩ | ⟨_, op, hm, _, hzo⟩
      · exact (hsd p z hz' hzb hzk).app _
      · rw [hq op hm] at hzo; cases hzo
    · intro _ p z hz hzb hzk
      rcases touchAt_cases hz with ⟨_, hz'⟩ | ⟨_, op, hm, _, hzo⟩
      · rw [← hsz]; exact hfork p (hsd p z hz' hzb hzk)
      · rw [hq op hm] at hzo; cases hzo
  · obtain ⟨st, sm, ha, hmd⟩ := h.sy.cells
    refine ⟨st, sm, ha, ?_⟩
    rw [tot_snoc, tot_snoc, tot_snoc, tot_snoc, h4, h3, h2, show tot Role.cnt D + r.cnt + pend' = tot Role.cnt D + pend by omega]
    rcases hcl with ⟨rfl, _⟩ | ⟨n, rfl, _, _⟩
    · exact hmd
    · have z : ∀ (f : Role ι → Nat), (∀ r : Role ι, r.early → f r = 0) → tot f D = 0 := fun f hf => by
        unfold tot
        rw [List.sum_eq_zero_iff_forall_eq_nat]
        intro a ha'
        obtain ⟨q, hq', rfl⟩ := List.mem_map.1 ha'
        exact hf q (hclo q hq')
      have z4 := z Role.c4 fun r hr => by cases r <;> first | rfl | exact hr.elim
      have z3 := z Role.c3 fun r hr => by cases r <;> first | rfl | exact hr.elim
      have z2 := z Role.c2 fun r hr => by cases r <;> first | rfl | exact hr.elim
      obtain ⟨rfl, rfl⟩ := hmd.opened rfl
      rw [z4, z3, z2]
      exact .kd
  · rw [tot_snoc]; have := h.sy.most; omega
  · rcases hcl with ⟨rfl, hre⟩ | ⟨n, rfl, rfl, hat⟩
    · intro z hz
      rcases List.mem_append.1 hz with h' | h'
      · exact hclo z h'
      · simp at h'; subst h'; exact hre
    · refine ⟨by simp, fun k hk => ?_, by rw [hdf, ← hsz]; exact hdn, ⟨child, by rw [← hsz]; exact hgn, by rw [← hsz, setK_same]; exact hat⟩, fun ⟨_, e⟩ => (by cases e)⟩
      rcases hget hk with ⟨_, hk'⟩ | ⟨e, _⟩
      · exact (hclo _ (List.mem_of_getElem? hk')).elim
      · exact e
  · rw [Array.getElem?_push_lt (by simp; omega), ← Array.getElem?_eq_getElem, Array.getElem?_setIfInBounds_self_of_lt (by omega)]

/-- .. a worker. -/
theorem tc_worker {os : List ι} {o : ι} (hs : g.status = .running) (hrw : s.rw = []) (hst : ∀ w, Agrees s w → stepG E.P true g w = .spawn g' child w #[]) (hw : Treads E.P false (E.Send o) child s)
    (hT : TC E L Q 0 false (os ++ [o]) 0 g' s) : TC E L Q 1 false os 0 g s := by
  refine tc_step hs (fun K gs w t D cl sl m hcl hI ho hK hm => ?_) fun e => (by cases e)
  subst hK
  have hcn : cl = none := by cases cl <;> simp_all
  subst hcn
  obtain ⟨tr, s₀, hle, htr⟩ := hw
  obtain ⟨gs', u, hr, hI', h0⟩ := hI.spawn (sl := sl) (r := .work o tr) (cl' := none) (pend' := 0) hrw (hst w (hI.base.fit.agr 0)) hle rfl (fun t' hd => ⟨hd, htr⟩) rfl rfl rfl rfl (.inl ⟨rfl, trivial⟩)
  exact Ends.next (hm.trans hr) (hT _ gs' w _ _ none sl rfl hI' (by simp [owes, List.filterMap_append, Role.owe] at ho ⊢; exact ho) (by rw [setK_ne _ _ (by omega)]; exact St.le_refl _))
/-- .. the closer. -/
theorem tc_closer {os : List ι} (hs : g.status = .running) (hrw : s.rw = []) (hst : ∀ w, Agrees s w → stepG E.P true g w = .spawn g' child w #[]) (hw : E.closes s child)
    (hT : TC E L Q 0 true os 0 g' s) : TC E L Q 0 false os 0 g s := by
  refine tc_step hs (fun K gs w t D cl sl m hcl hI ho hK hm => ?_) fun e => (by cases e)
  subst hK
  have hcn : cl = none := by cases cl <;> simp_all
  subst hcn
  obtain ⟨n, hn⟩ := hw
  obtain ⟨gs', u, hr, hI', h0⟩ := hI.spawn (sl := sl) (s₀ := K 0) (r := .closer) (cl' := some (D.length, .kd, n)) (pend' := 0) hrw (hst w (hI.base.fit.agr 0)) (St.le_refl _) rfl (fun t' hd => trivial) rfl rfl rfl rfl (.inr ⟨n, rfl, rfl, hn⟩)
  exact Ends.next (hm.trans hr) (hT _ gs' w _ _ _ sl rfl hI' (by rw [owes, List.filterMap_append]; simp only [List.filterMap_cons, Role.owe, List.filterMap_nil, List.append_nil]; exact ho) (by rw [setK_ne _ _ (by omega)]; exact St.le_refl _))
end
end Go.L
namespace Go.L
open Go Go.Conc
open Go.ConcR (KK wgBlock WgAt stA smA rd wr)

section
variable {ι : Type} {E : Crew ι} {Q : Machine → Outcome → World → Trace → Prop} {g : Goroutine} {s s' : St}

/-- MAIN LENDS ALL THAT IT OWNS, AND HAS MADE A GROUP AND A CHANNEL: it stands in a crowd of nobody. -/
theorem tl_enter {L : Nat → Option Obj} (hs : g.status = .running) (hne : E.Wg ≠ E.Ch)
    (hW : (E.Wg, wgBlock E.ty 0 0) ∈ s.rw) (hC : ∃ tm, (E.Ch, Obj.chan 0 #[] false 0 0 tm) ∈ s.rw)
    (hle : s'.le s) (hkW : ¬ s'.knows E.Wg) (hkC : ¬ s'.knows E.Ch) (hown : ∀ b, s'.owns b → L b = none)
    (hL : ∀ b o, L b = some o → s.has b o ∧ b ≠ E.Wg ∧ b ≠ E.Ch)
    (hT : TC E L Q 0 false [] 0 g s') : TL E.P KnownTo0 (fun _ => none) (Calm E.os E.out) Q g s := by
  intro K gs w t q sl hLv h0 hle0 hd ⟨hnorel, hsame⟩
  have hLv := hLv.le hle0
  have hs0 : (setK K 0 s) 0 = s := setK_same _ _ _
  have hag := hLv.fit.agr 0
  rw [hs0] at hag
  obtain ⟨tm, hC⟩ := hC
  have hWw := hag.rw _ _ hW
  have hCw := hag.rw _ _ hC
  -- the roles
  have hex : ∀ i, i < q.length → ∃ d, ∃ x, gs[i + 1]? = some x ∧ QuitsD E.P (q.getD i 0) d x ∧ Deaf t (i + 1) = d ∧ KnownTo0 t (i + 1) := fun i hi => by
    obtain ⟨x, d, h1, h2, h3, h4⟩ := hLv.ok i _ (List.getElem?_eq_getElem hi)
    exact ⟨d, x, h1, by rw [List.getD_eq_getElem?_getD, List.getElem?_eq_getElem hi]; exact h2, h3, h4⟩
  let D : List (Role ι) := (List.range q.length).map fun i => Role.leave (q.getD i 0) (Deaf t (i + 1)) false
  have hD : ∀ i r, D[i]? = some r → i < q.length ∧ r = Role.leave (q.getD i 0) (Deaf t (i + 1)) false := fun i r hi => by
    simp only [D, List.getElem?_map] at hi
    obtain ⟨j, hj, rfl⟩ := Option.map_eq_some_iff.1 hi
    obtain ⟨hlt, rfl⟩ := List.getElem?_eq_some_iff.1 hj
    simp only [List.length_range] at hlt
    simp only [List.getElem_range]
    exact ⟨hlt, trivial⟩
  have hmem : ∀ r ∈ D, ∃ a b, r = Role.leave a b false := fun r hr => by
    obtain ⟨i, hi⟩ := List.getElem?_of_mem hr
    exact ⟨_, _, (hD i r hi).2⟩
  have hzero : ∀ f : Role ι → Nat, (∀ a b, f (.leave a b false) = 0) → tot f D = 0 := fun f hf => by
    unfold tot
    rw [List.sum_eq_zero_iff_forall_eq_nat]
    intro x hx
    obtain ⟨r, hr, rfl⟩ := List.mem_map.1 hx
    obtain ⟨a, b, rfl⟩ := hmem r hr
    exact hf a b
  let K' : Nat → St := fun j => if j = 0 then s' else ⟨fun _ => none, []⟩
  have hK0 : K' 0 = s' := by simp [K']
  have hKn : ∀ j, j ≠ 0 → K' j = ⟨fun _ => none, []⟩ := fun j hj => by simp [K', hj]
  have none : ∀ j b, j ≠ 0 → ¬ (K' j).knows b := fun j b hj hk => by
    rw [hKn j hj] at hk
    rcases hk with hk | ⟨o, ho⟩
    · exact hk rfl
    · cases ho
  have hfit1 : Fit (fun _ => Option.none) K' w t := hLv.fit.le fun j => by
    by_cases e : j = 0
    · subst e; rw [hK0, hs0]; exact hle
    · rw [hKn j e]; exact ⟨(setK K 0 s j).rw, by simp, fun b o hb => (by cases hb)⟩
  have hfit2 : Fit L K' w t := by
    refine ⟨fun b o hl => hag.has (hL b o hl).1, fun i b ho => ?_, hfit1.agr, hfit1.sep, hfit1.perm, hfit1.permR, hfit1.old, hfit1.clean, fun p x b hx hk hb => ⟨?_, (hfit1.sync p x b hx hk hb).2⟩⟩
    · by_cases e : i = 0
      · subst e; rw [hK0] at ho; exact hown b ho
      · exact absurd (.inr ho) (none i b e)
    · cases hl : L b with
      | none => rfl
      | some o =>
        have := (hLv.fit.sync p x b hx hk hb).2 0
        rw [hs0] at this
        rcases (hL b o hl).1 with h1 | h1
        · exact absurd (.inl (by rw [h1]; simp)) this
        · exact absurd (.inr ⟨o, h1⟩) this
  have hLb : ∀ b, (b = E.Wg ∨ b = E.Ch) → L b = Option.none := fun b hb => by
    cases hl : L b with
    | none => rfl
    | some o =>
      rcases hb with e | e
      · exact absurd e (hL b o hl).2.1
      · exact absurd e (hL b o hl).2.2
  have hKk : ∀ b, ¬ s'.knows b → ∀ j, ¬ (K' j).knows b := fun b hb j => by
    by_cases e : j = 0
    · subst e; rw [hK0]; exact hb
    · exact none j b e
  have permW : ∀ p x, touchAt t p = some x → blk x.loc = some E.Wg → Knows t 0 p := fun p x hx hb => hLv.fit.perm 0 E.Wg (by rw [hs0]; exact ⟨_, hW⟩) p x hx hb
  have permA : ∀ p x, touchAt t p = some x → E.At x → Knows t 0 p := fun p x hx hb => hb.elim (permW p x hx) fun hb => hLv.fit.perm 0 E.Ch (by rw [hs0]; exact ⟨_, hC⟩) p x hx hb
  refine hT K' gs w t D Option.none sl rfl ⟨⟨hfit2, by simp [D, hLv.size], fun i r hi => ?_, fun i hi b => ?_, hLv.ops, hsame⟩,
    ⟨hKk _ hkW, hKk _ hkC, hLb _ (.inl rfl), hLb _ (.inr rfl), hne, hnorel, fun j hj p x hx hb _ => ?_, fun p x hx hb _ => permW p x hx hb, ⟨0, 0, hWw, ?_⟩, ?_, ⟨0, 0, tm, hCw⟩, fun a b c hx => ?_, fun r hr => ?_⟩, h0, hd⟩ ?_ (by rw [hK0]; exact St.le_refl _)
  · obtain ⟨hlt, rfl⟩ := hD i r hi
    obtain ⟨d, x, h1, h2, h3, h4⟩ := hex i hlt
    exact ⟨x, h1, hKn _ (by omega), by rw [h3]; exact h2, rfl, (fun e => (by cases e)), fun _ => h4⟩
  · exact none i b (by have := hLv.size; omega)
  · rcases hj with rfl | ⟨k, r, rfl, hk, hl⟩
    · exact permA p x hx hb
    · obtain ⟨_, rfl⟩ := hD k r hk; cases hl
  · rw [hzero Role.cnt fun _ _ => rfl, hzero Role.c4 fun _ _ => rfl, hzero Role.c3 fun _ _ => rfl, hzero Role.c2 fun _ _ => rfl]
    have := Md.start (mx := E.max) (n := 0)
    simpa using this
  · rw [hzero Role.cnt fun _ _ => rfl]; omega
  · rw [hCw] at hx
    simp only [Option.some.injEq, Obj.chan.injEq] at hx
    omega
  · obtain ⟨a, b, rfl⟩ := hmem r hr; rfl
  · unfold owes
    rw [List.filterMap_eq_nil_iff]
    intro r hr
    obtain ⟨a, b, rfl⟩ := hmem r hr; rfl
end
end Go.L
namespace Go.L
open Go Go.Conc

theorem norel_stays (os : Os) (out : Array (Nat × ByteArray)) : Stays (Calm os out) where
  grow := fun _ _ _ _ h hu => ⟨fun a => (h.1 a).app fun op hop => hu op hop a, h.2⟩
  drawn := fun _ _ _ _ h => h
  le := fun _ _ _ _ h _ => h
  own := fun _ _ _ _ _ _ _ h ht hu => ⟨fun a => (h.1 a).app fun op hop => hu op hop a, ht.os.trans h.2.1, ht.output.trans h.2.2⟩

/-- Main, the others only leaving: the run ends as the row asks. -/
def T0 (P : Program) (os : Os) (out : Array (Nat × ByteArray)) (Post : Value → World → Prop) : Goroutine → St → Prop := TL P KnownTo0 (fun _ => none) (Calm os out) (Good P Post)
theorem t0_closed (P : Program) (os : Os) (out : Array (Nat × ByteArray)) (Post : Value → World → Prop) : Closed P true (T0 P os out Post) := tl_closed grows_known (norel_stays os out) _

/-- MAIN's LAST STEP. -/
theorem t0_return {P : Program} {os : Os} {out : Array (Nat × ByteArray)} {Post : Value → World → Prop} {g : Goroutine} {s : St} (hs : g.status = .running)
    (hst : ∀ w, Agrees s w → w.os = os → w.output = out → ∃ v w' es s', stepG P true g w = .ended (.done v) w' es ∧ Post v w' ∧ Trans s w s' w' es) : T0 P os out Post g s := by
  refine tl_step grows_known (norel_stays os out) hs fun K gs w t q sl m hL h0 hK hd hi hm hmg => ?_
  subst hK
  obtain ⟨v, w', es, s', hgo, hp, ht⟩ := hst w (hL.fit.agr 0) hi.2.1 hi.2.2
  have hr := ConcN.runT_crowd_ended (P := P) (sl := sl) (i := 0) h0 (by simpa using hgo)
  have hfit := hL.fit.own ht g.frame.fn g.frame.place
  generalize hu : MemOp.ofEvents 0 g.frame.fn g.frame.place es = u at hr hfit
  have hug : ∀ op ∈ u, op.g = 0 := by rw [← hu]; exact fun op hop => Go.ConcR.g_of_ofEvents op hop
  refine ⟨0, m, .done v, w', t ++ u, by simp [runNT, hm, hr], rfl, by simp [step, hm, hr], v, rfl, hp, hfit.clean, fun i k hk hne hc => ?_, ⟨fun x hx => ?_, by rw [hmg.2]; rfl⟩, fun i x hx hne => ?_⟩
  · obtain ⟨op, ho, hgo'⟩ := Option.map_eq_some_iff.1 hk
    cases k with
    | zero => exact absurd rfl hne
    | succ k =>
      have hlt : op.g < gs.size := by
        rcases Array.mem_append.1 (mem_of_getElem? ho) with h' | h'
        · exact hL.ops op h'
        · rw [hug op h', hL.size]; omega
      have hkq : k < q.length := by have := hL.size; omega
      obtain ⟨_, _, _, _, _, hkn⟩ := hL.ok k _ (List.getElem?_eq_getElem hkq)
      exact (hkn.other fun op hop => by rw [hug op hop]; omega) i hk hc
  · rw [hmg.1] at hx
    obtain ⟨j, hj⟩ := List.getElem?_of_mem hx
    rw [List.getElem?_drop, Array.getElem?_toList] at hj
    have hjq : j < q.length := by have := lt_size hj; have := hL.size; omega
    obtain ⟨y, d, hy, hq, _⟩ := hL.ok j _ (List.getElem?_eq_getElem hjq)
    rw [Nat.add_comm] at hj
    rw [hj] at hy
    obtain rfl := Option.some.inj hy
    exact ⟨_, hq.leaves⟩
  · rw [hmg.1] at hx
    cases i with
    | zero => exact absurd rfl hne
    | succ j =>
      have hjq : j < q.length := by have := lt_size hx; have := hL.size; omega
      obtain ⟨y, d, hy, hq, hdd, _⟩ := hL.ok j _ (List.getElem?_eq_getElem hjq)
      rw [hx] at hy
      obtain rfl := Option.some.inj hy
      refine ⟨q[j], ?_⟩
      have e : (t ++ u).deaf (j + 1) (t ++ u).size = d := by
        have := Deaf_others t u (g := j + 1) fun op hop => by rw [hug op hop]; omega
        unfold Deaf at this hdd
        rw [this]; exact hdd
      rw [e]
      exact hq.hears m.world

/-- MAIN BEGINS, alone. -/
theorem t0_start {P : Program} {Post : Value → World → Prop} {g : Goroutine} {s : St} {w : World} (ha : Agrees s w) (h : T0 P w.os w.output Post g s) : Ends P (Good P Post) (solo g w) #[] := by
  rw [solo_eq_crowd]
  have hno : ∀ p x, touchAt #[] p = some x → False := fun p x hx => by simp [touchAt, Trace.act?] at hx
  have hn : ∀ i, i ≠ 0 → ∀ b, ¬ ((if i = 0 then s else ⟨fun _ => none, []⟩ : St)).knows b := fun i hi b hk => by
    rw [if_neg hi] at hk
    rcases hk with hk | ⟨o, ho⟩
    · exact hk rfl
    · cases ho
  refine h (fun j => if j = 0 then s else ⟨fun _ => none, []⟩) #[g] w #[] [] none ⟨⟨(fun _ _ e => (by cases e)), fun _ _ _ => rfl, fun i => ?_, fun i j b hij ho hk => ?_, fun _ _ _ p x hx => (hno p x hx).elim, fun _ _ _ p x hx => (hno p x hx).elim,
    fun p x _ hx => (hno p x hx).elim, (fun said ⟨i, j, _, ⟨a, b, h1, _⟩, _⟩ => by simp [Trace.act?] at h1), fun p x _ hx => (hno p x hx).elim⟩, rfl, fun i n hi => by simp at hi, fun i b hi hk => hn i hi b hk, by simp⟩ rfl (by simp only [if_true]; exact St.le_refl _) rfl ⟨fun a i => by simp [Trace.act?], rfl, rfl⟩
  · by_cases e : i = 0
    · simp only [e, if_true]; exact ha
    · simp only [if_neg e]; exact ⟨(fun _ _ e => (by cases e)), (fun _ _ e => (by cases e)), by simp, (fun _ _ e => (by cases e))⟩
  · by_cases e : j = 0
    · exact hn i (fun e' => hij (e'.trans e.symm)) b (.inr ho)
    · exact hn j e b hk
end Go.L
namespace Go.L
open Go Go.Conc
open Go.ConcR (KK wgBlock WgAt stA smA rd wr)

section
variable {ι : Type} {E : Crew ι} {L : Nat → Option Obj} {pend d0 : Nat} {Q : Machine → Outcome → World → Trace → Prop} {g g' : Goroutine} {s : St} {os : List ι}

/-- Main's moves in the library's code that list nothing. -/
theorem tc_pure (hs : g.status = .running) (hst : ∀ w, E.live w → stepG E.P true g w = .go g' w #[]) (hT : TC E L Q pend false os d0 g' s) : TC E L Q pend false os d0 g s :=
  tc_sync (es := #[]) (pend' := pend) hs rfl (fun w st sm ha hb _ => ⟨w, hst w ⟨st, sm, ha⟩, Turned.refl w, by obtain ⟨rfl, rfl⟩ := hb rfl; exact ha⟩) (by simp) rfl id hT

/-- Main tells the race detector of a read of the semaphore's cell. -/
theorem tc_said (hs : g.status = .running) (hst : ∀ w, E.live w → stepG E.P true g w = .go g' w #[said (.read (smA E.Wg))]) (hT : TC E L Q pend false os d0 g' s) : TC E L Q pend false os d0 g s := by
  refine tc_step hs (fun K gs w t D cl sl m hcl hI ho hK hm => ?_) fun e => (by cases e)
  subst hK
  have hcn : cl = none := by cases cl <;> simp_all
  subst hcn
  obtain ⟨st, sm, ha, _⟩ := hI.sy.cells
  have hgo := hst w ⟨st, sm, ha⟩
  have e1 : MemOp.ofEvents 0 g.frame.fn g.frame.place #[said (.read (smA E.Wg))] = #[{ g := 0, fn := g.frame.fn, pos := g.frame.place, act := .mark (.read (smA E.Wg)) }] := by rw [ofEvents_eq]; simp [said, Go.ConcR.ofEvent_mk]
  have hop1 : ∀ op ∈ MemOp.ofEvents 0 g.frame.fn g.frame.place #[said (.read (smA E.Wg))], op.g = 0 ∧ op.act = .mark (.read (smA E.Wg)) := by
    rw [e1]; intro op hop; simp only [List.mem_toArray, List.mem_singleton] at hop; subst hop; exact ⟨rfl, rfl⟩
  have htc : ∀ op ∈ MemOp.ofEvents 0 g.frame.fn g.frame.place #[said (.read (smA E.Wg))], ∀ x, op.act.touch? = some x → x = ⟨.cell (smA E.Wg), false, .said⟩ := fun op hop x hx => by
    rw [(hop1 op hop).2] at hx; simp only [MemAct.touch?, Option.some.injEq] at hx; exact hx.symm
  obtain ⟨gs', u, cl', hr, hI', hcl'⟩ := hI.go0 (sl := sl) (s' := K 0) (pend' := pend) hgo ⟨rfl, rfl⟩ (hI.sy.kW 0) (hI.sy.kC 0) rfl (by
      rw [setK_self]
      refine hI.base.fit.beside E.Wg 0 hI.sy.kW hI.sy.lW (lt_size ha) (Nat.le_refl _) (fun _ _ _ => rfl) (fun op hop => (hop1 op hop).1) fun op hop x hx => ?_
      obtain rfl := htc op hop x hx
      refine ⟨rfl, fun sd p a ha' hc => ?_⟩
      have hl : blk a.loc = some E.Wg := by rw [hc.1]; rfl
      rcases hc.2.2.2 with h3 | h3 | h3
      · exact hI.sy.plain 0 (.inl rfl) p a ha' (.inl hl) h3
      · cases h3
      · exact hI.sy.said p a ha' hl h3.2.1)
    (fun op hop x hx _ => by obtain rfl := htc op hop x hx; exact ⟨by simp, fun _ => rfl⟩) (fun op hop a => by rw [(hop1 op hop).2]; simp) (hI.cells_kept rfl) hI.sy.most
  exact Ends.next (hm.trans hr) (hT _ gs' w _ D cl' sl (hcl'.trans hcl) hI' ho (by rw [setK_same]; exact St.le_refl _))
end
end Go.L
namespace Go.L
open Go Go.Conc

/-! ### Moves of the model's own, reckoned in the kernel: the world is a variable -/
def nextG : GStep → Goroutine
  | .go g _ _ => g
  | _ => default
/-- n moves from g on, as the model makes them in world w. -/
def moves (P : Program) (main : Bool) (w : World) : Nat → Goroutine → List GStep
  | 0, _ => []
  | n + 1, g => stepG P main g w :: moves P main w n (nextG (stepG P main g w))
/-- What stands where the n moves list nothing and leave the world. -/
def idle (w : World) (l : List Goroutine) : List GStep := l.map fun g => .go g w #[]
def lastOf (g : Goroutine) : List Goroutine → Goroutine
  | [] => g
  | x :: l => lastOf x l
def allRun : Goroutine → List Goroutine → Prop
  | _, [] => True
  | g, x :: l => g.status = .running ∧ allRun x l
theorem pure_of_moves {P : Program} {main : Bool} {Live : World → Prop} {Stop : Goroutine → Prop} {l : List Goroutine} {g : Goroutine} (hr : allRun g l) (h : ∀ w, moves P main w l.length g = idle w l) (hs : Stop (lastOf g l)) :
    Pure P main Live Stop l.length g := by
  induction l generalizing g with
  | nil => exact hs
  | cons x l ih =>
    have h1 : ∀ w, stepG P main g w = .go x w #[] ∧ moves P main w l.length x = idle w l := fun w => by
      have := h w
      simp only [List.length_cons, moves, idle, List.map_cons, List.cons.injEq] at this
      refine ⟨this.1, ?_⟩
      have h2 := this.2
      rw [this.1] at h2
      exact h2
    exact ⟨hr.1, x, fun w _ => (h1 w).1, ih hr.2 (fun w => (h1 w).2) hs⟩
end Go.L
namespace Go.L
open Go Go.Conc
open Go.ConcR (KK wgBlock WgAt stA smA rd wr)

/-! ### A step of which only the group's two cells are read -/
abbrev Cel := Option Value × Option Value
abbrev noCel : Cel := (none, none)
def celAt : Cel → Nat → Option Value
  | (a, _), 0 => a
  | (_, b), 1 => b
  | _, _ => none
theorem celAt_no (off : Nat) : celAt noCel off = none := by
  match off with
  | 0 => rfl
  | 1 => rfl
  | _ + 2 => rfl
def celSet : Cel → Nat → Value → Cel
  | (_, b), 0, v => (some v, b)
  | (a, _), 1, v => (a, some v)
  | c, _, _ => c
inductive RH (α : Type) where
  | ok (a : α)
  | halt (h : Halt)
/-- what comes of it: the writes, the entries, the blocks that are touched -/
structure VO (α : Type) where
  r : RH α
  ws : List (Nat × Value)
  es : List Event
  bs : List Nat
def semV (P : Program) (ty : TypeId) {α : Type} : Sem α → Cel → Option (VO α)
  | .pure a, _ => some ⟨.ok a, [], [], []⟩
  | .load m a k, c => match a.spot with
    | some _ => none
    | none => match celAt c a.off with
      | some v => match semV P ty (k v) c with
        | some o => some ⟨o.r, o.ws, ⟨.cell a, false, m == .atomic⟩ :: o.es, a.block :: o.bs⟩
        | none => none
      | none => none
  | .store m a v k, c => match a.spot with
    | some _ => none
    | none => bif single v then (match celAt c a.off with
      | some _ => match semV P ty k (celSet c a.off v) with
        | some o => some ⟨o.r, (a.off, v) :: o.ws, ⟨.cell a, true, m == .atomic⟩ :: o.es, a.block :: o.bs⟩
        | none => none
      | none => none) else none
  | .shape r k, c => match semV P ty (k (some (ty, 2))) c with
    | some o => some ⟨o.r, o.ws, o.es, r :: o.bs⟩
    | none => none
  | .frozen a k, c => match semV P ty (k false) c with
    | some o => some ⟨o.r, o.ws, o.es, a.block :: o.bs⟩
    | none => none
  | .program k, c => semV P ty (k P) c
  | .mark m k, c => match semV P ty k c with
    | some o => some ⟨o.r, o.ws, ⟨.mark m, false, true⟩ :: o.es, o.bs⟩
    | none => none
  | .halt h, _ => some ⟨.halt h, [], [], []⟩
  | _, _ => none

def CelOK (ty : TypeId) (W : Nat) (w : World) (c : Cel) : Prop := ∃ a b, w.heap[W]? = some (.cells #[a, b] ty) ∧ (∀ x, c.1 = some x → a = x) ∧ ∀ x, c.2 = some x → b = x
theorem CelOK.some' {ty : TypeId} {W : Nat} {w : World} {c : Cel} (h : CelOK ty W w c) : ∃ a b, w.heap[W]? = some (.cells #[a, b] ty) := by
  obtain ⟨a, b, h, _⟩ := h
  exact ⟨a, b, h⟩
def putW (W : Nat) (w : World) (ws : List (Nat × Value)) : World := ws.foldl (fun w x => w.setCell ⟨W, x.1, none⟩ x.2) w
def RH.to {α : Type} (w : World) : RH α → Result α
  | .ok a => .ok a w
  | .halt h => .halt h w
theorem celAt_cell {ty : TypeId} {W : Nat} {w : World} {c : Cel} (h : CelOK ty W w c) {off : Nat} {v : Value} (hv : celAt c off = some v) : w.cell? ⟨W, off, none⟩ = some v := by
  obtain ⟨p, q, h, h1, h2⟩ := h
  unfold celAt at hv
  split at hv <;> try (cases hv; done)
  · rw [← h1 _ hv]; simp [World.cell?, h]
  · rw [← h2 _ hv]; simp [World.cell?, h]
theorem celSet_ok {ty : TypeId} {W : Nat} {w : World} {c : Cel} (h : CelOK ty W w c) {off : Nat} {u v : Value} (hv : celAt c off = some u) : CelOK ty W (w.setCell ⟨W, off, none⟩ v) (celSet c off v) := by
  obtain ⟨p, q, h, h1, h2⟩ := h
  unfold celAt at hv
  split at hv <;> try (cases hv; done)
  · exact ⟨v, q, by simp [World.setCell, Array.getElem?_modify, h], by simp [celSet], fun x hx => h2 x hx⟩
  · exact ⟨p, v, by simp [World.setCell, Array.getElem?_modify, h], fun x hx => h1 x hx, by simp [celSet]⟩
theorem thawed {ty : TypeId} {W : Nat} {w : World} {a b : Value} (h : w.heap[W]? = some (.cells #[a, b] ty)) (off : Nat) (s : Option Nat) : w.frozen? ⟨W, off, s⟩ = false := by
  simp [World.frozen?, h]
theorem semV_ok {P : Program} {ty : TypeId} {W : Nat} {α : Type} (x : Sem α) : ∀ {c : Cel} {o : VO α} {w : World} (es : Array Event), semV P ty x c = some o → (∀ b ∈ o.bs, b = W) → ((c = noCel ∧ o.bs = []) ∨ CelOK ty W w c) → x.runT P w es = (o.r.to (putW W w o.ws), es ++ o.es.toArray) := by
  induction x with
  | pure a => intro c o w es h hb hc; simp only [semV, Option.some.injEq] at h; subst h; simp [Sem.runT, RH.to, putW]
  | halt a => intro c o w es h hb hc; simp only [semV, Option.some.injEq] at h; subst h; simp [Sem.runT, RH.to, putW]
  | load m a k ih =>
    intro c o w es h hb hc
    simp only [semV] at h
    split at h <;> try (cases h; done)
    rename_i hs
    split at h <;> try (cases h; done)
    rename_i v hv
    split at h <;> try (cases h; done)
    rename_i o1 h1
    simp only [Option.some.injEq] at h; subst h
    have e : a = ⟨W, a.off, none⟩ := by
      have := hb a.block (by simp)
      rcases a with ⟨x, y, z⟩
      simp only at hs this
      subst hs this; rfl
    have hc' : CelOK ty W w c := hc.elim (fun hh => by rw [hh.1] at hv; rw [celAt_no] at hv; cases hv) id
    have hcell : w.cell? a = some v := by rw [e]; exact celAt_cell hc' hv
    simp only [Sem.runT, hcell]
    rw [ih v _ h1 (fun b hm => hb b (by simp [hm])) (.inr hc')]
    simp
  | store m a v k ih =>
    intro c o w es h hb hc
    simp only [semV] at h
    split at h <;> try (cases h; done)
    rename_i hs
    cases hsg : single v with
    | false => rw [hsg] at h; cases h
    | true =>
    rw [hsg] at h; simp only [cond_true] at h
    split at h <;> try (cases h; done)
    rename_i u hu
    split at h <;> try (cases h; done)
    rename_i o1 h1
    simp only [Option.some.injEq] at h; subst h
    have e : a = ⟨W, a.off, none⟩ := by
      have := hb a.block (by simp)
      rcases a with ⟨x, y, z⟩
      simp only at hs this
      subst hs this; rfl
    have hc' : CelOK ty W w c := hc.elim (fun hh => by rw [hh.1] at hu; rw [celAt_no] at hu; cases hu) id
    have hcell : w.cell? a = some u := by rw [e]; exact celAt_cell hc' hu
    have hfz : w.frozen? a = false := by
      obtain ⟨p, q, hpq⟩ := hc'.some'
      rw [e]; exact thawed hpq _ _
    have hset := celSet_ok (v := v) hc' hu
    have key : (Sem.store m a v k).runT P w es = k.runT P (w.setCell a v) (es.push ⟨.cell a, true, m == .atomic⟩) := by
      cases v <;> first | (cases hsg; done) | simp [Sem.runT, hcell, hfz]
    rw [key, ih _ h1 (fun b hm => hb b (by simp [hm])) (.inr (by rw [e]; exact hset))]
    simp only [putW, List.foldl_cons]
    rw [← e]
    simp
  | shape r k ih =>
    intro c o w es h hb hc
    simp only [semV] at h
    split at h <;> try (cases h; done)
    rename_i o1 h1
    simp only [Option.some.injEq] at h; subst h
    have e : r = W := hb r (by simp)
    have hc' : CelOK ty W w c := hc.elim (fun hh => by cases hh.2) id
    have hsh : w.shape? r = some (ty, 2) := by
      obtain ⟨p, q, hpq⟩ := hc'.some'
      rw [e]; simp [World.shape?, hpq]
    simp only [Sem.runT, hsh]
    exact ih _ _ h1 (fun b hm => hb b (by simp [hm])) (.inr hc')
  | frozen a k ih =>
    intro c o w es h hb hc
    simp only [semV] at h
    split at h <;> try (cases h; done)
    rename_i o1 h1
    simp only [Option.some.injEq] at h; subst h
    have e : a.block = W := hb a.block (by simp)
    have hc' : CelOK ty W w c := hc.elim (fun hh => by cases hh.2) id
    have hsh : w.frozen? a = false := by
      obtain ⟨p, q, hpq⟩ := hc'.some'
      rcases a with ⟨x, y, z⟩
      simp only at e; subst e; exact thawed hpq _ _
    simp only [Sem.runT, hsh]
    exact ih _ _ h1 (fun b hm => hb b (by simp [hm])) (.inr hc')
  | program k ih =>
    intro c o w es h hb hc
    simp only [semV] at h
    simp only [Sem.runT]
    exact ih _ _ h hb hc
  | mark m k ih =>
    intro c o w es h hb hc
    simp only [semV] at h
    split at h <;> try (cases h; done)
    rename_i o1 h1
    simp only [Option.some.injEq] at h; subst h
    simp only [Sem.runT]
    rw [ih _ h1 (fun b hm => hb b hm) hc]
    simp
  | new o k ih => intro c o w es h; cases h
  | freeze a n k ih => intro c o w es h; cases h
  | getObj r k ih => intro c o w es h; cases h
  | setObj r o k ih => intro c o w es h; cases h
  | choose q k ih => intro c o w es h; cases h
  | sys q k ih => intro c o w es h; cases h

/-! ### One step of a goroutine: the frames below are left open -/
def ctlV (fr : Frame) : Option Frame :=
  match fr.todo with
  | [] => match fr.roundOf with
    | none => some { fr with mode := .returning }
    | some _ => none
  | .code .ret :: _ => match fr.roundOf with
    | none => some { fr with mode := .returning }
    | some _ => none
  | .code .skip :: k => some { fr with todo := k }
  | .code (.label _) :: k => some { fr with todo := k }
  | .inBlock _ :: k => some { fr with todo := k }
  | .inScope _ :: k => some { fr with todo := k }
  | .code (.seq a b) :: k => some { fr with todo := .code a :: .code b :: k }
  | .code (.cond c x y) :: k => match fr.eval c with
    | .bool b => some { fr with todo := .code (if b then x else y) :: k }
    | _ => none
  | .code (.block id body) :: k => some { fr with todo := .code body :: .inBlock id :: k }
  | .code (.loop body) :: k => some { fr with todo := .code body :: .inLoop body :: k }
  | .inLoop body :: k => some { fr with todo := .code body :: .inLoop body :: k }
  | .code (.scope body) :: k => some { fr with todo := .code body :: .inScope body :: k }
  | .code (.exit id) :: k => match exitTo id k with
    | some k' => some { fr with todo := k' }
    | none => none
  | .code (.region _ ops false) :: k => some { fr with todo := .inRegion ops (List.range ops.size) :: k }
  | .inRegion _ [] :: k => some { fr with todo := k }
  | .inRegion ops (i :: _) :: _ => if ((ops[i]?).map (Region.wanted · (yielded ops fr.tmps))).getD false then none else some (fr.finish undef)
  | _ => none
theorem ctlV_ok {P : Program} {main : Bool} {fr fr' : Frame} {cs : List Frame} (hm : fr.mode = .run) (h : ctlV fr = some fr') (w : World) : stepG P main (G fr cs) w = .go (G fr' cs) w #[] := by
  rcases fr with ⟨fn, tmps, todo, defers, mode, kind, ro⟩
  simp only at hm; subst hm
  unfold ctlV at h
  simp only at h
  split at h
  all_goals try (cases h; done)
  all_goals try (simp only [Option.some.injEq] at h; subst h; simp [G, stepG, stepG.exec]; done)
  · split at h <;> try (cases h; done)
    simp only [Option.some.injEq] at h; subst h; simp [G, stepG, stepG.exec]
  · split at h <;> try (cases h; done)
    simp only [Option.some.injEq] at h; subst h; simp [G, stepG, stepG.exec]
  · split at h <;> try (cases h; done)
    rename_i b hb
    simp only [Option.some.injEq] at h; subst h
    simp only [G, stepG, stepG.exec, hb]
  · split at h <;> try (cases h; done)
    rename_i b hb
    simp only [Option.some.injEq] at h; subst h
    simp [G, stepG, stepG.exec, hb]
  · split at h <;> try (cases h; done)
    rename_i hw
    simp only [Option.some.injEq] at h; subst h
    simp only [G, stepG, stepG.exec, hw]
    simp

inductive OV where
  | go (fr : Frame) (stk : List Frame)
  /-- the lowest frame comes back: called outright / as a deferred call -/
  | ret (v : Value)
  | retD
  | block
abbrev OVs := Option (OV × List (Nat × Value) × List Event × List Nat)
def keptV (P : Program) (fn : FuncId) (es : List Event) : List Event := (seen P fn es.toArray).toList
def isEarly : CallKind → Bool
  | .early => true
  | _ => false
def operV (P : Program) (ty : TypeId) (c : Cel) (fr : Frame) (stk : List Frame) : OVs :=
  match fr.todo with
  | .inRegion ops (i :: _) :: _ => bif ((ops[i]?).map (Region.wanted · (yielded ops fr.tmps))).getD false && !(isEarly fr.kind) then (match fr.roundOf, fr.oper? with
    | none, some o => match semV P ty (execOp fr.eval o) c with
      | some ⟨.ok (.value v), ws, es, bs⟩ => some (.go (fr.finish v) stk, ws, keptV P fr.fn es, bs)
      | some ⟨.ok .skip, ws, es, bs⟩ => some (.go (fr.finish undef) stk, ws, keptV P fr.fn es, bs)
      | some ⟨.ok (.enter f args), ws, es, bs⟩ => some (.go (Frame.enter P f args .normal) (fr :: stk), ws, keptV P fr.fn es, bs)
      | some ⟨.ok (.defer d), ws, es, bs⟩ => some (.go ({ fr with defers := d :: fr.defers }.finish undef) stk, ws, keptV P fr.fn es, bs)
      | some ⟨.halt .blocked, ws, _, bs⟩ => some (.block, ws, [], bs)
      | _ => none
    | _, _ => none) else none
  | _ => none
def isFn : Target → Bool
  | .fn .. => true
  | _ => false
def unwV (P : Program) (ty : TypeId) (c : Cel) (fr : Frame) (stk : List Frame) : OVs :=
  match fr.defers with
  | [] => match P.funcs[fr.fn]? with
    | some fn => match semV P ty (results fn fr.tmps) c with
      | some ⟨.ok v, ws, es, bs⟩ => match stk with
        | q :: stk' => match fr.kind with
          | .normal => some (.go (q.finish v) stk', ws, keptV P fr.fn es, bs)
          | .deferred => match q.mode with
            | .returning => some (.go q stk', ws, keptV P fr.fn es, bs)
            | _ => none
          | _ => none
        | [] => match fr.kind with
          | .normal => some (.ret v, ws, keptV P fr.fn es, bs)
          | .deferred => some (.retD, ws, keptV P fr.fn es, bs)
          | _ => none
      | _ => none
    | none => none
  | d :: ds => bif isFn d.target then (match semV P ty (invoke d.target d.args) c with
    | some ⟨.ok (.value _), ws, es, bs⟩ => some (.go { fr with defers := ds } stk, ws, keptV P fr.fn es, bs)
    | some ⟨.ok (.enter f args), ws, es, bs⟩ => some (.go (Frame.enter P f args .deferred) ({ fr with defers := ds } :: stk), ws, keptV P fr.fn es, bs)
    | _ => none) else none
def oneV (P : Program) (ty : TypeId) (c : Cel) (fr : Frame) (stk : List Frame) : OVs :=
  match fr.mode with
  | .run => match ctlV fr with
    | some fr' => some (.go fr' stk, [], [], [])
    | none => operV P ty c fr stk
  | .returning => unwV P ty c fr stk
  | _ => none

/-- What the step is, above the frames cs. -/
def OV.is (P : Program) (main : Bool) (g : Goroutine) (w w' : World) (es : Array Event) (cs : List Frame) : OV → Prop
  | .go fr stk => stepG P main g w = .go (G fr (stk ++ cs)) w' es
  | .ret v => (∀ c cs', cs = c :: cs' → stepG P main g w = .go (G (c.finish v) cs') w' es)
  | .retD => (∀ c cs', cs = c :: cs' → (c.mode = .returning ∨ ∃ ch, c.mode = .panicking [⟨ch, false, true⟩]) → stepG P main g w = .go (G c cs') w' es)
  | .block => stepG P main g w = .go { g with status := .blocked } w' es
end Go.L
namespace Go.L
open Go Go.Conc
open Go.ConcR (KK wgBlock WgAt stA smA rd wr)

section
variable {P : Program} {main : Bool} {ty : TypeId} {W : Nat} {c : Cel} {fr : Frame} {stk cs : List Frame} {w : World} {o : OV} {ws : List (Nat × Value)} {es : List Event} {bs : List Nat}

theorem toArr (P : Program) (fn : FuncId) (es : List Event) : (keptV P fn es).toArray = seen P fn es.toArray := by simp [keptV]

theorem operV_ok (hm : fr.mode = .run) (h : operV P ty c fr stk = some (o, ws, es, bs)) (hb : ∀ b ∈ bs, b = W) (hc : (c = noCel ∧ bs = []) ∨ CelOK ty W w c) (cs : List Frame) (main : Bool) : o.is P main (G fr (stk ++ cs)) w (putW W w ws) es.toArray cs := by
  rcases fr with ⟨fn, tmps, todo, defers, mode, kind, ro⟩
  simp only at hm; subst hm
  unfold operV at h
  simp only at h
  split at h <;> try (cases h; done)
  rename_i ops i rest k
  cases hw : (((ops[i]?).map (Region.wanted · (yielded ops tmps))).getD false && !(isEarly kind)) with
  | false => rw [hw] at h; cases h
  | true =>
  rw [hw] at h; simp only [cond_true] at h
  simp only [Bool.and_eq_true] at hw
  have hk : (kind == CallKind.early) = false := by cases kind <;> first | rfl | cases hw.2
  split at h <;> try (cases h; done)
  rename_i op hop
  have hstep : ∀ cs, stepG P main (G ⟨fn, tmps, .inRegion ops (i :: rest) :: k, defers, .run, kind, none⟩ cs) w = stepG.apply P true ⟨fn, tmps, .inRegion ops (i :: rest) :: k, defers, .run, kind, none⟩ cs none (execOp (Frame.eval ⟨fn, tmps, .inRegion ops (i :: rest) :: k, defers, .run, kind, none⟩) op) w := by
    intro cs
    simp only [G, stepG, stepG.exec, hw.1, if_true, stepG.oper, hop]
  split at h <;> try (cases h; done)
  all_goals
    rename_i heq hv
    simp only [Option.some.injEq, Prod.mk.injEq] at h
    obtain ⟨rfl, rfl, rfl, rfl⟩ := h
    have hrun := semV_ok _ (w := w) #[] hv hb hc
    simp only [RH.to, Array.empty_append] at hrun
    simp only [OV.is]
    rw [hstep]
    simp only [stepG.apply, hrun, if_true, hk, Bool.false_eq_true, if_false, GStep.after, Array.append_empty, G, toArr]
  all_goals first | rfl | (simp [seen_none]; done)

theorem panicking_mode {c : Frame} {ch : Value} (h : c.mode = .panicking [⟨ch, false, true⟩]) : { c with mode := .panicking [⟨ch, false, true⟩] } = c := by rw [← h]

theorem unwV_ok (hm : fr.mode = .returning) (h : unwV P ty c fr stk = some (o, ws, es, bs)) (hb : ∀ b ∈ bs, b = W) (hc : (c = noCel ∧ bs = []) ∨ CelOK ty W w c) (cs : List Frame) (main : Bool) : o.is P main (G fr (stk ++ cs)) w (putW W w ws) es.toArray cs := by
  rcases fr with ⟨fn, tmps, todo, defers, mode, kind, ro⟩
  simp only at hm; subst hm
  unfold unwV at h
  simp only at h
  split at h
  · split at h <;> try (cases h; done)
    rename_i f hf
    split at h <;> try (cases h; done)
    rename_i v ws' es' bs' hv
    have hrun := fun hb hc => semV_ok _ (w := w) #[] hv (W := W) hb hc
    simp only [RH.to, Array.empty_append] at hrun
    have key : (∀ b ∈ bs', b = W) → ((c = noCel ∧ bs' = []) ∨ CelOK ty W w c) → ∀ cs, stepG P main (G ⟨fn, tmps, todo, [], .returning, kind, ro⟩ cs) w = GStep.after (seen P fn es'.toArray) (doReturn P main ⟨fn, tmps, todo, [], .returning, kind, ro⟩ cs none v (putW W w ws')) := by
      intro hb hc cs
      simp only [G, stepG, unwind, hf, hrun hb hc]
    split at h
    · split at h <;> try (cases h; done)
      · simp only [Option.some.injEq, Prod.mk.injEq] at h
        obtain ⟨rfl, rfl, rfl, rfl⟩ := h
        simp only [OV.is]
        rw [key hb hc]
        simp only [List.cons_append, doReturn, GStep.after, Array.append_empty, toArr, G]
      · split at h <;> try (cases h; done)
        rename_i q stk' hmq
        simp only [Option.some.injEq, Prod.mk.injEq] at h
        obtain ⟨rfl, rfl, rfl, rfl⟩ := h
        simp only [OV.is]
        rw [key hb hc]
        simp only [List.cons_append, doReturn, hmq, GStep.after, Array.append_empty, toArr, G]
    · split at h <;> try (cases h; done)
      · simp only [Option.some.injEq, Prod.mk.injEq] at h
        obtain ⟨rfl, rfl, rfl, rfl⟩ := h
        intro q cs' hq
        subst hq
        rw [key hb hc]
        simp only [List.nil_append, doReturn, GStep.after, Array.append_empty, toArr, G]
      · simp only [Option.some.injEq, Prod.mk.injEq] at h
        obtain ⟨rfl, rfl, rfl, rfl⟩ := h
        intro q cs' hq hmq
        subst hq
        rw [key hb hc]
        rcases hmq with hmq | ⟨ch, hmq⟩
        · simp only [List.nil_append, doReturn, hmq, GStep.after, Array.append_empty, toArr, G]
        · simp only [List.nil_append, doReturn, hmq, GStep.after, Array.append_empty, toArr, G]
  · rename_i d ds
    cases hd : isFn d.target with
    | false => rw [hd] at h; cases h
    | true =>
    rw [hd] at h; simp only [cond_true] at h
    rcases d with ⟨tg, args⟩
    cases tg with
    | fn f cap =>
      split at h <;> try (cases h; done)
      all_goals
        rename_i hv
        simp only [Option.some.injEq, Prod.mk.injEq] at h
        obtain ⟨rfl, rfl, rfl, rfl⟩ := h
        have hrun := semV_ok _ (w := w) #[] hv hb hc
        simp only [RH.to, Array.empty_append] at hrun
        simp only [OV.is]
        simp only [G, stepG, unwind, callDeferred, hrun, GStep.after, toArr, Array.append_empty, Bool.false_and, Bool.false_eq_true, if_false, List.cons_append]
    | _ => cases hd

theorem oneV_ok (h : oneV P ty c fr stk = some (o, ws, es, bs)) (hb : ∀ b ∈ bs, b = W) (hc : (c = noCel ∧ bs = []) ∨ CelOK ty W w c) (cs : List Frame) (main : Bool) : o.is P main (G fr (stk ++ cs)) w (putW W w ws) es.toArray cs := by
  unfold oneV at h
  split at h <;> try (cases h; done)
  · rename_i hm
    split at h
    · rename_i fr' hfr
      simp only [Option.some.injEq, Prod.mk.injEq] at h
      obtain ⟨rfl, rfl, rfl, rfl⟩ := h
      exact ctlV_ok hm hfr w
    · exact operV_ok hm h hb hc cs main
  · rename_i hm
    exact unwV_ok hm h hb hc cs main
end
end Go.L
namespace Go.L
open Go Go.Conc
open Go.ConcR (KK wgBlock WgAt stA smA rd wr)

/-! ### Entries, by number -/
def codeE : Event → Option (Nat × Nat × List Nat)
  | ⟨.mark .disable, false, true⟩ => some (1, 0, [])
  | ⟨.mark .enable, false, true⟩ => some (2, 0, [])
  | ⟨.mark (.releaseMerge ⟨b, o, none⟩), false, true⟩ => some (3, o, [b])
  | ⟨.mark (.acquire ⟨b, o, none⟩), false, true⟩ => some (4, o, [b])
  | ⟨.mark (.read ⟨b, o, none⟩), false, true⟩ => some (5, o, [b])
  | ⟨.mark (.write ⟨b, o, none⟩), false, true⟩ => some (6, o, [b])
  | ⟨.cell ⟨b, o, none⟩, false, true⟩ => some (7, o, [b])
  | ⟨.cell ⟨b, o, none⟩, true, true⟩ => some (8, o, [b])
  | _ => none
def decE (W : Nat) (x : Nat × Nat) : Event :=
  match x.1 with
  | 1 => said .disable
  | 2 => said .enable
  | 3 => said (.releaseMerge ⟨W, x.2, none⟩)
  | 4 => said (.acquire ⟨W, x.2, none⟩)
  | 5 => said (.read ⟨W, x.2, none⟩)
  | 6 => said (.write ⟨W, x.2, none⟩)
  | 7 => ⟨.cell ⟨W, x.2, none⟩, false, true⟩
  | _ => ⟨.cell ⟨W, x.2, none⟩, true, true⟩
theorem codeE_ok {W : Nat} {e : Event} {k o : Nat} {bs : List Nat} (h : codeE e = some (k, o, bs)) (hb : ∀ b ∈ bs, b = W) : e = decE W (k, o) := by
  unfold codeE at h
  split at h <;> try (cases h; done)
  all_goals
    simp only [Option.some.injEq, Prod.mk.injEq] at h
    obtain ⟨rfl, rfl, rfl⟩ := h
  · rfl
  · rfl
  all_goals
    have := hb _ (List.mem_singleton.2 rfl)
    subst this
    rfl
def codeEs : List Event → Option (List (Nat × Nat) × List Nat)
  | [] => some ([], [])
  | e :: l => match codeE e, codeEs l with
    | some (k, o, b), some (r, bs) => some ((k, o) :: r, b ++ bs)
    | _, _ => none
theorem codeEs_ok {W : Nat} : ∀ {es : List Event} {ks : List (Nat × Nat)} {bs : List Nat}, codeEs es = some (ks, bs) → (∀ b ∈ bs, b = W) → es = ks.map (decE W)
  | [], ks, bs, h, hb => by simp only [codeEs, Option.some.injEq, Prod.mk.injEq] at h; obtain ⟨rfl, rfl⟩ := h; rfl
  | e :: l, ks, bs, h, hb => by
    simp only [codeEs] at h
    split at h <;> try (cases h; done)
    rename_i k o b r bs' h1 h2
    simp only [Option.some.injEq, Prod.mk.injEq] at h
    obtain ⟨rfl, rfl⟩ := h
    rw [List.map_cons, ← codeE_ok h1 (fun x hx => hb x (by simp [hx])), ← codeEs_ok h2 (fun x hx => hb x (by simp [hx]))]

/-! ### Walks -/
abbrev Bl := Option (List Nat)
def app2 : List Nat → Bl → Bl
  | a, some b => some (a ++ b)
  | _, none => none
def both : Bl → Bl → Bl
  | some a, some b => some (a ++ b)
  | _, _ => none
def allL {α : Type} (f : α → Bl) : List α → Bl
  | [] => some []
  | x :: l => both (f x) (allL f l)
theorem app2_ok {a bs : List Nat} {x : Bl} (h : app2 a x = some bs) {W : Nat} (hb : ∀ b ∈ bs, b = W) : (∀ b ∈ a, b = W) ∧ ∃ y, x = some y ∧ ∀ b ∈ y, b = W := by
  cases x with
  | none => cases h
  | some y =>
    simp only [app2, Option.some.injEq] at h; subst h
    exact ⟨fun b hm => hb b (by simp [hm]), y, rfl, fun b hm => hb b (by simp [hm])⟩
theorem both_ok {bs : List Nat} {x y : Bl} (h : both x y = some bs) {W : Nat} (hb : ∀ b ∈ bs, b = W) : (∃ a, x = some a ∧ ∀ b ∈ a, b = W) ∧ ∃ a, y = some a ∧ ∀ b ∈ a, b = W := by
  cases x with
  | none => cases h
  | some a =>
    cases y with
    | none => cases h
    | some b =>
      simp only [both, Option.some.injEq] at h; subst h
      exact ⟨⟨a, rfl, fun b hm => hb b (by simp [hm])⟩, b, rfl, fun b hm => hb b (by simp [hm])⟩
theorem allL_ok {α : Type} {f : α → Bl} {W : Nat} : ∀ {l : List α} {bs : List Nat}, allL f l = some bs → (∀ b ∈ bs, b = W) → ∀ x ∈ l, ∃ a, f x = some a ∧ ∀ b ∈ a, b = W
  | [], _, _, _, x, hx => by cases hx
  | y :: l, bs, h, hb, x, hx => by
    obtain ⟨h1, h2, h3, h4⟩ := both_ok h hb
    rcases List.mem_cons.1 hx with rfl | hx
    · exact h1
    · exact allL_ok h3 h4 x hx

/-- moves that list nothing, as far as they go -/
def goP (P : Program) (ty : TypeId) : Nat → Frame → List Frame → (Frame → List Frame → Bl) → Bl
  | 0, _, _, _ => none
  | n + 1, fr, stk, k => match oneV P ty noCel fr stk with
    | some (.go fr' stk', [], [], bs) => app2 bs (goP P ty n fr' stk' k)
    | _ => k fr stk
/-- a move that others notice -/
def visV (P : Program) (ty : TypeId) (c : Cel) (fr : Frame) (stk : List Frame) : Option (Frame × List Frame × List (Nat × Value) × List (Nat × Nat) × List Nat × List Nat) :=
  match oneV P ty c fr stk with
  | some (.go fr' stk', ws, es, bs) => match codeEs es with
    | some (ks, b2) => some (fr', stk', ws, ks, bs, b2)
    | none => none
  | _ => none
def i64 (n : Int) : Value := .int .u64 n
def i32 (n : Int) : Value := .int .u32 n
def beqK : List (Nat × Nat) → List (Nat × Nat) → Bool
  | [], [] => true
  | (a, b) :: l, (c, d) :: m => Nat.beq a c && (Nat.beq b d && beqK l m)
  | _, _ => false
theorem beqK_eq : ∀ {l m : List (Nat × Nat)}, beqK l m = true → l = m
  | [], [], _ => rfl
  | (a, b) :: l, (c, d) :: m, h => by
    simp only [beqK, Bool.and_eq_true] at h
    rw [Nat.eq_of_beq_eq_true h.1, Nat.eq_of_beq_eq_true h.2.1, beqK_eq h.2.2]
  | [], _ :: _, h => by simp [beqK] at h
  | _ :: _, [], h => by simp [beqK] at h
/-- it writes this number there (k: kind, n: number), or nothing -/
def beqW : List (Nat × Value) → Option (Nat × IntKind × Int) → Bool
  | [], none => true
  | [(o, .int k n)], some (o', k', n') => Nat.beq o o' && (decide (k = k') && decide (n = n'))
  | _, _ => false
theorem beqW_none {l : List (Nat × Value)} (h : beqW l none = true) : l = [] := by
  unfold beqW at h
  split at h
  · rfl
  · rename_i heq; cases heq
  · cases h
theorem beqW_some {l : List (Nat × Value)} {o : Nat} {k : IntKind} {n : Int} (h : beqW l (some (o, k, n)) = true) : l = [(o, .int k n)] := by
  unfold beqW at h
  split at h
  · rename_i heq; cases heq
  · rename_i heq
    cases heq
    simp only [Bool.and_eq_true, decide_eq_true_eq] at h
    rw [Nat.eq_of_beq_eq_true h.1, h.2.1, h.2.2]
  · cases h
/-- a move with these writes and entries, and on; m: it touches nothing (a mark) -/
def vis (P : Program) (ty : TypeId) (c : Cel) (m : Bool) (wr : Option (Nat × IntKind × Int)) (ks : List (Nat × Nat)) (fr : Frame) (stk : List Frame) (k : Frame → List Frame → Bl) : Bl :=
  match visV P ty c fr stk with
  | some (fr', stk', ws, ks', b1, b2) => bif beqW ws wr && (beqK ks' ks && (!m || b1.isEmpty)) then app2 b1 (app2 b2 (k fr' stk')) else none
  | none => none

section
variable {P : Program} {ty : TypeId} {W : Nat}
theorem visV_ok {c : Cel} {fr fr' : Frame} {stk stk' : List Frame} {ws : List (Nat × Value)} {ks : List (Nat × Nat)} {b1 b2 : List Nat} (h : visV P ty c fr stk = some (fr', stk', ws, ks, b1, b2)) (h1 : ∀ b ∈ b1, b = W) (h2 : ∀ b ∈ b2, b = W)
    {w : World} (hc : (c = noCel ∧ b1 = []) ∨ CelOK ty W w c) (cs : List Frame) (main : Bool) : stepG P main (G fr (stk ++ cs)) w = .go (G fr' (stk' ++ cs)) (putW W w ws) (ks.map (decE W)).toArray := by
  unfold visV at h
  split at h <;> try (cases h; done)
  rename_i h0
  split at h <;> try (cases h; done)
  rename_i hk
  simp only [Option.some.injEq, Prod.mk.injEq] at h
  obtain ⟨rfl, rfl, rfl, rfl, rfl, rfl⟩ := h
  have := oneV_ok h0 h1 hc cs main
  simp only [OV.is] at this
  rw [this, codeEs_ok hk h2]
def wrote (W : Nat) (w : World) : Option (Nat × IntKind × Int) → World
  | none => w
  | some (o, k, n) => w.setCell ⟨W, o, none⟩ (.int k n)
theorem vis_ok {c : Cel} {m : Bool} {x : Option (Nat × IntKind × Int)} {ks : List (Nat × Nat)} {fr : Frame} {stk : List Frame} {k : Frame → List Frame → Bl} {bs : List Nat} (h : vis P ty c m x ks fr stk k = some bs) (hb : ∀ b ∈ bs, b = W) :
    ∃ fr' stk' bs', k fr' stk' = some bs' ∧ (∀ b ∈ bs', b = W) ∧ ∀ cs main w, ((c = noCel ∧ m = true) ∨ CelOK ty W w c) → stepG P main (G fr (stk ++ cs)) w = .go (G fr' (stk' ++ cs)) (wrote W w x) (ks.map (decE W)).toArray := by
  unfold vis at h
  split at h <;> try (cases h; done)
  rename_i fr' stk' ws ks' b1 b2 hv
  cases hq : (beqW ws x && (beqK ks' ks && (!m || b1.isEmpty))) with
  | false => rw [hq] at h; cases h
  | true =>
  rw [hq] at h; simp only [cond_true] at h
  simp only [Bool.and_eq_true] at hq
  obtain ⟨q1, q2, q3⟩ := hq
  obtain ⟨h1, y, hy, hy'⟩ := app2_ok h hb
  obtain ⟨h2, z, hz, hz'⟩ := app2_ok hy hy'
  refine ⟨fr', stk', z, hz, hz', fun cs main w hc => ?_⟩
  have := visV_ok hv h1 h2 (w := w) (by
    rcases hc with ⟨hc, hm⟩ | hc
    · subst hm
      simp at q3
      exact .inl ⟨hc, q3⟩
    · exact .inr hc) cs main
  rw [this, beqK_eq q2]
  cases x with
  | none => rw [beqW_none q1]; rfl
  | some x =>
    obtain ⟨o, kd, n⟩ := x
    rw [beqW_some q1]; rfl
theorem goP_ok {k : Frame → List Frame → Bl} : ∀ {n : Nat} {fr : Frame} {stk : List Frame} {bs : List Nat}, goP P ty n fr stk k = some bs → (∀ b ∈ bs, b = W) →
    ∀ (T : Frame → List Frame → Prop), (∀ fr' stk' bs', k fr' stk' = some bs' → (∀ b ∈ bs', b = W) → T fr' stk') →
    (∀ fr stk fr' stk', (∀ cs main w, CelOK ty W w noCel → stepG P main (G fr (stk ++ cs)) w = .go (G fr' (stk' ++ cs)) w #[]) → T fr' stk' → T fr stk) → T fr stk
  | 0, _, _, _, h, _, _, _, _ => by cases h
  | n + 1, fr, stk, bs, h, hb, T, hk, hs => by
    simp only [goP] at h
    split at h
    · rename_i fr' stk' b1 h0
      obtain ⟨h1, y, hy, hy'⟩ := app2_ok h hb
      refine hs fr stk fr' stk' (fun cs main w hc => ?_) (goP_ok hy hy' T hk hs)
      have := oneV_ok h0 h1 (.inr hc) cs main
      simp only [OV.is] at this
      rw [this]; rfl
    · exact hk _ _ _ h hb
end

section
variable {ι : Type} (E : Crew ι)
theorem live_cel {w : World} (h : E.live w) : CelOK E.ty E.Wg w noCel := by
  obtain ⟨st, sm, h⟩ := h
  exact ⟨_, _, h, by simp, by simp⟩
theorem wg_cel {w : World} {st sm : Int} (h : WgAt E.ty E.Wg w st sm) : CelOK E.ty E.Wg w (some (i64 st), some (i32 sm)) := ⟨_, _, h, by simp [i64], by simp [i32]⟩
theorem sm_cel {w : World} {st sm : Int} (h : WgAt E.ty E.Wg w st sm) : CelOK E.ty E.Wg w (none, some (i32 sm)) := ⟨_, _, h, by simp, by simp [i32]⟩
variable {E}
/-- pure moves of a goroutine -/
theorem goP_pure {main : Bool} {Stop : Goroutine → Prop} {cs : List Frame} {k : Frame → List Frame → Bl} {n : Nat} {fr : Frame} {stk : List Frame} {bs : List Nat} (h : goP E.P E.ty n fr stk k = some bs) (hb : ∀ b ∈ bs, b = E.Wg)
    (hk : ∀ fr' stk' bs', k fr' stk' = some bs' → (∀ b ∈ bs', b = E.Wg) → Stop (G fr' (stk' ++ cs))) : E.pure main Stop (G fr (stk ++ cs)) := by
  refine goP_ok h hb (fun fr stk => E.pure main Stop (G fr (stk ++ cs))) (fun fr' stk' bs' h1 h2 => ⟨0, hk _ _ _ h1 h2⟩) fun fr stk fr' stk' h1 ⟨m, hm⟩ => ⟨m + 1, rfl, _, fun w hw => h1 cs main w (live_cel E hw), hm⟩
/-- .. of main in a crowd -/
theorem goP_tc {L : Nat → Option Obj} {Q : Machine → Outcome → World → Trace → Prop} {pend d0 : Nat} {os : List ι} {s : St} {cs : List Frame} {k : Frame → List Frame → Bl} {n : Nat} {fr : Frame} {stk : List Frame} {bs : List Nat} (h : goP E.P E.ty n fr stk k = some bs) (hb : ∀ b ∈ bs, b = E.Wg)
    (hk : ∀ fr' stk' bs', k fr' stk' = some bs' → (∀ b ∈ bs', b = E.Wg) → TC E L Q pend false os d0 (G fr' (stk' ++ cs)) s) : TC E L Q pend false os d0 (G fr (stk ++ cs)) s :=
  goP_ok h hb (fun fr stk => TC E L Q pend false os d0 (G fr (stk ++ cs)) s) hk fun fr stk fr' stk' h1 hT => tc_pure rfl (fun w hw => h1 cs true w (live_cel E hw)) hT

/-- the lowest frame comes back, without a result -/
def goR (P : Program) (ty : TypeId) : Nat → Frame → List Frame → Bl
  | 0, _, _ => none
  | n + 1, fr, stk => match oneV P ty noCel fr stk with
    | some (.go fr' stk', [], [], []) => goR P ty n fr' stk'
    | some (.ret (.tuple ⟨[]⟩), [], [], []) => some []
    | _ => none
theorem goR_ok {P : Program} {ty : TypeId} {c : Frame} {cs : List Frame} : ∀ {n : Nat} {fr : Frame} {stk : List Frame} {bs : List Nat}, goR P ty n fr stk = some bs →
    ∀ (main : Bool) (T : Goroutine → Prop), T (G (c.finish (.tuple #[])) cs) → (∀ g g', g.status = .running → g'.status = .running → (∀ w, stepG P main g w = .go g' w #[]) → T g' → T g) → T (G fr (stk ++ c :: cs))
  | 0, _, _, _, h, _, _, _, _ => by cases h
  | n + 1, fr, stk, bs, h, main, T, hT, hs => by
    simp only [goR] at h
    split at h
    · rename_i fr' stk' h0
      refine hs _ _ rfl rfl (fun w => ?_) (goR_ok h main T hT hs)
      have := oneV_ok (W := 0) (w := w) h0 (by simp) (.inl ⟨rfl, rfl⟩) (c :: cs) main
      simp only [OV.is] at this
      rw [this]; rfl
    · rename_i h0
      refine hs _ _ rfl rfl (fun w => ?_) hT
      have := oneV_ok (W := 0) (w := w) h0 (by simp) (.inl ⟨rfl, rfl⟩) (c :: cs) main
      simp only [OV.is] at this
      have h2 := this c cs rfl
      rw [h2]; rfl
    · cases h

/-- it leaves: the lowest frame, a deferred call's, comes back -/
def mutes : List Event → Bool
  | [] => true
  | e :: l => e.mute && mutes l
def goQ (P : Program) (ty : TypeId) : Nat → Nat → Frame → List Frame → Bl
  | 0, _, _, _ => none
  | n + 1, d, fr, stk => match oneV P ty noCel fr stk with
    | some (.go fr' stk', [], es, []) => bif mutes es then goQ P ty n (deafBehind d es.toArray) fr' stk' else none
    | some (.retD, [], [], []) => bif Nat.beq d 0 then some [] else none
    | _ => none
theorem mutes_ok : ∀ {es : List Event}, mutes es = true → ∀ e ∈ es, e.mute = true
  | [], _, e, he => by cases he
  | x :: l, h, e, he => by
    simp only [mutes, Bool.and_eq_true] at h
    rcases List.mem_cons.1 he with rfl | he
    · exact h.1
    · exact mutes_ok h.2 e he
theorem goQ_ok {P : Program} {ty : TypeId} {c : Frame} {cs : List Frame} {q : Nat} (hc : c.mode = .returning ∨ ∃ ch, c.mode = .panicking [⟨ch, false, true⟩]) (hq : QuitsD P q 0 (G c cs)) : ∀ {n d : Nat} {fr : Frame} {stk : List Frame} {bs : List Nat}, goQ P ty n d fr stk = some bs →
    ∃ q, QuitsD P q d (G fr (stk ++ c :: cs))
  | 0, _, _, _, _, h => by cases h
  | n + 1, d, fr, stk, bs, h => by
    simp only [goQ] at h
    split at h
    · rename_i fr' stk' es h0
      cases hm : mutes es with
      | false => rw [hm] at h; cases h
      | true =>
      rw [hm] at h; simp only [cond_true] at h
      obtain ⟨q', hq'⟩ := goQ_ok hc hq h
      refine ⟨q' + 1, .inr ⟨rfl, _, es.toArray, fun e he => mutes_ok hm e (by simpa using he), fun w => ?_, hq'⟩⟩
      have := oneV_ok (W := 0) (w := w) h0 (by simp) (.inl ⟨rfl, rfl⟩) (c :: cs) false
      simp only [OV.is] at this
      rw [this]; rfl
    · rename_i h0
      cases hd : Nat.beq d 0 with
      | false => rw [hd] at h; cases h
      | true =>
      have : d = 0 := Nat.eq_of_beq_eq_true hd
      subst this
      refine ⟨q + 1, .ctl rfl (fun w => ?_) hq⟩
      have := oneV_ok (W := 0) (w := w) h0 (by simp) (.inl ⟨rfl, rfl⟩) (c :: cs) false
      simp only [OV.is] at this
      have h2 := this c cs rfl hc
      rw [h2]; rfl
    · cases h
end
end Go.L
namespace Go.L
open Go Go.Conc
open Go.ConcR (KK wgBlock WgAt stA smA rd wr)

/-! ### The group's functions, reckoned -/
section
variable (P : Program) (ty : TypeId)
abbrev c64 (a b : Int) : Cel := (some (i64 a), some (i32 b))
abbrev semK : List (Nat × Nat) := [(1, 0), (7, 1), (8, 1), (2, 0)]
def chkD4 (f : Frame) (s : List Frame) : Bl := bif mayWake P (G f []) then vis P ty (c64 0 0) false (some (1, .u32, 1)) semK f s (goQ P ty 300 1) else none
def chkD3 (f : Frame) (s : List Frame) : Bl := vis P ty (c64 1 0) false (some (0, .u64, 0)) [(8, 0)] f s fun f s => goP P ty 300 f s (chkD4 P ty)
def chkD2 (f : Frame) (s : List Frame) : Bl := vis P ty (c64 1 0) false none [(7, 0)] f s fun f s => goP P ty 300 f s (chkD3 P ty)
def chkD1v (f : Frame) (s : List Frame) (v wt : Nat) : Bl :=
  vis P ty (c64 (((v + 1 : Nat) : Int) * KK + (wt : Int)) 0) false (some (0, .u64, (v : Int) * KK + (wt : Int))) [(7, 0), (8, 0)] f s fun f s => bif Nat.beq v 0 && Nat.beq wt 1 then goP P ty 300 f s (chkD2 P ty) else goQ P ty 300 1 f s
def chkD1 (mx : Nat) (f : Frame) (s : List Frame) : Bl := allL (fun v => both (chkD1v P ty f s v 0) (chkD1v P ty f s v 1)) (List.range mx)
def chkK1 (mx : Nat) (f : Frame) (s : List Frame) : Bl := vis P ty noCel true none [(1, 0)] f s fun f s => goP P ty 300 f s (chkD1 P ty mx)
def chkR0 (mx : Nat) (f : Frame) (s : List Frame) : Bl := vis P ty noCel true none [(3, 0)] f s fun f s => goP P ty 300 f s (chkK1 P ty mx)
/-- 'Done', called as a deferred call -/
def chkDone (mx : Nat) (f : Frame) : Bl := goP P ty 300 f [] (chkR0 P ty mx)

def chkAq (f : Frame) (s : List Frame) : Bl := vis P ty noCel true none [(4, 0)] f s (goR P ty 300)
def chkKe (f : Frame) (s : List Frame) : Bl := vis P ty noCel true none [(2, 0)] f s fun f s => goP P ty 300 f s (chkAq P ty)
def chkW4 (f : Frame) (s : List Frame) : Bl := vis P ty (c64 0 0) false none [(7, 0)] f s fun f s => goP P ty 300 f s (chkKe P ty)
def blkV (c : Cel) (f : Frame) (s : List Frame) : Bl := match oneV P ty c f s with
  | some (.block, [], [], bs) => some bs
  | _ => none
def chkW3 (f : Frame) (s : List Frame) : Bl := both (blkV P ty (none, some (i32 0)) f s) (vis P ty (c64 0 1) false (some (1, .u32, 0)) semK f s fun f s => goP P ty 300 f s (chkW4 P ty))
def chkWr (f : Frame) (s : List Frame) : Bl := vis P ty noCel true none [(6, 1)] f s fun f s => goP P ty 300 f s (chkW3 P ty)
def chkW2 (miss : Frame → List Frame → Bl) (vs : Nat) (f : Frame) (s : List Frame) : Bl :=
  both (vis P ty (c64 ((vs : Int) * KK) 0) false (some (0, .u64, (vs : Int) * KK + 1)) [(7, 0), (8, 0)] f s fun f s => goP P ty 300 f s (chkWr P ty))
    (allL (fun v : Nat => vis P ty (c64 ((v : Int) * KK) 0) false none [(7, 0)] f s fun f s => goP P ty 300 f s miss) (List.range vs))
def chkW1 : Nat → Frame → List Frame → Bl
  | 0, f, s => vis P ty (c64 0 0) false none [(7, 0)] f s fun f s => goP P ty 300 f s (chkKe P ty)
  | b + 1, f, s => both (vis P ty (c64 0 0) false none [(7, 0)] f s fun f s => goP P ty 300 f s (chkKe P ty))
    (allL (fun v : Nat => vis P ty (c64 (((v + 1 : Nat) : Int) * KK) 0) false none [(7, 0)] f s fun f s => goP P ty 300 f s (chkW2 P ty (chkW1 b) (v + 1))) (List.range (b + 1)))
/-- 'Wait', called outright -/
def chkWait (mx : Nat) (f : Frame) : Bl := goP P ty 300 f [] fun f s => vis P ty noCel true none [(1, 0)] f s fun f s => goP P ty 300 f s (chkW1 P ty mx)

/-- 'Add(1)', called outright, where v are counted -/
def chkAdd (v : Nat) (f : Frame) : Bl :=
  goP P ty 300 f [] fun f s => vis P ty noCel true none [(1, 0)] f s fun f s => goP P ty 300 f s fun f s =>
    vis P ty (c64 ((v : Int) * KK) 0) false (some (0, .u64, ((v + 1 : Nat) : Int) * KK)) [(7, 0), (8, 0)] f s fun f s => goP P ty 300 f s fun f s =>
      bif Nat.beq v 0 then vis P ty noCel false none [(5, 1)] f s fun f s => goP P ty 300 f s fun f s => vis P ty noCel true none [(2, 0)] f s (goR P ty 300)
      else vis P ty noCel true none [(2, 0)] f s (goR P ty 300)
end

section
variable {ι : Type} {E : Crew ι}
theorem wake_frame {P : Program} {f : Frame} {cs cs' : List Frame} : mayWake P (G f cs) = mayWake P (G f cs') := rfl

section leave
variable {c : Frame} {cs : List Frame} (hc : c.mode = .returning ∨ ∃ ch, c.mode = .panicking [⟨ch, false, true⟩]) {q0 : Nat} (hq : QuitsD E.P q0 0 (G c cs))
include hc hq
theorem chkD4_ok {f : Frame} {s : List Frame} {bs : List Nat} (h : chkD4 E.P E.ty f s = some bs) (hb : ∀ b ∈ bs, b = E.Wg) : E.D4 (G f (s ++ c :: cs)) := by
  unfold chkD4 at h
  cases hm : mayWake E.P (G f []) with
  | false => rw [hm] at h; cases h
  | true =>
  rw [hm] at h; simp only [cond_true] at h
  obtain ⟨f', s', bs', h1, h2, h3⟩ := vis_ok h hb
  exact ⟨rfl, hm, _, fun w hw => h3 _ _ w (.inr (wg_cel E hw)), goQ_ok hc hq h1⟩
theorem chkD3_ok {f : Frame} {s : List Frame} {bs : List Nat} (h : chkD3 E.P E.ty f s = some bs) (hb : ∀ b ∈ bs, b = E.Wg) : E.D3 (G f (s ++ c :: cs)) := by
  obtain ⟨f', s', bs', h1, h2, h3⟩ := vis_ok h hb
  exact ⟨rfl, _, fun w hw => h3 _ _ w (.inr (wg_cel E hw)), goP_pure h1 h2 fun _ _ _ k1 k2 => chkD4_ok hc hq k1 k2⟩
theorem chkD2_ok {f : Frame} {s : List Frame} {bs : List Nat} (h : chkD2 E.P E.ty f s = some bs) (hb : ∀ b ∈ bs, b = E.Wg) : E.D2 (G f (s ++ c :: cs)) := by
  obtain ⟨f', s', bs', h1, h2, h3⟩ := vis_ok h hb
  exact ⟨rfl, _, fun w hw => h3 _ _ w (.inr (wg_cel E hw)), goP_pure h1 h2 fun _ _ _ k1 k2 => chkD3_ok hc hq k1 k2⟩
theorem chkD1_ok {f : Frame} {s : List Frame} {bs : List Nat} (h : chkD1 E.P E.ty E.max f s = some bs) (hb : ∀ b ∈ bs, b = E.Wg) : E.D1 (G f (s ++ c :: cs)) := by
  refine ⟨rfl, fun v wt hwt hv => ?_⟩
  obtain ⟨a, h1, h2⟩ := allL_ok h hb v (List.mem_range.2 hv)
  have key : ∃ a, chkD1v E.P E.ty f s v wt = some a ∧ ∀ b ∈ a, b = E.Wg := by
    obtain ⟨k1, k2⟩ := both_ok h1 h2
    match wt, hwt with
    | 0, _ => exact k1
    | 1, _ => exact k2
  obtain ⟨a', k1, k2⟩ := key
  obtain ⟨f', s', bs', j1, j2, j3⟩ := vis_ok k1 k2
  refine ⟨_, fun w hw => j3 _ _ w (.inr (wg_cel E hw)), fun hh => ?_, fun hh => ?_⟩
  · obtain ⟨rfl, rfl⟩ := hh
    exact goP_pure j1 j2 fun _ _ _ k1 k2 => chkD2_ok hc hq k1 k2
  · have : (Nat.beq v 0 && Nat.beq wt 1) = false := by
      cases hx : (Nat.beq v 0 && Nat.beq wt 1) with
      | false => rfl
      | true =>
        simp only [Bool.and_eq_true] at hx
        exact absurd ⟨Nat.eq_of_beq_eq_true hx.1, Nat.eq_of_beq_eq_true hx.2⟩ hh
    rw [this] at j1; simp only [cond_false] at j1
    exact goQ_ok hc hq j1
theorem chkK1_ok {f : Frame} {s : List Frame} {bs : List Nat} (h : chkK1 E.P E.ty E.max f s = some bs) (hb : ∀ b ∈ bs, b = E.Wg) : E.K1 (G f (s ++ c :: cs)) := by
  obtain ⟨f', s', bs', h1, h2, h3⟩ := vis_ok h hb
  exact ⟨rfl, _, fun w => h3 _ _ w (.inl ⟨rfl, rfl⟩), goP_pure h1 h2 fun _ _ _ k1 k2 => chkD1_ok hc hq k1 k2⟩
theorem chkR0_ok {f : Frame} {s : List Frame} {bs : List Nat} (h : chkR0 E.P E.ty E.max f s = some bs) (hb : ∀ b ∈ bs, b = E.Wg) : E.R0 (G f (s ++ c :: cs)) := by
  obtain ⟨f', s', bs', h1, h2, h3⟩ := vis_ok h hb
  exact ⟨rfl, _, fun w => h3 _ _ w (.inl ⟨rfl, rfl⟩), goP_pure h1 h2 fun _ _ _ k1 k2 => chkK1_ok hc hq k1 k2⟩
/-- A WORKER's 'Done'. -/
theorem chkDone_ok {f : Frame} {bs : List Nat} (h : chkDone E.P E.ty E.max f = some bs) (hb : ∀ b ∈ bs, b = E.Wg) : E.pure false E.R0 (G f (c :: cs)) :=
  goP_pure (stk := []) h hb fun _ _ _ k1 k2 => chkR0_ok hc hq k1 k2
end leave

section close
variable {c : Frame} {cs : List Frame} {st : St} (hT : Treads E.P false E.Shut (G (c.finish (.tuple #[])) cs) st)
include hT
theorem chkAq_ok {f : Frame} {s : List Frame} {bs : List Nat} (h : chkAq E.P E.ty f s = some bs) (hb : ∀ b ∈ bs, b = E.Wg) : E.Aq st (G f (s ++ c :: cs)) := by
  obtain ⟨f', s', bs', h1, h2, h3⟩ := vis_ok h hb
  have key := goR_ok (c := c) (cs := cs) h1 false (fun g => Treads E.P false E.Shut g st) hT fun g g' hg hg' hst hT' => (treads_closed _ _ _).go hg hg' hst hT'
  obtain ⟨tr, s₀, hle, ht⟩ := key
  exact ⟨rfl, _, fun w => h3 _ _ w (.inl ⟨rfl, rfl⟩), tr, s₀, hle, ht⟩
theorem chkKe_ok {f : Frame} {s : List Frame} {bs : List Nat} (h : chkKe E.P E.ty f s = some bs) (hb : ∀ b ∈ bs, b = E.Wg) : E.Ke st (G f (s ++ c :: cs)) := by
  obtain ⟨f', s', bs', h1, h2, h3⟩ := vis_ok h hb
  exact ⟨rfl, _, fun w => h3 _ _ w (.inl ⟨rfl, rfl⟩), goP_pure h1 h2 fun _ _ _ k1 k2 => chkAq_ok hT k1 k2⟩
theorem chkW4_ok {f : Frame} {s : List Frame} {bs : List Nat} (h : chkW4 E.P E.ty f s = some bs) (hb : ∀ b ∈ bs, b = E.Wg) : E.W4 st (G f (s ++ c :: cs)) := by
  obtain ⟨f', s', bs', h1, h2, h3⟩ := vis_ok h hb
  exact ⟨rfl, _, fun w hw => h3 _ _ w (.inr (wg_cel E hw)), goP_pure h1 h2 fun _ _ _ k1 k2 => chkKe_ok hT k1 k2⟩
theorem chkW3_ok {f : Frame} {s : List Frame} {bs : List Nat} (h : chkW3 E.P E.ty f s = some bs) (hb : ∀ b ∈ bs, b = E.Wg) : E.W3 st (G f (s ++ c :: cs)) := by
  obtain ⟨⟨b1, k1, k2⟩, b2, k3, k4⟩ := both_ok h hb
  obtain ⟨f', s', bs', h1, h2, h3⟩ := vis_ok k3 k4
  refine ⟨rfl, rfl, fun w n hw => ?_, _, fun w hw => h3 _ _ w (.inr (wg_cel E hw)), goP_pure h1 h2 fun _ _ _ k1 k2 => chkW4_ok hT k1 k2⟩
  unfold blkV at k1
  split at k1 <;> try (cases k1; done)
  rename_i h0
  simp only [Option.some.injEq] at k1; subst k1
  have := oneV_ok h0 k2 (w := w) (.inr (sm_cel E hw)) (c :: cs) false
  simp only [OV.is] at this
  rw [this]; rfl
theorem chkWr_ok {f : Frame} {s : List Frame} {bs : List Nat} (h : chkWr E.P E.ty f s = some bs) (hb : ∀ b ∈ bs, b = E.Wg) : E.Wr st (G f (s ++ c :: cs)) := by
  obtain ⟨f', s', bs', h1, h2, h3⟩ := vis_ok h hb
  exact ⟨rfl, _, fun w => h3 _ _ w (.inl ⟨rfl, rfl⟩), goP_pure h1 h2 fun _ _ _ k1 k2 => chkW3_ok hT k1 k2⟩
theorem chkW2_ok {miss : Frame → List Frame → Bl} {Miss : Goroutine → Prop} (hm : ∀ f s bs, miss f s = some bs → (∀ b ∈ bs, b = E.Wg) → Miss (G f (s ++ c :: cs))) {vs : Nat} {f : Frame} {s : List Frame} {bs : List Nat} (h : chkW2 E.P E.ty miss vs f s = some bs) (hb : ∀ b ∈ bs, b = E.Wg) :
    E.W2 (E.pure false Miss) st vs (G f (s ++ c :: cs)) := by
  obtain ⟨⟨b1, k1, k2⟩, b2, k3, k4⟩ := both_ok h hb
  obtain ⟨f', s', bs', h1, h2, h3⟩ := vis_ok k1 k2
  refine ⟨rfl, ⟨_, fun w hw => h3 _ _ w (.inr (wg_cel E hw)), goP_pure h1 h2 fun _ _ _ k1 k2 => chkWr_ok hT k1 k2⟩, fun v hv => ?_⟩
  obtain ⟨a, j1, j2⟩ := allL_ok k3 k4 v (List.mem_range.2 hv)
  obtain ⟨f2, s2, bs2, i1, i2, i3⟩ := vis_ok j1 j2
  exact ⟨_, fun w hw => i3 _ _ w (.inr (wg_cel E hw)), goP_pure i1 i2 fun _ _ _ k1 k2 => hm _ _ _ k1 k2⟩
theorem chkW1_ok : ∀ {b : Nat} {f : Frame} {s : List Frame} {bs : List Nat}, chkW1 E.P E.ty b f s = some bs → (∀ b ∈ bs, b = E.Wg) → E.W1 st b (G f (s ++ c :: cs))
  | 0, f, s, bs, h, hb => by
    simp only [chkW1] at h
    obtain ⟨f', s', bs', h1, h2, h3⟩ := vis_ok h hb
    exact ⟨rfl, _, fun w hw => h3 _ _ w (.inr (wg_cel E hw)), goP_pure h1 h2 fun _ _ _ k1 k2 => chkKe_ok hT k1 k2⟩
  | b + 1, f, s, bs, h, hb => by
    simp only [chkW1] at h
    obtain ⟨⟨b1, k1, k2⟩, b2, k3, k4⟩ := both_ok h hb
    obtain ⟨f', s', bs', h1, h2, h3⟩ := vis_ok k1 k2
    refine ⟨rfl, ⟨_, fun w hw => h3 _ _ w (.inr (wg_cel E hw)), goP_pure h1 h2 fun _ _ _ k1 k2 => chkKe_ok hT k1 k2⟩, fun v hv1 hv2 => ?_⟩
    obtain ⟨u, rfl⟩ : ∃ u, v = u + 1 := ⟨v - 1, by omega⟩
    obtain ⟨a, j1, j2⟩ := allL_ok k3 k4 u (List.mem_range.2 (by omega))
    obtain ⟨f2, s2, bs2, i1, i2, i3⟩ := vis_ok j1 j2
    exact ⟨_, fun w hw => i3 _ _ w (.inr (wg_cel E hw)), goP_pure i1 i2 fun _ _ _ k1 k2 => chkW2_ok hT (Miss := E.W1 st b) (fun _ _ _ m1 m2 => chkW1_ok m1 m2) k1 k2⟩
/-- THE CLOSER's 'Wait'. -/
theorem chkWait_ok {f : Frame} {bs : List Nat} (h : chkWait E.P E.ty E.max f = some bs) (hb : ∀ b ∈ bs, b = E.Wg) : E.closes st (G f (c :: cs)) :=
  goP_pure (stk := []) h hb fun _ _ _ k1 k2 => by
    obtain ⟨f', s', bs', h1, h2, h3⟩ := vis_ok k1 k2
    exact ⟨rfl, _, fun w => h3 _ _ w (.inl ⟨rfl, rfl⟩), goP_pure h1 h2 fun _ _ _ k1 k2 => chkW1_ok hT k1 k2⟩
end close

/-- MAIN's 'Add(1)'. -/
theorem chkAdd_ok {L : Nat → Option Obj} {Q : Machine → Outcome → World → Trace → Prop} {os : List ι} {s : St} {c : Frame} {cs : List Frame} {f : Frame} {bs : List Nat} (h : chkAdd E.P E.ty os.length f = some bs) (hb : ∀ b ∈ bs, b = E.Wg) (hmx : os.length < E.max)
    (hT : TC E L Q 1 false os 0 (G (c.finish (.tuple #[])) cs) s) : TC E L Q 0 false os 0 (G f (c :: cs)) s := by
  have hend : ∀ {f : Frame} {stk : List Frame} {bs : List Nat}, vis E.P E.ty noCel true none [(2, 0)] f stk (goR E.P E.ty 300) = some bs → (∀ b ∈ bs, b = E.Wg) → TC E L Q 1 false os 1 (G f (stk ++ c :: cs)) s := by
    intro f stk bs h hb
    obtain ⟨f', s', bs', h1, h2, h3⟩ := vis_ok h hb
    refine tc_sync (pend' := 1) (d' := 0) rfl rfl (fun w st sm hw hz _ => ⟨w, h3 _ _ w (.inl ⟨rfl, rfl⟩), Turned.refl w, by obtain ⟨rfl, rfl⟩ := hz rfl; exact hw⟩) (by intro e he; simp [decE] at he; subst he; exact .inr (.inl rfl)) rfl id ?_
    exact goR_ok (c := c) (cs := cs) h1 true (fun g => TC E L Q 1 false os 0 g s) hT fun g g' hg hg' hst hT' => tc_pure hg (fun w _ => hst w) hT'
  refine goP_tc (stk := []) h hb fun f1 s1 b1 k1 k2 => ?_
  obtain ⟨f', s', bs', h1, h2, h3⟩ := vis_ok k1 k2
  refine tc_sync (pend' := 0) (d' := 1) rfl rfl (fun w st sm hw hz _ => ⟨w, h3 _ _ w (.inl ⟨rfl, rfl⟩), Turned.refl w, by obtain ⟨rfl, rfl⟩ := hz rfl; exact hw⟩) (by intro e he; simp [decE] at he; subst he; exact .inl rfl) rfl id ?_
  refine goP_tc h1 h2 fun f2 s2 b2 k1 k2 => ?_
  obtain ⟨f', s', bs', h1, h2, h3⟩ := vis_ok k1 k2
  refine tc_sync (pend' := 1) (d' := 1) rfl rfl (fun w st sm hw hz _ => ⟨_, h3 _ _ w (.inr ?_), Turned.set w 0 _, ?_⟩) (by
      intro e he; simp [decE] at he
      rcases he with rfl | rfl <;> exact wg_sync 0 _) rfl (fun _ => hmx) ?_
  · obtain ⟨rfl, rfl⟩ := hz rfl
    exact wg_cel E hw
  · obtain ⟨rfl, rfl⟩ := hz rfl
    exact Go.ConcR.WgAt.setSt hw _
  refine goP_tc h1 h2 fun f3 s3 b3 k1 k2 => ?_
  cases hz : Nat.beq os.length 0 with
  | false =>
    rw [hz] at k1; simp only [cond_false] at k1
    exact hend k1 k2
  | true =>
    rw [hz] at k1; simp only [cond_true] at k1
    obtain ⟨f', s', bs', h1, h2, h3⟩ := vis_ok k1 k2
    refine tc_said rfl (fun w hw => h3 _ _ w (.inr (live_cel E hw))) ?_
    exact goP_tc h1 h2 fun f4 s4 b4 k1 k2 => hend k1 k2
end
end Go.L
namespace Go.L
open Go Go.Conc

/-! ### Pieces of code, one behind the other, in one frame -/
def CA (P : Program) : Class := fun main T => Closed P main T
theorem CallOK.anti {P : Program} {C C' : Class} {call : CallT} (hcc : ∀ m T, C' m T → C m T) (h : CallOK C P call) : CallOK C' P call := by
  intro t args m r m' hc ρ args' s F R ha hr g hg1 hg2
  refine tri_mono _ _ _ _ _ _ (fun nx s1 hf => ?_) (fun _ _ hh => hh) (h t args m r m' hc ρ args' s F R ha hr g hg1 hg2)
  cases nx with
  | enter f a => exact fun main T hT => hf main T (hcc _ _ hT)
  | round l f tm as bd => exact fun main T hT => hf main T (hcc _ _ hT)
  | _ => exact hf
def seqs : Code → Nat
  | .seq a b => seqs a + seqs b + 1
  | _ => 0
def flatL (l : List Code) : List Code := l.flatMap flatC

section
variable {P : Program} {main : Bool} {T : Goroutine → St → Prop} {b : Frame} {k : List Item} {cs : List Frame} {a : Act} {s : St} {n LF : Nat} {D : List Deferred} {call : CallT} {ops : Array Oper}
  {ρ : Ren} {ce e : Env} {m : Mem} {F : Nat × Obj → Prop} {R : Nat → Option Obj}

/-- the frame b with this to do: pieces l, then k -/
abbrev On (T : Goroutine → St → Prop) (b : Frame) (a : Act) (l : List Code) (k : List Item) (cs : List Frame) (s : St) : Prop := T (G (fat b a (l.map .code ++ k)) cs) s

theorem flat_next (hT : Closed P main T) {c0 : Code} {rest : List Code} : ∀ {l : List Code}, flatL l = c0 :: rest → (∀ l', flatL l' = rest → T (G (fat b a (.code c0 :: (l'.map .code ++ k))) cs) s) → On T b a l k cs s := by
  intro l
  generalize hn : (l.map seqs).sum = q
  induction q using Nat.strongRecOn generalizing l with
  | _ q ih =>
    intro hl h
    cases l with
    | nil => cases hl
    | cons c l =>
      cases hc : c with
      | seq x y =>
        subst hc
        refine hT.go rfl rfl (g' := G (fat b a ((x :: y :: l).map .code ++ k)) cs) (fun w => by simp [G, stepG, stepG.exec, fat]) ?_
        refine ih ((x :: y :: l).map seqs).sum ?_ rfl ?_ h
        · rw [← hn]; simp [seqs]; omega
        · rw [← hl]; simp [flatL, flatC]
      | _ =>
        subst hc
        simp only [flatL, List.flatMap_cons, flatC, List.singleton_append, List.cons.injEq] at hl
        obtain ⟨rfl, hl⟩ := hl
        exact h l hl

/-- a region -/
theorem on_region (hT : Closed P main T) {id : Nat} {rest l : List Code} (hl : flatL l = .region id ops false :: rest) (h : ∀ l', flatL l' = rest → T (G (fat b a (.inRegion ops (List.range ops.size) :: (l'.map .code ++ k))) cs) s) : On T b a l k cs s :=
  flat_next hT hl fun l' hl' => hT.go rfl rfl (g' := G (fat b a (.inRegion ops (List.range ops.size) :: (l'.map .code ++ k))) cs) (fun w => by simp [G, stepG, stepG.exec, fat]) (h l' hl')
theorem on_cond (hT : Closed P main T) {c : Operand} {x y : Code} {t : Bool} {rest l : List Code} (hl : flatL l = .cond c x y :: rest) (hc : a.eval c = .bool t) (h : ∀ l', flatL l' = rest → T (G (fat b a (.code (if t then x else y) :: (l'.map .code ++ k))) cs) s) : On T b a l k cs s :=
  flat_next hT hl fun l' hl' => hT.go rfl rfl (g' := G (fat b a (.code (if t then x else y) :: (l'.map .code ++ k))) cs) (fun w => by
    have he := fat_eval' b a (.code (.cond c x y) :: (l'.map .code ++ k))
    simp only [fat] at he
    simp only [G, stepG, stepG.exec, fat, he, hc]) (h l' hl')
theorem on_block (hT : Closed P main T) {id : Nat} {c : Code} {rest l : List Code} (hl : flatL l = .block id c :: rest) (h : ∀ l', flatL l' = rest → On T b a [c] (.inBlock id :: (l'.map .code ++ k)) cs s) : On T b a l k cs s :=
  flat_next hT hl fun l' hl' => hT.go rfl rfl (g' := G (fat b a (.code c :: .inBlock id :: (l'.map .code ++ k))) cs) (fun w => by simp [G, stepG, stepG.exec, fat]) (show T (G (fat b a (.code c :: .inBlock id :: (l'.map .code ++ k))) cs) s from h l' hl')
theorem end_block (hT : Closed P main T) {id : Nat} (h : T (G (fat b a k) cs) s) : T (G (fat b a (.inBlock id :: k)) cs) s :=
  hT.go rfl rfl (g' := G (fat b a k) cs) (fun w => by simp [G, stepG, stepG.exec, fat]) h
theorem on_loop (hT : Closed P main T) {c : Code} {rest l : List Code} (hl : flatL l = .loop c :: rest) (h : ∀ l', flatL l' = rest → On T b a [c] (.inLoop c :: (l'.map .code ++ k)) cs s) : On T b a l k cs s :=
  flat_next hT hl fun l' hl' => hT.go rfl rfl (g' := G (fat b a (.code c :: .inLoop c :: (l'.map .code ++ k))) cs) (fun w => by simp [G, stepG, stepG.exec, fat]) (show T (G (fat b a (.code c :: .inLoop c :: (l'.map .code ++ k))) cs) s from h l' hl')
theorem again_loop (hT : Closed P main T) {c : Code} (h : On T b a [c] (.inLoop c :: k) cs s) : T (G (fat b a (.inLoop c :: k)) cs) s :=
  hT.go rfl rfl (g' := G (fat b a (.code c :: .inLoop c :: k)) cs) (fun w => by simp [G, stepG, stepG.exec, fat]) h
theorem do_skip (hT : Closed P main T) (h : T (G (fat b a k) cs) s) : T (G (fat b a (.code .skip :: k)) cs) s :=
  hT.go rfl rfl (g' := G (fat b a k) cs) (fun w => by simp [G, stepG, stepG.exec, fat]) h
theorem do_exit (hT : Closed P main T) {id : Nat} {k' : List Item} (hk : exitTo id k = some k') (h : T (G (fat b a k') cs) s) : T (G (fat b a (.code (.exit id) :: k)) cs) s :=
  hT.go rfl rfl (g' := G (fat b a k') cs) (fun w => by simp [G, stepG, stepG.exec, fat, hk]) h
theorem end_region (hT : Closed P main T) (h : T (G (fat b a k) cs) s) : T (G (fat b a (.inRegion ops [] :: k)) cs) s :=
  hT.go rfl rfl (g' := G (fat b a k) cs) (fun w => by simp [G, stepG, stepG.exec, fat]) h
theorem exit_codes (id : Nat) : ∀ (l : List Code) (k : List Item), exitTo id (l.map .code ++ k) = exitTo id k
  | [], k => rfl
  | c :: l, k => by
    rw [List.map_cons, List.cons_append]
    exact exit_codes id l k

/-- operations that the executor runs, the last of their region -/
theorem run_ops (hT : Closed P main T) (hcall : CallOK (CA P) P call) {l : List Nat} {ce' : Env} {m' : Mem} (h : runOps P call ops n l ce m = some (.done ce' m')) (he : ER ρ ce e) (hr : Rel P ρ m F R s) (hk : b.kind ≠ .early) (hb : b.roundOf = none)
    (hg : ∀ ρ' e' s', Grow ρ m ρ' m' → ER ρ' ce' e' → Rel P ρ' m' F R s' → T (G (fat b (A n e' D) k) cs) s') : T (G (fat b (A n e D) (.inRegion ops l :: k)) cs) s := by
  have hC : ∀ m' T', (fun m T' => m = main ∧ T' = T : Class) m' T' → Closed P m' T' := by rintro _ _ ⟨rfl, rfl⟩; exact hT
  refine runOps_ok (C := fun m T' => m = main ∧ T' = T) (fn := b.fn) (rnd := none) (D := D) (Q := fun e a s => After T b k cs e a s) hC (hcall.anti fun m T' hh => hC m T' hh) l h he hr ⟨fun ce2 m2 hx ρ' e' s' h1 h2 h3 => ?_, fun v ce2 m2 hx => by cases hx⟩ main T ⟨rfl, rfl⟩ b k cs rfl hk hb fun e a' s' q => q
  cases hx
  exact hg ρ' e' s' h1 h2 h3

/-- one operation that yields a value, in one frame -/
theorem op_value (hT : Closed P main T) {i : Nat} {rest : List Nat} {o : Oper} (ho : ops[i]? = some o) (hw : Region.wanted o (yielded ops a.tmps) = true) (hk : b.kind ≠ .early) (hb : b.roundOf = none)
    (h : tri P (execOp a.eval o) s (fun nx s' => ∃ v, nx = .value v ∧ T (G (fat b (a.put o.dst v) (.inRegion ops rest :: k)) cs) s') (fun _ _ => False)) : T (G (fat b a (.inRegion ops (i :: rest) :: k)) cs) s := by
  have hk' : (b.kind == CallKind.early) = false := by simpa using hk
  have hstep : ∀ w, stepG P main (G (fat b a (.inRegion ops (i :: rest) :: k)) cs) w = stepG.apply P true (fat b a (.inRegion ops (i :: rest) :: k)) cs none (execOp a.eval o) w := by
    intro w
    have he := fat_eval' b a (.inRegion ops (i :: rest) :: k)
    simp only [fat] at he
    simp only [G, stepG, stepG.exec, fat, ho, Option.map_some, Option.getD_some, hw, if_true, stepG.oper, Frame.oper?, he]
    rw [hb]
  refine hT.step _ _ rfl fun w hag => ?_
  obtain ⟨r, es, hr, hl⟩ := tri_sound _ _ _ _ w #[] h hag
  rw [Array.empty_append] at hr
  have hap := hstep w
  simp only [stepG.apply, if_true, hr] at hap
  simp only [fat, hk', Bool.false_eq_true, if_false] at hap
  cases r with
  | ok nx w' =>
    obtain ⟨s', ht, v, rfl, hv⟩ := hl
    simp only [GStep.after, Array.append_empty] at hap
    have hfin := fat_finish b a ops i rest k v
    rw [ho] at hfin
    simp only [Option.bind_some] at hfin
    rw [← hfin] at hv
    exact ⟨_, _, _, s', hap, rfl, ht.sub (seen_sub P b.fn es), hv⟩
  | halt hh w' =>
    obtain ⟨s', ht, hu⟩ := hl
    exact hu.elim
theorem wanted_none (o : Oper) (f : Nat → Option Bool) (h : o.guard = none) : Region.wanted o f = true := by unfold Region.wanted; rw [h]
end
end Go.L
namespace Go.L
open Go Go.Conc

/-! ### All that one owns is only known from now on; and is owned again -/
def St.freeze (s : St) : St := ⟨fun b => match s.rw.find? (fun x => x.1 == b) with
  | some x => some x.2
  | none => s.ro b, []⟩
theorem find_mem {l : List (Nat × Obj)} {b : Nat} {x : Nat × Obj} (h : l.find? (fun x => x.1 == b) = some x) : x ∈ l ∧ x.1 = b :=
  ⟨List.mem_of_find?_eq_some h, by simpa using List.find?_some h⟩
theorem find_of_mem {l : List (Nat × Obj)} (hn : (l.map (·.1)).Nodup) {b : Nat} {o : Obj} (h : (b, o) ∈ l) : l.find? (fun x => x.1 == b) = some (b, o) := by
  induction l with
  | nil => cases h
  | cons y l ih =>
    rw [List.map_cons, List.nodup_cons] at hn
    rcases List.mem_cons.1 h with rfl | h'
    · simp
    · have : y.1 ≠ b := fun e => hn.1 (e ▸ List.mem_map.2 ⟨_, h', rfl⟩)
      rw [List.find?_cons_of_neg (by simpa using this)]
      exact ih hn.2 h'
theorem St.freeze_le (s : St) : s.freeze.le s := by
  refine ⟨s.rw, by simp [St.freeze], fun b o h => ?_⟩
  simp only [St.freeze] at h
  split at h
  · rename_i x hx
    obtain ⟨h1, h2⟩ := find_mem hx
    cases h
    subst h2
    exact .inr h1
  · exact .inl h
theorem St.freeze_ro {s : St} {b : Nat} {o : Obj} (h : s.ro b = some o) (ha : ∀ b o, (b, o) ∈ s.rw → s.ro b = none) : s.freeze.ro b = some o := by
  simp only [St.freeze]
  split
  · rename_i x hx
    obtain ⟨h1, h2⟩ := find_mem hx
    subst h2
    rw [ha x.1 x.2 h1] at h; cases h
  · exact h
theorem St.freeze_rw {s : St} {b : Nat} {o : Obj} (h : (b, o) ∈ s.rw) (hn : (s.rw.map (·.1)).Nodup) : s.freeze.ro b = some o := by
  simp only [St.freeze, find_of_mem hn h]
theorem St.freeze_ge {s : St} {b : Nat} (h : s.ro b ≠ none) : s.freeze.ro b ≠ none := by
  simp only [St.freeze]
  split
  · simp
  · exact h

theorem freezeT_get : ∀ (t : Tr CB) (i : Nat), (freezeT t).get i = (t.get i).map fun c => ⟨true, c.o⟩
  | .nil, i => rfl
  | .node v l r, i => by
    simp only [freezeT, Tr.get]
    cases Nat.beq i 0 with
    | true => cases v <;> rfl
    | false =>
      simp only [cond_false]
      cases Nat.beq (i % 2) 1 with
      | true => exact freezeT_get l _
      | false => exact freezeT_get r _

section
variable {P : Program} {ρ : Ren} {m : Mem} {F : Nat × Obj → Prop} {R : Nat → Option Obj} {s : St}

/-- there is a world in which the knowledge is right (else any own step would do) -/
theorem Closed.agr {main : Bool} {T : Goroutine → St → Prop} (hT : Closed P main T) {g : Goroutine} (hs : g.status = .running) (h : (∃ w, Agrees s w) → T g s) : T g s := by
  by_cases ha : ∃ w, Agrees s w
  · exact h ha
  · exact hT.step _ _ hs fun w hw => absurd ⟨w, hw⟩ ha

/-- frozen, but for the blocks 'out' (which stay whose they are) -/
theorem Rel.freeze (h : Rel P ρ m F R s) (ha : ∃ w, Agrees s w) {rw : List (Nat × Obj)} (hsub : ∀ x ∈ rw, x ∈ s.rw) (hnd : (rw.map (·.1)).Nodup) (hin : ∀ i c b k o, m.t.get i = some c → c.ro = false → ρ i = some (b, k) → (b, o) ∈ s.rw → (b, o) ∈ rw) :
    Rel P ρ m.freeze (fun _ => False) (St.freeze ⟨s.ro, rw⟩).ro (St.freeze ⟨s.ro, rw⟩) := by
  obtain ⟨w, hw⟩ := ha
  have hget : ∀ {i c}, m.freeze.t.get i = some c → ∃ c0, m.t.get i = some c0 ∧ c = ⟨true, c0.o⟩ := by
    intro i c hc
    simp only [Mem.freeze, freezeT_get] at hc
    obtain ⟨c0, h0, rfl⟩ := Option.map_eq_some_iff.1 hc
    exact ⟨c0, h0, rfl⟩
  refine ⟨h.len, h.fits, fun i hi => ?_, fun i c hi => ?_, fun i j ci cj b k1 k2 h1 h2 r1 => ?_, fun _ hx => hx.elim, fun _ _ _ _ _ _ _ _ hx => hx, rfl⟩
  · have := h.out i hi
    simp only [Mem.freeze, freezeT_get, this, Option.map_none]
  · obtain ⟨c0, h0, rfl⟩ := hget hi
    obtain ⟨b, k, o', k1, k2, k3, k4⟩ := h.blk i c0 h0
    refine ⟨b, k, o', k1, k2, k3, ?_⟩
    simp only [if_true]
    cases hc : c0.ro with
    | true =>
      rw [hc, if_pos rfl] at k4
      exact St.freeze_ro (s := ⟨s.ro, rw⟩) k4 fun b o hb => hw.apart b o (hsub _ hb)
    | false =>
      rw [hc, if_neg (by simp)] at k4
      exact St.freeze_rw (s := ⟨s.ro, rw⟩) (hin i c0 b k o' h0 hc k1 k4) hnd
  · obtain ⟨c0, _, rfl⟩ := hget h1; cases r1

theorem Rel.mono_F {F' : Nat × Obj → Prop} (h : Rel P ρ m F R s) (hF : ∀ x, F' x → F x) : Rel P ρ m F' R s :=
  ⟨h.len, h.fits, h.out, h.blk, h.inj, fun x hx => h.frame x (hF x hx), fun i c b k o h1 h2 h3 h4 => h.apart i c b k o h1 h2 h3 (hF _ h4), h.ro⟩

/-- a new block that is kept aside -/
theorem Rel.aside (h : Rel P ρ m F R s) (hm : m.more = true) {b : Nat} {o : Obj} (hb : ¬ s.knows b) : Rel P (ρ.put m.next (b, 0)) m.skip (fun x => F x ∨ x = (b, o)) R ⟨s.ro, (b, o) :: s.rw⟩ := by
  have hlt : m.next + 1 < 2 ^ depthT := by simpa [Mem.more, Nat.blt_eq] using hm
  have hne : ∀ {i c}, m.t.get i = some c → i ≠ m.next := fun {i c} hi e => by rw [e, h.out _ (Nat.le_refl _)] at hi; cases hi
  refine ⟨fun i hi => ?_, hlt, fun i hi => h.out i (Nat.le_of_succ_le hi), fun i c hi => ?_, fun i j ci cj b1 k1 k2 h1 h2 r1 r2 e1 e2 => ?_, fun x hx => ?_, fun i c b1 k o1 hi hc hr hF => ?_, h.ro⟩
  · have hi : m.next + 1 ≤ i := hi
    rw [Ren.put_ne _ _ (by omega)]; exact h.len i (by omega)
  · obtain ⟨b1, k, o', k1, k2, k3, k4⟩ := h.blk i c hi
    refine ⟨b1, k, o', by rw [Ren.put_ne _ _ (hne hi)]; exact k1, k2.up (Ren.le_put _ h.fresh), k3, ?_⟩
    cases hc : c.ro with
    | true => rw [hc] at k4; simpa using k4
    | false => rw [hc] at k4; simp at k4 ⊢; exact .inr k4
  · rw [Ren.put_ne _ _ (hne h1)] at e1
    rw [Ren.put_ne _ _ (hne h2)] at e2
    exact h.inj i j ci cj b1 k1 k2 h1 h2 r1 r2 e1 e2
  · rcases hx with hx | rfl
    · exact List.mem_cons_of_mem _ (h.frame x hx)
    · exact List.mem_cons_self
  · have hi' : m.t.get i = some c := hi
    rw [Ren.put_ne _ _ (hne hi')] at hr
    rcases hF with hF | hF
    · exact h.apart i c b1 k o1 hi' hc hr hF
    · cases hF
      obtain ⟨b2, k2, o2, j1, _, _, j4⟩ := h.blk i c hi'
      rw [hr] at j1; cases j1
      rw [hc] at j4
      exact hb (.inr ⟨o2, by simpa using j4⟩)

/-- a block of one's own is given away -/
theorem Rel.give (h : Rel P ρ m F R s) {i : Nat} {co : CObj} (hi : m.t.get i = some ⟨false, co⟩) {b k : Nat} {o' : Obj} {L Rr : List (Nat × Obj)} (hb : ρ i = some (b, k)) (hs : s.rw = L ++ (b, o') :: Rr) : Rel P ρ (m.del i) F R ⟨s.ro, L ++ Rr⟩ := by
  have hlt := h.lt hi
  have hd := h.del hlt
  have hg : ∀ j, (m.del i).t.get j = if j = i then none else m.t.get j := fun j => Tr.get_put _ _ _ _ (Nat.lt_trans hlt h.fits) j
  refine ⟨hd.len, hd.fits, hd.out, fun j c hj => ?_, hd.inj, fun x hx => ?_, hd.apart, hd.ro⟩
  · obtain ⟨b1, k1, o1, j1, j2, j3, j4⟩ := hd.blk j c hj
    refine ⟨b1, k1, o1, j1, j2, j3, ?_⟩
    cases hc : c.ro with
    | true => rw [hc, if_pos rfl] at j4; simpa using j4
    | false =>
      rw [hc, if_neg (by simp)] at j4
      simp only [Bool.false_eq_true, if_false]
      rw [hg] at hj
      by_cases e : j = i
      · rw [if_pos e] at hj; cases hj
      rw [if_neg e] at hj
      have hne : b1 ≠ b := fun e1 => by subst e1; exact e (h.inj j i c _ b1 k1 k hj hi hc rfl j1 hb)
      rw [hs] at j4
      simp only [List.mem_append, List.mem_cons, Prod.mk.injEq] at j4 ⊢
      rcases j4 with j4 | ⟨e1, _⟩ | j4
      · exact .inl j4
      · exact absurd e1 hne
      · exact .inr j4
  · have := h.frame x hx
    rw [hs] at this
    simp only [List.mem_append, List.mem_cons] at this ⊢
    rcases this with h1 | rfl | h1
    · exact .inl h1
    · exact absurd hx (h.apart i _ b k _ hi rfl hb)
    · exact .inr h1
end

/-! ### What was lent is owned again -/
def thawB (mK : Mem) : Nat → Nat → Tr CB → Tr CB
  | 0, _, t => t
  | c + 1, i, t => thawB mK c (i + 1) (match mK.t.get i with
    | some ⟨false, o⟩ => t.put depthT i (some ⟨false, o⟩)
    | _ => t.put depthT i none)
def thaw (m2 mK : Mem) : Mem := ⟨thawB mK (mK.next - m2.next) m2.next m2.t, mK.next⟩
def ownB : Option CB → Option CB
  | some ⟨false, o⟩ => some ⟨false, o⟩
  | _ => none
theorem thawB_get {mK : Mem} : ∀ (c i : Nat) (t : Tr CB), i + c ≤ 2 ^ depthT → ∀ j, (thawB mK c i t).get j = if i ≤ j ∧ j < i + c then ownB (mK.t.get j) else t.get j
  | 0, i, t, _, j => by simp only [thawB]; rw [if_neg (by omega)]
  | c + 1, i, t, h, j => by
    simp only [thawB]
    rw [thawB_get c (i + 1) _ (by omega) j]
    have key : ∀ x, (match mK.t.get i with
      | some ⟨false, o⟩ => t.put depthT i (some ⟨false, o⟩)
      | _ => t.put depthT i none).get x = if x = i then ownB (mK.t.get i) else t.get x := by
      intro x
      rcases hx : mK.t.get i with _ | ⟨_ | _, o⟩
      · exact Tr.get_put _ _ _ _ (by omega) x
      · exact Tr.get_put _ _ _ _ (by omega) x
      · exact Tr.get_put _ _ _ _ (by omega) x
    by_cases h1 : i + 1 ≤ j ∧ j < i + 1 + c
    · rw [if_pos h1, if_pos (by omega)]
    · rw [if_neg h1, key]
      by_cases e : j = i
      · subst e; rw [if_pos rfl, if_pos (by omega)]
      · rw [if_neg e, if_neg (by omega)]
theorem ownB_some {x : Option CB} {c : CB} (h : ownB x = some c) : x = some c ∧ c.ro = false := by
  unfold ownB at h
  split at h
  · cases h; exact ⟨rfl, rfl⟩
  · cases h
theorem Rel.thaw {P : Program} {ρ2 ρK : Ren} {m2 mK : Mem} {F F2 : Nat × Obj → Prop} {R RK : Nat → Option Obj} {s2 sK : St} {rwX : List (Nat × Obj)} (h2 : Rel P ρ2 m2 F2 R s2) (hK : Rel P ρK mK (fun _ => False) RK sK) (hg : Grow ρ2 m2 ρK mK)
    (haK : ∃ w, Agrees sK w) (hro : ∀ b o, (b, o) ∈ rwX → RK b ≠ none) (hin : ∀ i c b k o, m2.t.get i = some c → c.ro = false → ρ2 i = some (b, k) → (b, o) ∈ s2.rw → (b, o) ∈ rwX) (hF : ∀ x, F x → F2 x ∧ x ∈ rwX) :
    Rel P ρK (L.thaw m2 mK) F R ⟨R, sK.rw ++ rwX⟩ := by
  obtain ⟨w, hw⟩ := haK
  have hget : ∀ j, (L.thaw m2 mK).t.get j = if m2.next ≤ j ∧ j < mK.next then ownB (mK.t.get j) else m2.t.get j := fun j => by
    simp only [L.thaw]
    rw [thawB_get _ _ _ (by have := hK.fits; have := hg.next; omega)]
    have := hg.next
    by_cases e : m2.next ≤ j ∧ j < mK.next
    · rw [if_pos e, if_pos (by omega)]
    · rw [if_neg e, if_neg (by omega)]
  have hcase : ∀ {j c}, (L.thaw m2 mK).t.get j = some c → (m2.next ≤ j ∧ mK.t.get j = some c ∧ c.ro = false) ∨ (j < m2.next ∧ m2.t.get j = some c) := by
    intro j c hj
    rw [hget] at hj
    by_cases e : m2.next ≤ j ∧ j < mK.next
    · rw [if_pos e] at hj
      exact .inl ⟨e.1, ownB_some hj⟩
    · rw [if_neg e] at hj
      exact .inr ⟨h2.lt hj, hj⟩
  have hold : ∀ {j c}, m2.t.get j = some c → ∃ b k o', ρ2 j = some (b, k) ∧ ρK j = some (b, k) ∧ OR ρ2 c.o o' ∧ Room P k c.o o' ∧ (if c.ro = true then s2.ro b = some o' else (b, o') ∈ s2.rw) := by
    intro j c hj
    obtain ⟨b, k, o', k1, k2, k3, k4⟩ := h2.blk j c hj
    exact ⟨b, k, o', k1, hg.le _ _ k1, k2, k3, k4⟩
  have hsep : ∀ b o o', (b, o) ∈ sK.rw → (b, o') ∈ rwX → False := fun b o o' h1 h3 => by
    have := hw.apart b o h1
    rw [hK.ro] at this
    exact hro b o' h3 this
  refine ⟨hK.len, hK.fits, fun i hi => ?_, fun i c hi => ?_, fun i j ci cj b k1 k2 h1 h3 r1 r2 e1 e2 => ?_, fun x hx => List.mem_append_right _ (hF x hx).2, fun i c b k o hi hc hr hFx => ?_, rfl⟩
  · have hi : mK.next ≤ i := hi
    rw [hget, if_neg (by omega)]
    exact h2.out i (by have := hg.next; omega)
  · rcases hcase hi with ⟨_, h1, h3⟩ | ⟨_, h1⟩
    · obtain ⟨b, k, o', k1, k2, k3, k4⟩ := hK.blk i c h1
      rw [h3, if_neg (by simp)] at k4
      exact ⟨b, k, o', k1, k2, k3, by rw [h3, if_neg (by simp)]; exact List.mem_append_left _ k4⟩
    · obtain ⟨b, k, o', k0, k1, k2, k3, k4⟩ := hold h1
      refine ⟨b, k, o', k1, k2.up hg.le, k3, ?_⟩
      cases hc : c.ro with
      | true => rw [hc, if_pos rfl] at k4; rw [if_pos rfl, ← h2.ro]; exact k4
      | false => rw [hc, if_neg (by simp)] at k4; rw [if_neg (by simp)]; exact List.mem_append_right _ (hin i c b k o' h1 hc k0 k4)
  · rcases hcase h1 with ⟨_, a1, _⟩ | ⟨_, a1⟩ <;> rcases hcase h3 with ⟨_, a2, _⟩ | ⟨_, a2⟩
    · exact hK.inj i j ci cj b k1 k2 a1 a2 r1 r2 e1 e2
    · obtain ⟨b', k', o', c0, c1, c2, c3, c4⟩ := hold a2
      rw [e2] at c1; cases c1
      rw [r2, if_neg (by simp)] at c4
      obtain ⟨b'', k'', o'', d1, _, _, d4⟩ := hK.blk i ci a1
      rw [e1] at d1; cases d1
      rw [r1, if_neg (by simp)] at d4
      exact (hsep b o'' o' d4 (hin j cj b k2 o' a2 r2 c0 c4)).elim
    · obtain ⟨b', k', o', c0, c1, c2, c3, c4⟩ := hold a1
      rw [e1] at c1; cases c1
      rw [r1, if_neg (by simp)] at c4
      obtain ⟨b'', k'', o'', d1, _, _, d4⟩ := hK.blk j cj a2
      rw [e2] at d1; cases d1
      rw [r2, if_neg (by simp)] at d4
      exact (hsep b o'' o' d4 (hin i ci b k1 o' a1 r1 c0 c4)).elim
    · obtain ⟨_, _, _, c0, c1, _⟩ := hold a1
      obtain ⟨_, _, _, d0, d1, _⟩ := hold a2
      rw [e1] at c1; rw [e2] at d1
      cases c1; cases d1
      exact h2.inj i j ci cj b k1 k2 a1 a2 r1 r2 c0 d0
  · obtain ⟨hF2, hX⟩ := hF _ hFx
    rcases hcase hi with ⟨_, a1, a2⟩ | ⟨_, a1⟩
    · obtain ⟨b', k', o', c1, _, _, c4⟩ := hK.blk i c a1
      rw [hr] at c1; cases c1
      rw [hc, if_neg (by simp)] at c4
      exact hsep b o' o c4 hX
    · obtain ⟨_, _, _, c0, c1, _⟩ := hold a1
      rw [hr] at c1; cases c1
      exact h2.apart i c b k o a1 hc c0 hF2
end Go.L
namespace Go.L
open Go Go.Conc
open Go.ConcR (KK wgBlock WgAt stA smA rd wr)

section
variable {P : Program} {main : Bool} {T : Goroutine → St → Prop} {b : Frame} {k : List Item} {cs : List Frame} {a : Act} {s : St} {n LF : Nat} {D : List Deferred} {call : CallT} {ops : Array Oper}
  {ρ : Ren} {ce e : Env} {m : Mem} {F : Nat × Obj → Prop} {R : Nat → Option Obj}

/-- a piece that the executor runs, in one frame -/
theorem run_code (hT : Closed P main T) (hm : P.follows .mixedOrders = true) (hcall : CallOK (CA P) P call) {c : Code} {ds ds' : List CD} {ce' : Env} {m' : Mem} (h : execC P call b.fn true n LF c ce m ds = some [⟨.normal, ce', m', ds'⟩]) (he : ER ρ ce e) (hd : DRs ρ ds D) (hr : Rel P ρ m F R s) (hk : b.kind ≠ .early) (hb : b.roundOf = none)
    (hg : ∀ ρ' e' D' s', Grow ρ m ρ' m' → ER ρ' ce' e' → DRs ρ' ds' D' → Rel P ρ' m' F R s' → T (G (fat b (A n e' D') k) cs) s') : T (G (fat b (A n e D) (.code c :: k)) cs) s := by
  have hC : ∀ m' T', (fun m T' => m = main ∧ T' = T : Class) m' T' → Closed P m' T' := by rintro _ _ ⟨rfl, rfl⟩; exact hT
  refine execC_ok (C := fun m T' => m = main ∧ T' = T) (fn := b.fn) (rnd := none) (Q := fun e a s => After T b k cs e a s) hC hm (hcall.anti fun m T' hh => hC m T' hh) (fun _ => rfl) c h he hd hr (fun r hr0 => ?_) main T ⟨rfl, rfl⟩ b k cs rfl hk hb fun e a' s' q => q
  rw [List.mem_singleton] at hr0; subst hr0
  refine ⟨fun x ρ' e' D' s' hx h1 h2 h3 h4 => ?_, fun v hv => by cases hv⟩
  cases hx
  exact hg ρ' e' D' s' h1 h2 h3 h4
def runCs (P : Program) (call : CallT) (fid : FuncId) (n LF : Nat) : List Code → Env → Mem → List CD → Option (Env × Mem × List CD)
  | [], ce, m, ds => some (ce, m, ds)
  | c :: l, ce, m, ds => match execC P call fid true n LF c ce m ds with
    | some [⟨.normal, ce', m', ds'⟩] => runCs P call fid n LF l ce' m' ds'
    | _ => none
theorem run_codes (hT : Closed P main T) (hm : P.follows .mixedOrders = true) (hcall : CallOK (CA P) P call) (hk : b.kind ≠ .early) (hb : b.roundOf = none) : ∀ {cl rest l : List Code} {ds ds' : List CD} {ce ce' e : Env} {m m' : Mem} {D : List Deferred} {s : St} {ρ : Ren},
    runCs P call b.fn n LF cl ce m ds = some (ce', m', ds') → flatL l = cl ++ rest → ER ρ ce e → DRs ρ ds D → Rel P ρ m F R s →
    (∀ l' ρ' e' D' s', flatL l' = rest → Grow ρ m ρ' m' → ER ρ' ce' e' → DRs ρ' ds' D' → Rel P ρ' m' F R s' → On T b (A n e' D') l' k cs s') → On T b (A n e D) l k cs s
  | [], rest, l, ds, ds', ce, ce', e, m, m', D, s, ρ, h, hl, he, hd, hr, hg => by
    simp only [runCs, Option.some.injEq, Prod.mk.injEq] at h
    obtain ⟨rfl, rfl, rfl⟩ := h
    exact hg l ρ e D s hl (Grow.refl _ _) he hd hr
  | c :: cl, rest, l, ds, ds', ce, ce', e, m, m', D, s, ρ, h, hl, he, hd, hr, hg => by
    simp only [runCs] at h
    split at h <;> try (cases h; done)
    rename_i ce1 m1 ds1 h1
    refine flat_next hT (c0 := c) (rest := cl ++ rest) hl fun l' hl' => ?_
    refine run_code hT hm hcall h1 he hd hr hk hb fun ρ1 e1 D1 s1 g1 he1 hd1 hr1 => ?_
    exact run_codes hT hm hcall hk hb h hl' he1 hd1 hr1 fun l2 ρ2 e2 D2 s2 h2 g2 he2 hd2 hr2 => hg l2 ρ2 e2 D2 s2 h2 (g1.trans g2) he2 hd2 hr2

/-- operations that only yield values, the first of their region -/
def plainOp (o : Oper) : Bool := notDefer o.op && o.guard.isNone
def valsX (P : Program) (ops : Array Oper) (n : Nat) (m : Mem) : List Nat → Env → Option Env
  | [], ce => some ce
  | i :: l, ce => match ops[i]? with
    | some o => bif plainOp o then (match valV P n ce m o with
      | some v => valsX P ops n m l (updc o.dst v ce)
      | none => none) else none
    | none => none
theorem run_vals (hT : Closed P main T) (hk : b.kind ≠ .early) (hb : b.roundOf = none) (hr : Rel P ρ m F R s) {rest : List Nat} : ∀ {l : List Nat} {ce ce' e : Env}, valsX P ops n m l ce = some ce' → ER ρ ce e →
    (∀ e', ER ρ ce' e' → T (G (fat b (A n e' D) (.inRegion ops rest :: k)) cs) s) → T (G (fat b (A n e D) (.inRegion ops (l ++ rest) :: k)) cs) s
  | [], ce, ce', e, h, he, hg => by
    simp only [valsX, Option.some.injEq] at h; subst h
    exact hg e he
  | i :: l, ce, ce', e, h, he, hg => by
    simp only [valsX] at h
    split at h <;> try (cases h; done)
    rename_i o ho
    cases hp : plainOp o with
    | false => rw [hp] at h; cases h
    | true =>
    rw [hp] at h; simp only [cond_true] at h
    simp only [plainOp, Bool.and_eq_true] at hp
    split at h <;> try (cases h; done)
    rename_i v hv
    obtain ⟨v', k1, k2⟩ := val_ok he hr hv
    refine op_value hT ho (wanted_none o _ (by simpa using hp.2)) hk hb ?_
    rw [A_eval]
    refine k2 s (Ext.refl s) _ (fun _ _ h => ev_of h) _ _ ⟨v', rfl, ?_⟩
    rw [A_put, updc_A]
    exact run_vals hT hk hb hr h (he.updc o.dst k1) hg

/-- a call of a function: it is entered -/
theorem op_enter (hT : Closed P main T) {i : Nat} {rest : List Nat} {o : Oper} (ho : ops[i]? = some o) (hg : o.guard = none) (hk : b.kind ≠ .early) (hb : b.roundOf = none) {f : FuncId} {xs : Array Operand} {ats : Array TypeId} (hop : o.op = .call ⟨.value (.func f), xs, ats⟩) (hf : FF P f)
    (h : T (G (Frame.enter P f (xs.map a.eval) .normal) (fat b a (.inRegion ops (i :: rest) :: k) :: cs)) s) : T (G (fat b a (.inRegion ops (i :: rest) :: k)) cs) s := by
  have hk' : (b.kind == CallKind.early) = false := by simpa using hk
  have hw : Region.wanted o (yielded ops a.tmps) = true := wanted_none o _ hg
  have htri : tri P (execOp a.eval o) s (fun nx s' => nx = .enter f (xs.map a.eval) ∧ s' = s) (fun _ _ => False) := by
    have e1 : a.eval (.func f) = .func (.func f) #[] #[] := rfl
    simp only [execOp, hop, resolve, e1, Deferred.ofValue, t_bind, t_pure, invoke]
    have : (#[] ++ xs.map a.eval : Array Value) ++ #[] = xs.map a.eval := by simp
    rw [this]
    exact t_callFunc hf ⟨rfl, rfl⟩
  have hstep : ∀ w, stepG P main (G (fat b a (.inRegion ops (i :: rest) :: k)) cs) w = stepG.apply P true (fat b a (.inRegion ops (i :: rest) :: k)) cs none (execOp a.eval o) w := by
    intro w
    have he := fat_eval' b a (.inRegion ops (i :: rest) :: k)
    simp only [fat] at he
    simp only [G, stepG, stepG.exec, fat, ho, Option.map_some, Option.getD_some, hw, if_true, stepG.oper, Frame.oper?, he]
    rw [hb]
  refine hT.step _ _ rfl fun w hag => ?_
  obtain ⟨r, es, hr, hl⟩ := tri_sound _ _ _ _ w #[] htri hag
  rw [Array.empty_append] at hr
  have hap := hstep w
  simp only [stepG.apply, if_true, hr] at hap
  simp only [fat, hk', Bool.false_eq_true, if_false] at hap
  cases r with
  | ok nx w' =>
    obtain ⟨s', ht, rfl, rfl⟩ := hl
    simp only [GStep.after, Array.append_empty] at hap
    exact ⟨_, _, _, _, hap, rfl, ht.sub (seen_sub P b.fn es), h⟩
  | halt hh w' =>
    obtain ⟨s', ht, hu⟩ := hl
    exact hu.elim

/-! ### The lowest frame of a goroutine that a go statement made -/
def pseudo (P : Program) : Frame := { (default : Frame) with fn := P.funcs.size, defers := [], mode := .panicking [goexitEntry] }
theorem pseudo_ends (P : Program) : QuitsD P 1 0 (G (pseudo P) []) := by
  have hc : (pseudo P).catches P = false := by
    simp [Frame.catches, pseudo]
    rfl
  refine .ctl (g' := { (G (pseudo P) []) with status := .finished }) rfl (fun w => ?_) ⟨rfl, rfl⟩
  have hst : stepG P false (G (pseudo P) []) w = unwind P false (pseudo P) [] none w := rfl
  rw [hst]
  unfold unwind
  have h1 : (pseudo P).defers = [] := rfl
  have h2 : (pseudo P).mode = .panicking [goexitEntry] := rfl
  simp only [h1, h2, hc, Bool.false_eq_true, if_false]
  simp [goexitEntry, G]
/-- a frame called by it that is on its way out, nothing put off -/
theorem leaves_pseudo {fr : Frame} {fn : Func} (hm : fr.mode = .returning) (hd : fr.defers = []) (hk : fr.kind = .deferred) (hf : P.funcs[fr.fn]? = some fn) (hr : fn.results = #[]) : QuitsD P 2 0 (G fr [pseudo P]) := by
  refine .ctl rfl (fun w => ?_) (pseudo_ends P)
  have h1 : ∀ tm, results fn tm = Sem.pure (.tuple #[]) := by intro tm; simp [results, hr]; rfl
  rcases fr with ⟨fn', tmps, todo, defers, mode, kind, ro⟩
  simp only at hm hd hk hf
  subst hm hd hk
  simp only [G, stepG, unwind, hf, h1, Sem.runT, seen_none, GStep.after, doReturn, pseudo, goexitEntry, Array.append_empty]
end
end Go.L
namespace Go.L
open Go Go.Conc
open Go.ConcR (KK wgBlock WgAt stA smA rd wr)

/-! ### A worker: what it sends -/
def SentOK (P : Program) : Own → Value → List (Nat × Obj) → Prop
  | (none, _), v, X => v = .slice none 0 0 ∧ X = []
  | (some (l, t), len), v, X => ∃ b c x, v = .slice (some ⟨b, 0, none⟩) len c ∧ len ≤ c ∧ X = [(b, .cells ⟨l ++ x⟩ t (0, 0))] ∧ Room P c (.cells l t) (.cells ⟨l ++ x⟩ t (0, 0)) ∧ flatAll flat l = true
def crewOf (P : Program) (ty : TypeId) (Wg Ch mx : Nat) (os : Os) (out : Array (Nat × ByteArray)) : Crew Own := ⟨P, ty, Wg, Ch, mx, .slice none 0 0, os, out, SentOK P⟩
structure WorkP where
  f : FuncId
  n : Nat
  cl : List Code
  o7 : Array Oper
  o : Oper
  sc : Operand
  sv : Operand
  done : FuncId
structure WorkP.OK (P : Program) (x : WorkP) : Prop where
  fn : ∃ fn c id, P.funcs[x.f]? = some fn ∧ fn.body = some c ∧ fn.ntmps = x.n ∧ fn.results = #[] ∧ flatC c = x.cl ++ [.region id x.o7 false]
  ff : ffB P x.f = true
  size : x.o7.size = 3
  op : x.o7[2]? = some x.o ∧ x.o.guard = none
  send : ∀ ρ, execOp ρ x.o = Sem.pure (.comm #[{ chan := ρ x.sc, send := some (ρ x.sv), zero := .tuple #[] }] true .send)
  doneF : ffB P x.done = true
def ownX (m : Mem) : Value → Option (Own × Mem)
  | .slice none 0 0 => some ((none, 0), m)
  | .slice (some ⟨i, 0, none⟩) len k => match m.t.get i with
    | some ⟨false, .cells l t⟩ => bif flatAll flat l && Nat.beq k capU then some ((some (l, t), len), m.del i) else none
    | _ => none
  | _ => none
def leaveX (done : FuncId) (w : Nat) : Mem → List CD → Bool
  | m, .mark i :: l => match m.t.get i with
    | some ⟨false, .defer false⟩ => leaveX done w (m.set i (.defer true)) l
    | _ => false
  | _, .call f a ca :: l => bif l.isEmpty && ca.isEmpty then (match a with
    | [.pointer (some ⟨j, 0, none⟩)] => Nat.beq f done && Nat.beq j w
    | _ => false) else false
  | _, [] => false
def workX (P : Program) (x : WorkP) (LF : Nat) (call : CallT) (w ch : Nat) (caps : List Value) (m : Mem) : Option Own :=
  bif Nat.ble caps.length x.n then (match runCs P call x.f x.n LF x.cl (envL 0 caps) m [] with
    | some (ce, m1, ds) => match valsX P x.o7 x.n m1 [0, 1] ce with
      | some ce2 => match evc x.n ce2 x.sc, evc x.n ce2 x.sv with
        | some (.chan (some j)), some v => bif Nat.beq j ch then (match ownX m1 v with
          | some (own, m2) => bif leaveX x.done w m2 ds then some own else none
          | none => none) else none
        | _, _ => none
      | none => none
    | none => none) else none

section
variable {ios : Os} {iout : Array (Nat × ByteArray)} {P : Program} {x : WorkP} {LF : Nat} {call : CallT} {ty : TypeId} {Wg Ch mx : Nat}

theorem flatAll_same {ρ : Ren} : ∀ (l l' : List Value), flatAll flat l = true → VRs ρ l l' → l' = l := by
  intro l
  induction l with
  | nil => intro l' _ h; cases h; rfl
  | cons v l ih =>
    intro l' h hv
    cases hv
    rename_i v' r' h1 h2
    simp only [flatAll, Bool.and_eq_true] at h
    rw [flat_eq h.1 h1, ih r' h.2 h2]

theorem ownX_ok {m m2 : Mem} {v v' : Value} {own : Own} (h : ownX m v = some (own, m2)) {ρ : Ren} {F : Nat × Obj → Prop} {R : Nat → Option Obj} {s : St} (hv : VR ρ v v') (hr : Rel P ρ m F R s) :
    ∃ X Y, s.rw.Perm (X ++ Y) ∧ SentOK P own v' X ∧ Rel P ρ m2 F R ⟨s.ro, Y⟩ := by
  unfold ownX at h
  split at h <;> try (cases h; done)
  · simp only [Option.some.injEq, Prod.mk.injEq] at h
    obtain ⟨rfl, rfl⟩ := h
    cases hv
    exact ⟨[], s.rw, .refl _, ⟨rfl, rfl⟩, hr⟩
  · rename_i i len k
    split at h <;> try (cases h; done)
    rename_i l t hm
    cases hc : (flatAll flat l && Nat.beq k capU) with
    | false => rw [hc] at h; cases h
    | true =>
    rw [hc] at h; simp only [cond_true, Option.some.injEq, Prod.mk.injEq] at h
    obtain ⟨rfl, rfl⟩ := h
    simp only [Bool.and_eq_true] at hc
    have hk := Nat.eq_of_beq_eq_true hc.2
    subst hk
    obtain ⟨b, c, o', L, Rr, hb, hor, hroom, hs⟩ := hr.split hm
    have key : v' = .slice (some ⟨b, 0, none⟩) len c ∧ len ≤ c := by
      cases hv with
      | slice _ b' c' _ _ _ h1 h2 => exact absurd h2 (by simp [capU, capL])
      | sliceU _ b' c' _ _ _ h1 h2 h3 h4 =>
        rw [hb] at h1; cases h1
        refine ⟨by simp, by omega⟩
    obtain ⟨rfl, hle⟩ := key
    cases hor
    rename_i l' x' hl
    have := flatAll_same _ _ hc.1 hl
    subst this
    refine ⟨[(b, .cells ⟨l' ++ x'⟩ t (0, 0))], L ++ Rr, ?_, ⟨b, c, x', rfl, hle, rfl, hroom, hc.1⟩, hr.give hm hb hs⟩
    rw [hs]
    exact List.perm_middle

theorem leave_ok {E : Crew Own} {fn : Func} (hE : E.P = P) (hf : P.funcs[x.f]? = some fn) (hres : fn.results = #[]) (hdf : ffB P x.done = true) {bs : List Nat} (hdone : chkDone E.P E.ty E.max (Frame.enter P x.done #[.pointer (some ⟨E.Wg, 0, none⟩)] .deferred) = some bs) (hbs : ∀ b ∈ bs, b = E.Wg)
    {w : Nat} : ∀ (ds : List CD) {m : Mem} {fr : Frame} {D : List Deferred} {ρ : Ren} {F : Nat × Obj → Prop} {R : Nat → Option Obj} {s : St}, leaveX x.done w m ds = true → fr.mode = .returning → fr.defers = D → fr.fn = x.f → fr.kind = .deferred → DRs ρ ds D → Rel P ρ m F R s → (∃ c, ρ w = some (E.Wg, c)) →
    Treads P false E.Back (G fr [pseudo P]) s
  | .mark i :: ds, m, fr, D, ρ, F, R, s, h, h1, h2, h3, h4, hd, hr, hw => by
    simp only [leaveX] at h
    split at h <;> try (cases h; done)
    rename_i hmi
    cases hd
    rename_i b c l' hb hd
    obtain ⟨b2, c2, o', L, Rr, hb2, hor, hroom, hs⟩ := hr.split hmi
    rw [hb] at hb2; cases hb2
    cases hor
    refine unwind_mark (C := CA P) (fun _ _ h => h) (treads_closed P false E.Back) (.inl h1) h2 (by simpa using hs) ?_
    have hset := hr.set hmi hb hs (.defer true) trivial
    exact leave_ok hE hf hres hdf hdone hbs ds (fr := { fr with defers := l' }) h h1 rfl h3 h4 hd (by simpa using hset) hw
  | .call f a ca :: l, m, fr, D, ρ, F, R, s, h, h1, h2, h3, h4, hd, hr, hw => by
    simp only [leaveX] at h
    cases hle : (l.isEmpty && ca.isEmpty) with
    | false => rw [hle] at h; cases h
    | true =>
    rw [hle] at h; simp only [cond_true] at h
    simp only [Bool.and_eq_true, List.isEmpty_iff] at hle
    obtain ⟨rfl, rfl⟩ := hle
    split at h <;> try (cases h; done)
    rename_i j
    simp only [Bool.and_eq_true] at h
    have e1 := Nat.eq_of_beq_eq_true h.1
    have e2 := Nat.eq_of_beq_eq_true h.2
    subst e1 e2
    cases hd
    rename_i a' ca' l' ha hca hd
    cases hd
    cases hca
    cases ha
    rename_i v' r' hv hr'
    cases hr'
    cases hv
    rename_i b c hb
    obtain ⟨c', hw⟩ := hw
    rw [hb] at hw; cases hw
    refine deferred_step (C := CA P) (fun _ _ h => h) (treads_closed P false E.Back) (.inl h1) (ffB_ok hdf) h2 ?_
    refine Treads.stop ?_
    subst hE
    have hq : QuitsD E.P 2 0 (G { fr with defers := [] } [pseudo E.P]) := leaves_pseudo h1 rfl h4 (by rw [h3]; exact hf) hres
    exact chkDone_ok (c := { fr with defers := [] }) (.inl h1) hq hdone hbs
  | [], m, fr, D, ρ, F, R, s, h, _, _, _, _, _, _, _ => by cases h

/-- A WORKER comes to its send, and sends what the executor says. -/
theorem work_ok (hx : x.OK P) (hm : P.follows .mixedOrders = true) (hcall : CallOK (CA P) P call) {bs : List Nat} (hdone : chkDone P ty mx (Frame.enter P x.done #[.pointer (some ⟨Wg, 0, none⟩)] .deferred) = some bs) (hbs : ∀ b ∈ bs, b = Wg)
    {ρ : Ren} {w ch c1 c2 : Nat} (hw : ρ w = some (Wg, c1)) (hch : ρ ch = some (Ch, c2)) {caps caps' : List Value} {m : Mem} {own : Own} (h : workX P x LF call w ch caps m = some own) (ha : VRs ρ caps caps') {F : Nat × Obj → Prop} {R : Nat → Option Obj} {s : St} (hr : Rel P ρ m F R s) :
    Treads P false ((crewOf P ty Wg Ch mx ios iout).Send own) (born P { target := .fn (.func x.f) ⟨caps'⟩, args := #[] }) s := by
  obtain ⟨fn, c, id, hf, hb, hn, hres, hfl⟩ := hx.fn
  unfold workX at h
  cases hle : Nat.ble caps.length x.n with
  | false => rw [hle] at h; cases h
  | true =>
  rw [hle] at h; simp only [cond_true] at h
  split at h <;> try (cases h; done)
  rename_i ce m1 ds h1
  split at h <;> try (cases h; done)
  rename_i ce2 h2
  split at h <;> try (cases h; done)
  rename_i j v h3 h4
  cases hj : Nat.beq j ch with
  | false => rw [hj] at h; cases h
  | true =>
  have hj := Nat.eq_of_beq_eq_true hj
  subst hj
  simp only [Nat.beq_refl, cond_true] at h
  split at h <;> try (cases h; done)
  rename_i own' m2 h5
  cases h6 : leaveX x.done w m2 ds with
  | false => rw [h6] at h; cases h
  | true =>
  rw [h6] at h; simp only [cond_true, Option.some.injEq] at h; subst h
  have hT := treads_closed P false ((crewOf P ty Wg Ch mx ios iout).Send own')
  refine deferred_step (C := CA P) (fun _ _ h => h) hT (fr := { (default : Frame) with fn := P.funcs.size, defers := [{ target := .fn (.func x.f) ⟨caps'⟩, args := #[] }], mode := .panicking [goexitEntry] }) (.inr ⟨_, rfl⟩) (ffB_ok hx.ff) rfl ?_
  show Treads P false ((crewOf P ty Wg Ch mx ios iout).Send own') (G (Frame.enter P x.f (#[] ++ ⟨caps'⟩) .deferred) [pseudo P]) s
  let b : Frame := { (default : Frame) with fn := x.f, kind := .deferred, roundOf := none }
  have henter : Frame.enter P x.f (#[] ++ ⟨caps'⟩) .deferred = fat b (A x.n (envL 0 caps') []) [.code c] := by
    rw [← enter_A caps' x.n (by rw [← ha.len]; exact Nat.le_of_ble_eq_true hle)]
    simp [Frame.enter, fat, hf, hb, hn, b]
  rw [henter]
  have hk : b.kind ≠ .early := by simp [b]
  refine run_codes (b := b) (l := [c]) (k := []) hT hm hcall hk rfl h1 (by simpa [flatL] using hfl) (envL_er 0 ha) .nil hr fun l' ρ1 e1 D1 s1 hl' g1 he1 hd1 hr1 => ?_
  refine on_region hT hl' fun l2 hl2 => ?_
  have hl2 : l2 = [] := by
    cases l2 with
    | nil => rfl
    | cons y l2 =>
      exfalso
      have : ∀ c : Code, flatC c ≠ [] := by
        intro c
        induction c with
        | seq p q ihp ihq => simp [flatC, ihp]
        | _ => simp [flatC]
      simp only [flatL, List.flatMap_cons, List.append_eq_nil_iff] at hl2
      exact this y hl2.1
  subst hl2
  rw [hx.size]
  show Treads P false ((crewOf P ty Wg Ch mx ios iout).Send own') (G (fat b (A x.n e1 D1) (.inRegion x.o7 ([0, 1] ++ [2]) :: [])) [pseudo P]) s1
  refine run_vals hT hk rfl hr1 h2 he1 fun e2 he2 => Treads.stop ?_
  obtain ⟨vc, k1, k2⟩ := he2.evc h3
  obtain ⟨vs, k3, k4⟩ := he2.evc h4
  cases k2
  rename_i bc cc hbc
  have hch' := g1.le _ _ hch
  rw [hbc] at hch'; cases hch'
  obtain ⟨X, Y, hperm, hsent, hr2⟩ := ownX_ok h5 k4 hr1
  refine ⟨rfl, G (fat b (A x.n e2 D1) (.inRegion x.o7 [2] :: [])) [pseudo P], vs, .tuple #[], X, Y, hperm, hsent, fun w hag => ?_, ?_⟩
  · have he := fat_eval' b (A x.n e2 D1) [.inRegion x.o7 [2]]
    simp only [fat] at he
    have hev1 : ev x.n e2 x.sc = .chan (some Ch) := ev_of k1
    have hev2 : ev x.n e2 x.sv = vs := ev_of k3
    have hw : Region.wanted x.o (yielded x.o7 (A x.n e2 D1).tmps) = true := wanted_none _ _ hx.op.2
    have hse := hx.send (ev x.n e2)
    rw [hev1, hev2] at hse
    have hstep : stepG P false (G (fat b (A x.n e2 D1) (.inRegion x.o7 [2] :: [])) [pseudo P]) w = stepG.apply P true (fat b (A x.n e2 D1) (.inRegion x.o7 [2] :: [])) [pseudo P] none (execOp (A x.n e2 D1).eval x.o) w := by
      simp only [G, stepG, stepG.exec, fat, hx.op.1, Option.map_some, Option.getD_some, hw, if_true, stepG.oper, Frame.oper?, he]
    rw [show (crewOf P ty Wg Ch mx ios iout).P = P from rfl, hstep, A_eval, hse]
    simp only [stepG.apply, if_true, Sem.runT, fat, b]
    simp [seen_none, GStep.after, G, scase, crewOf]
  · have hserved : Conc.served (G (fat b (A x.n e2 D1) (.inRegion x.o7 [2] :: [])) [pseudo P]) undef = G (fat b (A x.n (updc x.o.dst undef e2) D1) (.inRegion x.o7 [] :: [])) [pseudo P] := by
      have := fat_finish b (A x.n e2 D1) x.o7 2 [] [] undef
      rw [hx.op.1] at this
      simp only [Option.bind_some] at this
      rw [A_put, updc_A] at this
      simp only [Conc.served, G] at this ⊢
      rw [this]
    rw [hserved]
    have hT2 := treads_closed P false (crewOf P ty Wg Ch mx ios iout).Back
    refine end_region hT2 ?_
    refine hT2.go rfl rfl (g' := G { fat b (A x.n (updc x.o.dst undef e2) D1) [] with mode := .returning } [pseudo P]) (fun w => by simp [G, stepG, stepG.exec, fat, b]) ?_
    exact leave_ok (E := crewOf P ty Wg Ch mx ios iout) rfl hf hres hx.doneF hdone hbs ds h6 rfl rfl rfl rfl hd1 hr2 ⟨_, g1.le _ _ hw⟩
end
end Go.L
namespace Go.L
open Go Go.Conc
open Go.ConcR (KK wgBlock WgAt stA smA rd wr)

/-! ### The closer -/
def goE (P : Program) (ty : TypeId) : Nat → Frame → List Frame → Option (Frame × List Frame)
  | 0, fr, stk => some (fr, stk)
  | n + 1, fr, stk => match oneV P ty noCel fr stk with
    | some (.go fr' stk', [], [], []) => goE P ty n fr' stk'
    | _ => none
theorem goE_ok {P : Program} {ty : TypeId} {cs : List Frame} {main : Bool} {T : Goroutine → Prop} (hs : ∀ g g', g.status = .running → g'.status = .running → (∀ w, stepG P main g w = .go g' w #[]) → T g' → T g) : ∀ {n : Nat} {fr fr' : Frame} {stk stk' : List Frame}, goE P ty n fr stk = some (fr', stk') → T (G fr' (stk' ++ cs)) → T (G fr (stk ++ cs))
  | 0, fr, fr', stk, stk', h, hT => by simp only [goE, Option.some.injEq, Prod.mk.injEq] at h; obtain ⟨rfl, rfl⟩ := h; exact hT
  | n + 1, fr, fr', stk, stk', h, hT => by
    simp only [goE] at h
    split at h <;> try (cases h; done)
    rename_i f1 s1 h0
    refine hs _ _ rfl rfl (fun w => ?_) (goE_ok hs h hT)
    have := oneV_ok (W := 0) (w := w) h0 (by simp) (.inl ⟨rfl, rfl⟩) cs main
    simp only [OV.is] at this
    rw [this]; rfl
theorem born_enter {P : Program} {main : Bool} {f : FuncId} (hf : FF P f) (ca : Array Value) (w : World) : stepG P main (born P { target := .fn (.func f) ca, args := #[] }) w = .go (G (Frame.enter P f (#[] ++ ca) .deferred) [pseudo P]) w #[] := by
  obtain ⟨fn, h1, h2, h3⟩ := hf.ff
  have hrun : (callFunc f (#[] ++ ca)).runT P w #[] = (.ok (.enter f (#[] ++ ca)) w, #[]) := by
    show (Sem.program _).runT P w #[] = _
    simp only [Sem.runT, Sem.bind, h1, h2, h3, Bool.false_eq_true, if_false]
    rfl
  simp only [born, stepG, unwind, callDeferred, invoke, hrun, GStep.after, seen_none, Bool.false_and, Bool.false_eq_true, if_false, Array.append_empty, G, pseudo]
structure ClosP where
  f : FuncId
  n : Nat
  b : Frame
  q0 : Array Oper
  o0 : Oper
  rest : Code
  q1 : Array Oper
  oc : Oper
  cx : Operand
  wait : FuncId
structure ClosP.OK (P : Program) (ty : TypeId) (x : ClosP) : Prop where
  ff : ffB P x.f = true
  fn : ∃ fn, P.funcs[x.f]? = some fn ∧ fn.results = #[] ∧ fn.norace = false
  bf : x.b.fn = x.f ∧ x.b.kind = .deferred ∧ x.b.roundOf = none
  enter : ∀ p1 p2 : Value, goE P ty 3 (Frame.enter P x.f #[p1, p2] .deferred) [] = some (Frame.enter P x.wait #[p1] .normal, [fat x.b (A x.n (envL 0 [p1, p2]) []) [.inRegion x.q0 [0], .code x.rest]])
  op0 : x.q0[0]? = some x.o0
  rest : ∃ id, flatL [x.rest] = [.region id x.q1 false]
  size : x.q1.size = 2
  op : x.q1[1]? = some x.oc ∧ x.oc.guard = none ∧ ∃ ats, x.oc.op = .call { callee := .builtin .close, args := #[x.cx], argTypes := ats }
def closX (P : Program) (x : ClosP) (w ch : Nat) (caps : List Value) (m : Mem) : Bool :=
  match caps with
  | [.pointer (some ⟨j, 0, none⟩), p2] => bif Nat.beq j w then (match valsX P x.q1 x.n m [0] (updc x.o0.dst (.tuple #[]) (envL 0 caps)) with
    | some ce => match evc x.n ce x.cx with
      | some (.chan (some j)) => Nat.beq j ch
      | _ => false
    | none => false) else false
  | _ => false
theorem flatL_nil {l : List Code} (h : flatL l = []) : l = [] := by
  cases l with
  | nil => rfl
  | cons y l =>
    exfalso
    have : ∀ c : Code, flatC c ≠ [] := by
      intro c
      induction c with
      | seq p q ihp ihq => simp [flatC, ihp]
      | _ => simp [flatC]
    simp only [flatL, List.flatMap_cons, List.append_eq_nil_iff] at h
    exact this y h.1
theorem fat_at {b : Frame} (h : b.roundOf = none) (a : Act) (todo : List Item) : fat b a todo = b.at a todo := by simp [fat, Frame.at, h]

theorem close_ok {ios : Os} {iout : Array (Nat × ByteArray)} {P : Program} {ty : TypeId} {Wg Ch mx : Nat} {x : ClosP} (hx : x.OK P ty) {bs : List Nat} (hwait : chkWait P ty mx (Frame.enter P x.wait #[.pointer (some ⟨Wg, 0, none⟩)] .normal) = some bs) (hbs : ∀ b ∈ bs, b = Wg)
    {ρ : Ren} {w ch c1 c2 : Nat} (hw : ρ w = some (Wg, c1)) (hch : ρ ch = some (Ch, c2)) {caps caps' : List Value} {m : Mem} (h : closX P x w ch caps m = true) (ha : VRs ρ caps caps') {F : Nat × Obj → Prop} {R : Nat → Option Obj} {s : St} (hr : Rel P ρ m F R s) :
    (crewOf P ty Wg Ch mx ios iout).closes s (born P { target := .fn (.func x.f) ⟨caps'⟩, args := #[] }) := by
  unfold closX at h
  split at h <;> try (cases h; done)
  rename_i j p2
  cases hj : Nat.beq j w with
  | false => rw [hj] at h; cases h
  | true =>
  have hj := Nat.eq_of_beq_eq_true hj
  subst hj
  simp only [Nat.beq_refl, cond_true] at h
  split at h <;> try (cases h; done)
  rename_i ce h1
  split at h <;> try (cases h; done)
  rename_i j2 h2
  have hj2 := Nat.eq_of_beq_eq_true h
  subst hj2
  have ha0 := ha
  cases ha
  rename_i p1' r' hp1 hr1
  cases hr1
  rename_i p2' r2 hp2 hr2
  cases hr2
  cases hp1
  rename_i b1 cc hb1
  rw [hb1] at hw; cases hw
  obtain ⟨fn, hf, hres, hnr⟩ := hx.fn
  obtain ⟨hbf, hbk, hbr⟩ := hx.bf
  have hk : x.b.kind ≠ .early := by rw [hbk]; simp
  have hpure : ∀ g g', g.status = .running → g'.status = .running → (∀ w, stepG P false g w = .go g' w #[]) → (crewOf P ty Wg Ch mx ios iout).closes s g' → (crewOf P ty Wg Ch mx ios iout).closes s g :=
    fun g g' hg _ hst ⟨q, hq⟩ => ⟨q + 1, hg, g', fun w _ => hst w, hq⟩
  refine hpure _ _ rfl rfl (born_enter (ffB_ok hx.ff) _) ?_
  have harr : (#[] ++ (⟨[.pointer (some ⟨Wg, 0, none⟩), p2']⟩ : Array Value)) = #[.pointer (some ⟨Wg, 0, none⟩), p2'] := by simp
  rw [harr]
  refine goE_ok (stk := []) (cs := [pseudo P]) hpure (hx.enter _ _) ?_
  refine chkWait_ok (E := crewOf P ty Wg Ch mx ios iout) ?_ hwait hbs
  -- behind Wait
  have hT := treads_closed P false (crewOf P ty Wg Ch mx ios iout).Shut
  show Treads P false (crewOf P ty Wg Ch mx ios iout).Shut (G ((fat x.b (A x.n (envL 0 [.pointer (some ⟨Wg, 0, none⟩), p2']) []) (.inRegion x.q0 (0 :: []) :: [.code x.rest])).finish (.tuple #[])) [pseudo P]) s
  rw [fat_finish, hx.op0, A_put]
  simp only [Option.bind_some]
  rw [updc_A]
  refine end_region hT ?_
  obtain ⟨id, hrest⟩ := hx.rest
  refine on_region (l := [x.rest]) (k := []) hT hrest fun l2 hl2 => ?_
  have := flatL_nil hl2
  subst this
  rw [hx.size]
  show Treads P false (crewOf P ty Wg Ch mx ios iout).Shut (G (fat x.b (A x.n (updc x.o0.dst (.tuple #[]) (envL 0 [.pointer (some ⟨Wg, 0, none⟩), p2'])) []) (.inRegion x.q1 ([0] ++ [1]) :: [])) [pseudo P]) s
  refine run_vals hT hk hbr hr h1 ((envL_er 0 ha0).updc x.o0.dst (.tuple [] [] .nil)) fun e2 he2 => Treads.stop ?_
  obtain ⟨vc, k1, k2⟩ := he2.evc h2
  cases k2
  rename_i bc cc2 hbc
  rw [hbc] at hch; cases hch
  obtain ⟨ho, hg, ats, hop⟩ := hx.op
  have hq : (P.funcs[x.b.fn]?).any (·.norace) = false := by rw [hbf, hf]; simpa using hnr
  refine ⟨rfl, ?_, G (x.b.at (Act.put (A x.n e2 []) x.oc.dst (.tuple #[])) (.inRegion x.q1 [] :: [])) [pseudo P], fun w s r tm hc => ?_, 4, ?_⟩
  · simp [mayWake, G, fat, ho, hop]
  · rw [fat_at hbr]
    have := stepG_close (P := P) (main := false) (b := x.b) (a := A x.n e2 []) (kk := []) (cs := [pseudo P]) (rest := []) ho (wanted_none x.oc _ hg) hk hop (by rw [A_eval]; exact ev_of k1) hc hq
    exact this
  · rw [← fat_at hbr]
    refine .ctl (g' := G (fat x.b (Act.put (A x.n e2 []) x.oc.dst (.tuple #[])) []) [pseudo P]) rfl (fun w => by simp [G, stepG, stepG.exec, fat]) ?_
    refine .ctl (g' := G { fat x.b (Act.put (A x.n e2 []) x.oc.dst (.tuple #[])) [] with mode := .returning } [pseudo P]) rfl (fun w => by simp [G, stepG, stepG.exec, fat, hbr]) ?_
    refine leaves_pseudo rfl ?_ hbk (by show P.funcs[x.b.fn]? = _; rw [hbf]; exact hf) hres
    show (Act.put (A x.n e2 []) x.oc.dst (.tuple #[])).defers = []
    rw [A_put]; rfl
end Go.L
namespace Go.L
open Go Go.Conc
open Go.ConcR (KK wgBlock WgAt stA smA rd wr)

/-! ### kin's 'each' as the executor reckons it, workers and all -/
def newV (P : Program) : Sem Next → Nat → Option (Obj × Value)
  | .new o k, b => match runPure P (k b) with
    | some (.value v) => some (o, v)
    | _ => none
  | .program k, b => newV P (k P) b
  | _, _ => none
theorem newV_tri {P : Program} {o : Obj} {f : Nat → Value} {s : St} {K : Next → St → Prop} {E : Halt → St → Prop} (hK : ∀ b, ¬ s.knows b → K (.value (f b)) ⟨s.ro, (b, o) :: s.rw⟩) : ∀ (x : Sem Next), (∀ b, newV P x b = some (o, f b)) → tri P x s K E := by
  intro x
  induction x with
  | new o' k ih =>
    intro h b hb
    have h' := h b
    simp only [newV] at h'
    split at h' <;> try (cases h'; done)
    rename_i v hv
    simp only [Option.some.injEq, Prod.mk.injEq] at h'
    obtain ⟨rfl, rfl⟩ := h'
    exact runPure_tri hv (hK b hb)
  | program k ih => intro h; exact ih P h
  | _ => intro h; have := h 0; simp [newV] at this

structure EachP where
  f : FuncId
  n : Nat
  fn : Func
  o0 : Array Oper
  o1 : Array Oper
  o2 : Array Oper
  o3 : Array Oper
  o4 : Array Oper
  o5 : Array Oper
  o6 : Array Oper
  o7 : Array Oper
  o8 : Array Oper
  o9 : Array Oper
  o10 : Array Oper
  o11 : Array Oper
  o12 : Array Oper
  o13 : Array Oper
  o14 : Array Oper
  a1 : Oper
  a2 : Oper
  a6 : Oper
  a7 : Oper
  a9 : Oper
  a12 : Oper
  lb : Code
  lbody : Code
  rb : Code
  rbody : Code
  c4 : Operand
  c12 : Operand
  b0 : Nat
  b1 : Nat
  b2 : Nat
  b3 : Nat
  fin : List Code
  add : FuncId
  addA : Operand
  sp : Operand
  sk : Operand
  rc : Operand
  wk : WorkP
  cl : ClosP
  ty : TypeId
  mx : Nat
structure EachP.OK (P : Program) (x : EachP) : Prop where
  ff : ffB P x.f = true
  func : P.funcs[x.f]? = some x.fn ∧ x.fn.ntmps = x.n
  code : ∃ c i0 i1 i2 i3 i9 i10 i11, x.fn.body = some c ∧ flatC c = [.region i0 x.o0 false, .region i1 x.o1 false, .region i2 x.o2 false, .region i3 x.o3 false, .block x.b0 (.loop x.lb), .region i9 x.o9 false, .region i10 x.o10 false, .region i11 x.o11 false, .block x.b2 (.loop x.rb)] ++ (x.fin ++ [.ret])
  lb : ∃ i4 i8, flatC x.lb = [.region i4 x.o4 false, .cond x.c4 .skip (.exit x.b0), .block x.b1 x.lbody, .region i8 x.o8 false]
  lbody : ∃ i5 i6 i7, flatC x.lbody = [.region i5 x.o5 false, .region i6 x.o6 false, .region i7 x.o7 false]
  rb : ∃ i12, flatC x.rb = [.region i12 x.o12 false, .cond x.c12 .skip (.exit x.b2), .block x.b3 x.rbody]
  rbody : ∃ i13 i14, flatC x.rbody = [.region i13 x.o13 false, .region i14 x.o14 false]
  op1 : x.o1.size = 3 ∧ x.o1[0]? = some x.a1 ∧ x.a1.guard = none
  new1 : ∀ e b, newV P (execOp (ev x.n e) x.a1) b = some (.chan 0 #[] false 0 0 false, .chan (some b))
  op2 : x.o2.size = 1 ∧ x.o2[0]? = some x.a2 ∧ x.a2.guard = none
  new2 : ∀ e b, newV P (execOp (ev x.n e) x.a2) b = some (wgBlock x.ty 0 0, .pointer (some ⟨b, 0, none⟩))
  op6 : x.o6.size = 1 ∧ x.o6[0]? = some x.a6 ∧ x.a6.guard = none ∧ ∃ ats, x.a6.op = .call ⟨.value (.func x.add), #[x.addA, .const (.int .i64 1)], ats⟩
  op7 : x.o7.size = 2 ∧ x.o7[1]? = some x.a7 ∧ x.a7.guard = none ∧ ∃ ats, x.a7.op = .go ⟨.value x.sp, #[], ats⟩
  op9 : x.o9.size = 2 ∧ x.o9[1]? = some x.a9 ∧ x.a9.guard = none ∧ ∃ ats, x.a9.op = .go ⟨.value x.sk, #[], ats⟩
  op12 : x.o12.size = 2 ∧ x.o12[0]? = some x.a12 ∧ x.a12.guard = none
  recv : ∀ ρ, runPure P (execOp ρ x.a12) = some (.comm #[{ chan := ρ x.rc, send := none, zero := .slice none 0 0 }] true (.recv true))
  ffadd : ffB P x.add = true
  add : ∀ v, v < x.mx → ∀ W, ∃ k, chkAdd P x.ty v (Frame.enter P x.add #[.pointer (some ⟨W, 0, none⟩), .int .i64 1] .normal) = some (List.replicate k W)
  done : ∀ W, ∃ k, chkDone P x.ty x.mx (Frame.enter P x.wk.done #[.pointer (some ⟨W, 0, none⟩)] .deferred) = some (List.replicate k W)
  wait : ∀ W, ∃ k, chkWait P x.ty x.mx (Frame.enter P x.cl.wait #[.pointer (some ⟨W, 0, none⟩)] .normal) = some (List.replicate k W)
  wk : x.wk.OK P
  cl : x.cl.OK P x.ty

def runDone (P : Program) (call : CallT) (ops : Array Oper) (n : Nat) (l : List Nat) (ce : Env) (m : Mem) : Option (Env × Mem) :=
  match runOps P call ops n l ce m with
  | some (.done ce' m') => some (ce', m')
  | _ => none
theorem runDone_eq {P : Program} {call : CallT} {ops : Array Oper} {n : Nat} {l : List Nat} {ce ce' : Env} {m m' : Mem} (h : runDone P call ops n l ce m = some (ce', m')) : runOps P call ops n l ce m = some (.done ce' m') := by
  unfold runDone at h
  split at h <;> try (cases h; done)
  rename_i h1
  simp only [Option.some.injEq, Prod.mk.injEq] at h
  obtain ⟨rfl, rfl⟩ := h
  exact h1
def spawnX (P : Program) (x : EachP) (LF : Nat) (call : CallT) (w ch : Nat) : Nat → List Own → Env → Mem → Option (List Own × Env × Mem)
  | 0, _, _, _ => none
  | k + 1, os, ce, m => match runDone P call x.o4 x.n (List.range x.o4.size) ce m with
    | some (ce1, m1) => match evc x.n ce1 x.c4 with
      | some (.bool false) => some (os, ce1, m1)
      | some (.bool true) => bif Nat.blt os.length x.mx then (match runDone P call x.o5 x.n (List.range x.o5.size) ce1 m1 with
        | some (ce2, m2) => match evc x.n ce2 x.addA with
          | some (.pointer (some ⟨j, 0, none⟩)) => bif Nat.beq j w then (match valsX P x.o7 x.n m2 [0] (updc x.a6.dst (.tuple ⟨[]⟩) ce2) with
            | some ce4 => match evc x.n ce4 x.sp with
              | some (.func (.func f) ⟨[]⟩ ⟨caps⟩) => bif Nat.beq f x.wk.f then (match workX P x.wk LF call w ch caps m2.freeze with
                | some own => match runDone P call x.o8 x.n (List.range x.o8.size) (updc x.a7.dst undef ce4) m2.freeze with
                  | some (ce5, m5) => spawnX P x LF call w ch k (os ++ [own]) ce5 m5
                  | none => none
                | none => none) else none
              | _ => none
            | none => none) else none
          | _ => none
        | none => none) else none
      | _ => none
    | none => none
def splits {α : Type} : List α → List (α × List α)
  | [] => []
  | x :: l => (x, l) :: (splits l).map fun y => (y.1, x :: y.2)
theorem splits_mem {α : Type} (o : α) (b : List α) : ∀ a : List α, (o, a ++ b) ∈ splits (a ++ o :: b)
  | [] => by simp [splits]
  | y :: a => by
    simp only [List.cons_append, splits, List.mem_cons, List.mem_map]
    exact .inr ⟨_, splits_mem o b a, rfl⟩
/-- what arrives, in main's memory -/
def gotX (own : Own) (m : Mem) : Option (Value × Mem) :=
  match own with
  | (none, _) => some (.slice none 0 0, m)
  | (some (l, t), len) => bif m.more then some (.slice (some ⟨m.next, 0, none⟩) len capU, m.add (.cells l t)) else none
def recvOne (P : Program) (x : EachP) (call : CallT) (own : Own) (ce : Env) (m : Mem) : Option (Env × Mem) :=
  match gotX own m with
  | some (v, m') => match runDone P call x.o12 x.n [1] (updc x.a12.dst (.tuple ⟨[v, .bool true]⟩) ce) m' with
    | some (ce1, m1) => match evc x.n ce1 x.c12 with
      | some (.bool true) => match runDone P call x.o13 x.n (List.range x.o13.size) ce1 m1 with
        | some (ce2, m2) => runDone P call x.o14 x.n (List.range x.o14.size) ce2 m2
        | none => none
      | _ => none
    | none => none
  | none => none
def rcB (x : EachP) (ch : Nat) (ce : Env) : Bool :=
  match evc x.n ce x.rc with
  | some (.chan (some j)) => Nat.beq j ch
  | _ => false
def recvX (P : Program) (x : EachP) (call : CallT) (ch : Nat) : Nat → List Own → Env → Mem → Option (List (Env × Mem))
  | _, [], ce, m => bif rcB x ch ce then some [(ce, m)] else none
  | 0, _ :: _, _, _ => none
  | k + 1, o :: os, ce, m => bif rcB x ch ce then (match mapO (fun (y : Own × List Own) => match recvOne P x call y.1 ce m with
      | some (ce', m') => recvX P x call ch k y.2 ce' m'
      | none => none) (splits (o :: os)) with
    | some ls => some ls.flatten
    | none => none) else none
/-- main finds the channel closed, sorts, returns -/
def endX (P : Program) (x : EachP) (LF : Nat) (call : CallT) (m2 : Mem) (y : Env × Mem) : Option (CR × Mem) :=
  match runDone P call x.o12 x.n [1] (updc x.a12.dst (.tuple ⟨[.slice none 0 0, .bool false]⟩) y.1) (thaw m2 y.2) with
  | some (ce1, m1) => match evc x.n ce1 x.c12 with
    | some (.bool false) => match runCs P call x.f x.n LF x.fin ce1 m1 [] with
      | some (ce3, m3, []) => match resV P x.n ce3 m3 x.fn.results.toList with
        | some vs => some (.ret (packV vs), m3)
        | none => none
      | _ => none
    | _ => none
  | none => none
def eachB (P : Program) (x : EachP) (LF : Nat) (call : CallT) (args : List Value) (m : Mem) : Option (CR × Mem) :=
  bif Nat.ble args.length x.n then (match runDone P call x.o0 x.n (List.range x.o0.size) (envL 0 args) m with
    | some (ce0, m0) => bif m0.more then (match runDone P call x.o1 x.n [1, 2] (updc x.a1.dst (.chan (some m0.next)) ce0) m0.skip with
      | some (ce1, m1) => bif m1.more then (match runDone P call x.o3 x.n (List.range x.o3.size) (updc x.a2.dst (.pointer (some ⟨m1.next, 0, none⟩)) ce1) m1.skip.freeze with
        | some (ce3, m3) => match spawnX P x LF call m1.next m0.next 100 [] ce3 m3 with
          | some (os, ce4, m4) => match valsX P x.o9 x.n m4 [0] ce4 with
            | some ce5 => match evc x.n ce5 x.sk with
              | some (.func (.func f) ⟨[]⟩ ⟨caps⟩) => bif Nat.beq f x.cl.f && closX P x.cl m1.next m0.next caps m4.freeze then (match runDone P call x.o10 x.n (List.range x.o10.size) (updc x.a9.dst undef ce5) m4.freeze with
                | some (ce6, m6) => match runDone P call x.o11 x.n (List.range x.o11.size) ce6 m6 with
                  | some (ce7, m7) => match recvX P x call m0.next os.length os ce7 m7 with
                    | some outs => match mapO (endX P x LF call m1.skip) outs with
                      | some rs => collapse m.next rs
                      | none => none
                    | none => none
                  | none => none
                | none => none) else none
              | _ => none
            | none => none
          | none => none
        | none => none) else none
      | none => none) else none
    | none => none) else none
def eachX (P : Program) (x : EachP) (LF : Nat) (callI call : CallT) : CallT
  | .fn f, args, m => bif Nat.beq f x.f then eachB P x LF callI args m else call (.fn f) args m
  | t, args, m => call t args m
end Go.L
namespace Go.L
open Go Go.Conc

/-! ### 'each' found in the program's text -/
def opsAt' (l : List Code) (i : Nat) : Array Oper := match l[i]? with
  | some (.region _ ops _) => ops
  | _ => #[]
def operAt (o : Array Oper) (i : Nat) : Oper := (o[i]?).getD default
def loopIn (l : List Code) (i : Nat) : Nat × Code := match l[i]? with
  | some (.block id (.loop c)) => (id, c)
  | _ => (0, .skip)
def blockIn (l : List Code) (i : Nat) : Nat × Code := match l[i]? with
  | some (.block id c) => (id, c)
  | _ => (0, .skip)
def condIn (l : List Code) (i : Nat) : Operand := match l[i]? with
  | some (.cond c _ _) => c
  | _ => .func 0
def calleeOf (o : Oper) : FuncId := match o.op with
  | .call ⟨.value (.func f), _, _⟩ => f
  | .defer ⟨.value (.func f), _, _⟩ => f
  | _ => 0
def argOf (o : Oper) (i : Nat) : Operand := match o.op with
  | .call ⟨_, xs, _⟩ => (xs[i]?).getD (.func 0)
  | _ => .func 0
def goOf (o : Oper) : Operand := match o.op with
  | .go ⟨.value x, _, _⟩ => x
  | _ => .func 0
def funOf (o : Oper) : FuncId := match o.op with
  | .makeFunc (.func f) _ _ => f
  | _ => 0
def chanOf (o : Oper) : Operand := match o.op with
  | .recv _ c _ => c
  | .send c _ => c
  | _ => .func 0
def sentOf (o : Oper) : Operand := match o.op with
  | .send _ x => x
  | _ => .func 0
def typeOf (o : Oper) : TypeId := match o.op with
  | .alloc t => t
  | _ => 0
def codeOf (P : Program) (f : FuncId) : List Code := match P.funcs[f]? with
  | some fn => match fn.body with
    | some c => flatC c
    | none => []
  | none => []
def tmpsOf (P : Program) (f : FuncId) : Nat := match P.funcs[f]? with
  | some fn => fn.ntmps
  | none => 0
def restOf (P : Program) (f : FuncId) : Code := match P.funcs[f]? with
  | some fn => match fn.body with
    | some (.seq _ c) => c
    | _ => .skip
  | none => .skip
def eachIn (P : Program) (f : FuncId) (mx : Nat) : EachP :=
  let l := codeOf P f
  let lb := loopIn l 4
  let ll := flatC lb.2
  let bb := blockIn ll 2
  let bl := flatC bb.2
  let rb := loopIn l 8
  let rl := flatC rb.2
  let rbb := blockIn rl 2
  let rbl := flatC rbb.2
  let wf := funOf (operAt (opsAt' bl 2) 0)
  let wl := codeOf P wf
  let cf := funOf (operAt (opsAt' l 5) 0)
  let cl := codeOf P cf
  { f, n := tmpsOf P f, fn := (P.funcs[f]?).getD default, o0 := opsAt' l 0, o1 := opsAt' l 1, o2 := opsAt' l 2, o3 := opsAt' l 3, o4 := opsAt' ll 0, o5 := opsAt' bl 0, o6 := opsAt' bl 1, o7 := opsAt' bl 2, o8 := opsAt' ll 3,
    o9 := opsAt' l 5, o10 := opsAt' l 6, o11 := opsAt' l 7, o12 := opsAt' rl 0, o13 := opsAt' rbl 0, o14 := opsAt' rbl 1,
    a1 := operAt (opsAt' l 1) 0, a2 := operAt (opsAt' l 2) 0, a6 := operAt (opsAt' bl 1) 0, a7 := operAt (opsAt' bl 2) 1, a9 := operAt (opsAt' l 5) 1, a12 := operAt (opsAt' rl 0) 0,
    lb := lb.2, lbody := bb.2, rb := rb.2, rbody := rbb.2, c4 := condIn ll 1, c12 := condIn rl 1, b0 := lb.1, b1 := bb.1, b2 := rb.1, b3 := rbb.1, fin := (l.drop 9).dropLast,
    add := calleeOf (operAt (opsAt' bl 1) 0), addA := argOf (operAt (opsAt' bl 1) 0) 0, sp := goOf (operAt (opsAt' bl 2) 1), sk := goOf (operAt (opsAt' l 5) 1), rc := chanOf (operAt (opsAt' rl 0) 0),
    wk := { f := wf, n := tmpsOf P wf, cl := wl.dropLast, o7 := opsAt' wl (wl.length - 1), o := operAt (opsAt' wl (wl.length - 1)) 2, sc := chanOf (operAt (opsAt' wl (wl.length - 1)) 2), sv := sentOf (operAt (opsAt' wl (wl.length - 1)) 2), done := calleeOf (operAt (opsAt' wl 0) 0) },
    cl := { f := cf, n := tmpsOf P cf, b := { (default : Frame) with fn := cf, kind := .deferred, roundOf := none }, q0 := opsAt' cl 0, o0 := operAt (opsAt' cl 0) 0, rest := restOf P cf, q1 := opsAt' cl 1, oc := operAt (opsAt' cl 1) 1, cx := argOf (operAt (opsAt' cl 1) 1) 0, wait := calleeOf (operAt (opsAt' cl 0) 0) },
    ty := typeOf (operAt (opsAt' l 2) 0), mx }
end Go.L
