/- The library of this proof, part 2: a program logic, an executor with its soundness, a theorem on goroutines. -/
import Derived.Test.YtecmokfckbfdjaaGreatDoorL1
set_option linter.all false
namespace Go.L
open Go Go.Conc

section ops
variable {P : Program} {ρ : Ren} {n : Nat} {ce e : Env} {o : Oper} {s : St} {v : Value} {m : Mem} {F : Nat × Obj → Prop} {R : Nat → Option Obj}

/-! ### Slicing -/
def bnd (v : Int) (y : Nat) : Option Nat := bif decide (0 ≤ v) && Nat.ble v.toNat y then some v.toNat else none
def bnds (len cap : Nat) (lo hi mx : Option Int) : Option (Nat × Nat × Nat) :=
  match (match mx with | some v => bnd v cap | none => some cap) with
  | none => none
  | some m => match (match hi, mx with | some v, _ => bnd v m | none, none => some len | none, some _ => none) with
    | none => none
    | some h => match (match lo with | some v => bnd v h | none => some 0) with
      | none => none
      | some l => some (l, h, m)
theorem bnd_ok {v : Int} {y r : Nat} (h : bnd v y = some r) : 0 ≤ v ∧ v ≤ y ∧ r = v.toNat := by
  unfold bnd at h
  cases hb : (decide (0 ≤ v) && Nat.ble v.toNat y) with
  | false => rw [hb] at h; cases h
  | true =>
    rw [hb] at h; simp only [cond_true, Option.some.injEq] at h
    simp only [Bool.and_eq_true, decide_eq_true_eq, Nat.ble_eq] at hb
    exact ⟨hb.1, by omega, h.symm⟩
/-- .. as bounds are handed over -/
def IsInt (x : Option Value) (y : Option Int) : Prop := (x = none ∧ y = none) ∨ ∃ k i, x = some (.int k i) ∧ y = some i
theorem t_sliceBound {α : Type} {k : IntKind} {i : Int} {y r : Nat} {c : BoundsCode} (h : bnd i y = some r) {K : Nat → Sem α} {Q : α → St → Prop} {E : Halt → St → Prop} : tri P (Instr.sliceBound (.int k i) y c >>= K) s Q E = tri P (K r) s Q E := by
  obtain ⟨h1, h2, h3⟩ := bnd_ok h
  subst h3
  simp only [Instr.sliceBound, asIntOf, t_bind, t_pure, h1, h2, and_self, if_true]
theorem t_sliceBounds {α : Type} {b : Bool} {len cap l h mm : Nat} {low high max : Option Value} {lo hi mx : Option Int} (h1 : IsInt low lo) (h2 : IsInt high hi) (h3 : IsInt max mx) (hb : bnds len cap lo hi mx = some (l, h, mm))
    {K : Nat × Nat × Nat → Sem α} {Q : α → St → Prop} {E : Halt → St → Prop} : tri P (Instr.sliceBounds b len cap low high max >>= K) s Q E = tri P (K (l, h, mm)) s Q E := by
  unfold bnds at hb
  split at hb <;> try (cases hb; done)
  rename_i m1 hm
  split at hb <;> try (cases hb; done)
  rename_i hh1 hh
  split at hb <;> try (cases hb; done)
  rename_i ll1 hl
  simp only [Option.some.injEq, Prod.mk.injEq] at hb
  obtain ⟨e1, e2, e3⟩ := hb
  subst e1 e2 e3
  rcases h3 with ⟨rfl, rfl⟩ | ⟨k3, i3, rfl, rfl⟩ <;> rcases h2 with ⟨rfl, rfl⟩ | ⟨k2, i2, rfl, rfl⟩ <;> rcases h1 with ⟨rfl, rfl⟩ | ⟨k1, i1, rfl, rfl⟩ <;>
    simp only [Option.some.injEq] at hm hh hl <;> (try (cases hh; done)) <;> (try subst hm) <;> (try subst hh) <;> (try subst hl) <;>
    simp only [Instr.sliceBounds, t_bind, t_pure, Option.isSome] <;>
    (repeat (first | rw [t_sliceBound hm] | rw [t_sliceBound hh] | rw [t_sliceBound hl] | simp only [t_bind, t_pure]))
def evi (n : Nat) (ce : Env) : Option Operand → Option (Option Int)
  | none => some none
  | some x => match evc n ce x with
    | some (.int _ i) => some (some i)
    | _ => none
theorem evi_ok (he : ER ρ ce e) {f : Operand → Value} (hf : Ev n e f) {x : Option Operand} {y : Option Int} (h : evi n ce x = some y) : IsInt (x.map f) y := by
  cases x with
  | none => simp only [evi, Option.some.injEq] at h; subst h; exact .inl ⟨rfl, rfl⟩
  | some x =>
    simp only [evi] at h
    split at h <;> try (cases h; done)
    rename_i k i hx
    simp only [Option.some.injEq] at h; subst h
    obtain ⟨v', k1, k2⟩ := he.evc hx
    cases k2
    exact .inr ⟨k, i, by simp [hf _ _ k1], rfl⟩
theorem bnds_more {len c l h mm : Nat} {lo hi : Option Int} (hc : len ≤ c) (hb : bnds len len lo hi none = some (l, h, mm)) : bnds len c lo hi none = some (l, h, c) ∧ l ≤ h ∧ h ≤ len := by
  unfold bnds at hb ⊢
  simp only at hb ⊢
  split at hb <;> try (cases hb; done)
  rename_i hh1 hh
  split at hb <;> try (cases hb; done)
  rename_i ll1 hl
  simp only [Option.some.injEq, Prod.mk.injEq] at hb
  obtain ⟨e1, e2, e3⟩ := hb
  subst e1 e2 e3
  have hle : hh1 ≤ len := by
    cases hi with
    | none => simp at hh; omega
    | some v => have := bnd_ok hh; omega
  have hll : ll1 ≤ hh1 := by
    cases lo with
    | none => simp at hl; omega
    | some v => have := bnd_ok hl; omega
  have hh' : (match hi with | some v => bnd v c | none => some len) = some hh1 := by
    cases hi with
    | none => exact hh
    | some v =>
      have := bnd_ok hh
      simp only [bnd]
      rw [show (decide (0 ≤ v) && Nat.ble v.toNat c) = true from by simp only [Bool.and_eq_true, decide_eq_true_eq, Nat.ble_eq]; omega]
      simp only [cond_true]; rw [this.2.2]
  refine ⟨?_, hll, hle⟩
  rcases hi with _ | v
  · simp only at hh' ⊢
    simp only [Option.some.injEq] at hh'
    subst hh'
    simp only [hl]
  · simp only at hh' ⊢
    simp only [hh', hl]

def sliceV (P : Program) (n : Nat) (ce : Env) : Op → Option Value
  | .slice T x low high max => match evi n ce low, evi n ce high, evi n ce max with
    | some lo, some hi, some mx => match tinfo P T with
      | some ⟨.array len E, _, _, _⟩ => match evc n ce x with
        | some (.pointer (some ⟨i, off, none⟩)) => match tinfo P E with
          | some te => match bnds len len lo hi mx with
            | some (l, h, mm) => bif Nat.ble (mm - l) capL then some (.slice (some ⟨i, (bif Nat.beq mm l then off else off + l * te.size), none⟩) (h - l) (mm - l)) else none
            | none => none
          | none => none
        | _ => none
      | some ⟨.slice E, _, _, _⟩ => match evc n ce x with
        | some (.slice (some ⟨i, off, none⟩) len k) => match tinfo P E with
          | some te => bif Nat.ble k capL then (match bnds len k lo hi mx with
              | some (l, h, mm) => bif Nat.ble (mm - l) capL then some (.slice (some ⟨i, (bif Nat.beq mm l then off else off + l * te.size), none⟩) (h - l) (mm - l)) else none
              | none => none)
            else (match mx with
              | some _ => none
              | none => match bnds len len lo hi none with
                | some (l, h, _) => bif (Nat.blt l h || Nat.beq l 0) && Nat.blt capL (k - l) then some (.slice (some ⟨i, off + l * te.size, none⟩) (h - l) (k - l)) else none
                | none => none)
          | none => none
        | _ => none
      | _ => none
    | _, _, _ => none
  | _ => none
theorem slice_ok (he : ER ρ ce e) (h : sliceV P n ce o.op = some v) : ∃ v', VR ρ v v' ∧ Yields P n e o s v' := by
  unfold sliceV at h
  split at h <;> try (cases h; done)
  rename_i T x low high max heq
  split at h <;> try (cases h; done)
  rename_i lo hi mx hlo hhi hmx
  split at h <;> try (cases h; done)
  · rename_i len E _ _ _ hti
    split at h <;> try (cases h; done)
    rename_i i off hx
    split at h <;> try (cases h; done)
    rename_i te hte
    split at h <;> try (cases h; done)
    rename_i l hh mm hb
    obtain ⟨by_, tf⟩ := tf_tinfo hti
    obtain ⟨by2, tf2⟩ := tf_tinfo hte
    cases hcap : Nat.ble (mm - l) capL with
    | false => rw [hcap] at h; cases h
    | true =>
    rw [hcap] at h; simp only [cond_true, Option.some.injEq] at h; subst h
    obtain ⟨u', k1, k2⟩ := he.evc hx
    cases k2
    rename_i b c hbb
    refine ⟨_, .slice i b c _ _ _ hbb (Nat.le_of_ble_eq_true hcap), fun s' hs' f hf K Q hK => ?_⟩
    simp only [execOp, heq, Instr.sliceAt, hf _ _ k1, t_bind, t_und tf, Instr.sureAddr, t_pure]
    rw [t_sliceBounds (evi_ok he hf hlo) (evi_ok he hf hhi) (evi_ok he hf hmx) hb]
    simp only [t_bind, t_size tf2, t_pure]
    by_cases hml : mm = l
    · simp only [hml, if_true, Nat.beq_refl, cond_true] at hK ⊢
      exact hK
    · simp only [hml, if_false, beq_false hml, cond_false, add_none] at hK ⊢
      exact hK
  · rename_i E _ _ _ hti
    split at h <;> try (cases h; done)
    rename_i i off len k hx
    split at h <;> try (cases h; done)
    rename_i te hte
    obtain ⟨by_, tf⟩ := tf_tinfo hti
    obtain ⟨by2, tf2⟩ := tf_tinfo hte
    obtain ⟨u', k1, k2⟩ := he.evc hx
    cases hk : Nat.ble k capL with
    | true =>
      rw [hk] at h; simp only [cond_true] at h
      have hkl := Nat.le_of_ble_eq_true hk
      split at h <;> try (cases h; done)
      rename_i l hh mm hb
      cases hcap : Nat.ble (mm - l) capL with
      | false => rw [hcap] at h; cases h
      | true =>
      rw [hcap] at h; simp only [cond_true, Option.some.injEq] at h; subst h
      cases k2 with
      | sliceU => omega
      | slice _ b c _ _ _ hbb _ =>
      refine ⟨_, .slice i b c _ _ _ hbb (Nat.le_of_ble_eq_true hcap), fun s' hs' f hf K Q hK => ?_⟩
      simp only [execOp, heq, Instr.sliceAt, Instr.slice, hf _ _ k1, t_bind, t_und tf, t_pure]
      rw [t_sliceBounds (evi_ok he hf hlo) (evi_ok he hf hhi) (evi_ok he hf hmx) hb]
      simp only [t_bind, t_size tf2, t_pure]
      by_cases hml : mm = l
      · simp only [hml, if_true, Nat.beq_refl, cond_true] at hK ⊢
        exact hK
      · simp only [hml, if_false, beq_false hml, cond_false, Option.map_some, add_none] at hK ⊢
        exact hK
    | false =>
      rw [hk] at h; simp only [cond_false] at h
      split at h <;> try (cases h; done)
      split at h <;> try (cases h; done)
      rename_i l hh mm hb
      cases hcond : ((Nat.blt l hh || Nat.beq l 0) && Nat.blt capL (k - l)) with
      | false => rw [hcond] at h; cases h
      | true =>
      rw [hcond] at h; simp only [cond_true, Option.some.injEq] at h; subst h
      simp only [Bool.and_eq_true, Bool.or_eq_true, Nat.blt_eq, Nat.beq_eq] at hcond
      cases k2 with
      | slice _ b c _ _ _ hbb hk2 => exact absurd (Nat.ble_eq_true_of_le hk2) (by rw [hk]; simp)
      | sliceU _ b c _ _ _ hbb h1 h2 h3 =>
      obtain ⟨hb', hlh, hhl⟩ := bnds_more (c := c - (capU - k)) (by omega) hb
      have hcc : c - (capU - k) - l = c - (capU - (k - l)) := by omega
      refine ⟨_, .sliceU i b c _ (hh - l) (k - l) hbb hcond.2 (by omega) (by omega), fun s' hs' f hf K Q hK => ?_⟩
      simp only [execOp, heq, Instr.sliceAt, Instr.slice, hf _ _ k1, t_bind, t_und tf, t_pure]
      rw [t_sliceBounds (evi_ok he hf hlo) (evi_ok he hf hhi) (evi_ok he hf hmx) hb']
      simp only [t_bind, t_size tf2, t_pure]
      by_cases hml : c - (capU - k) = l
      · have hl0 : l = 0 := by omega
        subst hl0
        simp only [hml, if_true, Nat.zero_mul, Nat.add_zero] at hK ⊢
        rw [← hcc, hml] at hK
        exact hK
      · simp only [hml, if_false, Option.map_some, add_none] at hK ⊢
        rw [hcc]; exact hK

/-! ### Comparison with nil -/
def isNilV : Value → Bool
  | .pointer none | .slice none _ _ | .map none | .nilFunc | .nilIface => true
  | _ => false
def fullFor : TypeDesc → Value → Value → Bool
  | .pointer _, .pointer (some _), .pointer none => true
  | .slice _, .slice (some _) _ _, .slice none _ _ => true
  | .map _ _, .map (some _), .map none => true
  | .func _ _ _, .func _ _ _, .nilFunc => true
  | .interface _, .iface _ _, .nilIface => true
  | _, _, _ => false
def eqNilV (P : Program) (n : Nat) (ce : Env) : Op → Option Value
  | .binOp op T x y _ => match evc n ce x, evc n ce y with
    | some a, some b => match tinfo P T with
      | some ti => bif fullFor ti.d a b then (match op with
          | .eql => some (.bool false)
          | .neq => some (.bool true)
          | _ => none) else none
      | none => none
    | _, _ => none
  | _ => none
theorem eqNil_ok (he : ER ρ ce e) (h : eqNilV P n ce o.op = some v) : ∃ v', VR ρ v v' ∧ Yields P n e o s v' := by
  unfold eqNilV at h
  split at h <;> try (cases h; done)
  rename_i op T x y _ heq
  split at h <;> try (cases h; done)
  rename_i a b ha hb
  split at h <;> try (cases h; done)
  rename_i ti hti
  cases hfl : fullFor ti.d a b with
  | false => rw [hfl] at h; cases h
  | true =>
    rw [hfl] at h; simp only [cond_true] at h
    obtain ⟨by_, tf⟩ := tf_tinfo hti
    obtain ⟨a', j1, j2⟩ := he.evc ha
    obtain ⟨b', k1, k2⟩ := he.evc hb
    have hflat : fullFor ti.d a' b' = true := by
      unfold fullFor at hfl
      split at hfl <;> try (cases hfl; done)
      all_goals (cases j2 <;> cases k2 <;> simp_all [fullFor])
    have heqv : ∀ (s' : St) {α : Type} (K : Bool → Sem α) (Q : α → St → Prop) (E : Halt → St → Prop), tri P (K false) s' Q E → tri P (Op.equal T a' b' >>= K) s' Q E := by
      intro s' α K Q E hK
      have gen : ∀ d, tri P (Op.equalIn (d + 1) T a' b' >>= K) s' Q E := by
        intro d
        unfold fullFor at hflat
        split at hflat <;> try (cases hflat; done)
        all_goals
          rename_i hd
          rw [hd] at tf
          simp only [Op.equalIn, t_bind, t_und tf, t_pure, Option.isNone]
          exact hK
      exact gen 9999
    have hg : eqGuard op T x y a' b' = Sem.pure () := by
      unfold eqGuard
      unfold fullFor at hflat
      split at hflat <;> try (cases hflat; done)
      all_goals (cases op <;> rfl)
    split at h <;> try (cases h; done)
    · simp only [Option.some.injEq] at h; subst h
      refine ⟨_, .bool _, fun s' hs' f hf K E hK => ?_⟩
      simp only [execOp, heq, hf _ _ j1, hf _ _ k1, hg]
      have : binOp .eql T a' b' = (Op.equal T a' b' >>= fun r => pure (.bool r)) := by
        unfold fullFor at hflat
        split at hflat <;> try (cases hflat; done)
        all_goals rfl
      rw [this]
      show tri P ((Op.equal T a' b' >>= fun r => pure (.bool r)) >>= fun x => pure (.value x)) s' K E
      simp only [t_bind]
      exact heqv s' _ K E hK
    · simp only [Option.some.injEq] at h; subst h
      refine ⟨_, .bool _, fun s' hs' f hf K E hK => ?_⟩
      simp only [execOp, heq, hf _ _ j1, hf _ _ k1, hg]
      have : binOp .neq T a' b' = (Op.equal T a' b' >>= fun r => pure (.bool (!r))) := by
        unfold fullFor at hflat
        split at hflat <;> try (cases hflat; done)
        all_goals rfl
      rw [this]
      show tri P ((Op.equal T a' b' >>= fun r => pure (.bool (!r))) >>= fun x => pure (.value x)) s' K E
      simp only [t_bind]
      exact heqv s' _ K E hK
end ops

end Go.L
namespace Go.L
open Go Go.Conc

/-! ### Operations that act: what they come to, and the memory behind them -/
def NV (nx : Next) (v : Value) : Prop := nx = .value v ∨ (nx = .skip ∧ v = undef)
/-- how the numbering goes on: numbers that stand for nothing so far stand for nothing later, unless they are new -/
structure Grow (ρ : Ren) (m : Mem) (ρ' : Ren) (m' : Mem) : Prop where
  le : ρ.le ρ'
  hole : ∀ i, i < m.next → ρ i = none → ρ' i = none
  next : m.next ≤ m'.next
theorem Grow.refl (ρ : Ren) (m : Mem) : Grow ρ m ρ m := ⟨Ren.le_refl _, fun _ _ h => h, Nat.le_refl _⟩
theorem Grow.trans {ρ ρ' ρ2 : Ren} {m m' m2 : Mem} (h : Grow ρ m ρ' m') (k : Grow ρ' m' ρ2 m2) : Grow ρ m ρ2 m2 :=
  ⟨Ren.le_trans h.le k.le, fun i hi hn => k.hole i (Nat.lt_of_lt_of_le hi h.next) (h.hole i hi hn), Nat.le_trans h.next k.next⟩
theorem Grow.put {ρ : Ren} {m m' : Mem} (x : Nat × Nat) (h : ρ m.next = none) (hn : m'.next = m.next + 1) : Grow ρ m (ρ.put m.next x) m' :=
  ⟨Ren.le_put x h, fun i hi hh => by rw [Ren.put_ne _ _ (by omega)]; exact hh, by omega⟩
theorem Grow.same {ρ : Ren} {m m' : Mem} (hn : m'.next = m.next) : Grow ρ m ρ m' := ⟨Ren.le_refl _, fun _ _ h => h, by omega⟩
def Acts (P : Program) (n : Nat) (e : Env) (o : Oper) (ρ : Ren) (m : Mem) (F : Nat × Obj → Prop) (R : Nat → Option Obj) (s : St) (v : Value) (m' : Mem) : Prop :=
  ∀ f, Ev n e f → ∀ (K : Next → St → Prop) (E : Halt → St → Prop), (∀ nx v' ρ' s', NV nx v' → Grow ρ m ρ' m' → VR ρ' v v' → Rel P ρ' m' F R s' → K nx s') → tri P (execOp f o) s K E

def Mem.add (m : Mem) (o : CObj) : Mem := ⟨m.t.put depthT m.next (some ⟨false, o⟩), m.next + 1⟩
def Mem.set (m : Mem) (i : Nat) (o : CObj) : Mem := ⟨m.t.put depthT i (some ⟨false, o⟩), m.next⟩
def Mem.del (m : Mem) (i : Nat) : Mem := ⟨m.t.put depthT i none, m.next⟩
def Mem.more (m : Mem) : Bool := Nat.blt (m.next + 1) (2 ^ depthT)

section mem
variable {P : Program} {ρ : Ren} {m : Mem} {F : Nat × Obj → Prop} {R : Nat → Option Obj} {s : St}

theorem Rel.lt (h : Rel P ρ m F R s) {i : Nat} {c : CB} (hi : m.t.get i = some c) : i < m.next := by
  rcases Nat.lt_or_ge i m.next with h1 | h1
  · exact h1
  · rw [h.out i h1] at hi; cases hi
theorem Rel.fresh (h : Rel P ρ m F R s) : ρ m.next = none := h.len _ (Nat.le_refl _)
/-- a number is set aside -/
def Mem.skip (m : Mem) : Mem := ⟨m.t, m.next + 1⟩
def Mem.addAt (m : Mem) (i : Nat) (o : CObj) : Mem := ⟨m.t.put depthT i (some ⟨false, o⟩), m.next⟩
theorem Rel.skip (h : Rel P ρ m F R s) (hm : m.more = true) : Rel P ρ m.skip F R s := by
  have hlt : m.next + 1 < 2 ^ depthT := by simpa [Mem.more, Nat.blt_eq] using hm
  exact ⟨fun i hi => h.len i (Nat.le_of_succ_le hi), hlt, fun i hi => h.out i (Nat.le_of_succ_le hi), h.blk, h.inj, h.frame, h.apart, h.ro⟩
/-- a new block, under a number that was set aside -/
theorem Rel.addAt (h : Rel P ρ m F R s) {i : Nat} (hi : i < m.next) (hn : ρ i = none) {b k : Nat} {o : CObj} {o' : Obj} (hb : ¬ s.knows b) (ho : OR (ρ.put i (b, k)) o o') (hk : Room P k o o') : Rel P (ρ.put i (b, k)) (m.addAt i o) F R ⟨s.ro, (b, o') :: s.rw⟩ := by
  have hg : ∀ j, (m.addAt i o).t.get j = if j = i then some ⟨false, o⟩ else m.t.get j := fun j => Tr.get_put _ _ _ _ (Nat.lt_trans hi h.fits) j
  have hnk : ∀ o, (b, o) ∉ s.rw := fun o ho => hb (.inr ⟨o, ho⟩)
  have hneb : ∀ j c b' k', m.t.get j = some c → c.ro = false → ρ j = some (b', k') → b' ≠ b := by
    intro j c b' k' hj hc hr e
    subst e
    obtain ⟨b2, k2, o2, h1, _, _, h3⟩ := h.blk j c hj
    rw [hr] at h1; cases h1
    rw [hc] at h3
    exact hnk o2 (by simpa using h3)
  refine ⟨fun j hj => ?_, h.fits, fun j hj => ?_, fun j c hj => ?_, fun i' j ci cj b1 k1 k2 hi' hj hci hcj h1 h2 => ?_, fun x hx => List.mem_cons_of_mem _ (h.frame x hx), fun j c b1 k1 o1 hj hc h1 hF => ?_, h.ro⟩
  · have hj : m.next ≤ j := hj
    rw [Ren.put_ne _ _ (by omega)]; exact h.len j hj
  · have hj : m.next ≤ j := hj
    rw [hg, if_neg (by omega)]; exact h.out j hj
  · rw [hg] at hj
    by_cases e : j = i
    · rw [if_pos e] at hj; cases hj
      exact ⟨b, k, o', by rw [e]; exact Ren.put_same _ _ _, ho, hk, by simp⟩
    · rw [if_neg e] at hj
      obtain ⟨b2, k2, o2, h1, h2, h4, h3⟩ := h.blk j c hj
      refine ⟨b2, k2, o2, by rw [Ren.put_ne _ _ e]; exact h1, h2.up (Ren.le_put _ hn), h4, ?_⟩
      cases hc : c.ro with
      | true => rw [hc] at h3; simpa using h3
      | false => rw [hc] at h3; simp at h3 ⊢; exact .inr h3
  · rw [hg] at hi' hj
    by_cases e1 : i' = i <;> by_cases e2 : j = i
    · rw [e1, e2]
    · rw [if_neg e2] at hj
      rw [e1, Ren.put_same] at h1; cases h1
      rw [Ren.put_ne _ _ e2] at h2
      exact absurd rfl (hneb j cj _ _ hj hcj h2)
    · rw [if_neg e1] at hi'
      rw [e2, Ren.put_same] at h2; cases h2
      rw [Ren.put_ne _ _ e1] at h1
      exact absurd rfl (hneb i' ci _ _ hi' hci h1)
    · rw [if_neg e1] at hi'; rw [if_neg e2] at hj
      rw [Ren.put_ne _ _ e1] at h1; rw [Ren.put_ne _ _ e2] at h2
      exact h.inj i' j ci cj b1 k1 k2 hi' hj hci hcj h1 h2
  · rw [hg] at hj
    by_cases e : j = i
    · rw [e, Ren.put_same] at h1; cases h1
      exact hnk _ (h.frame _ hF)
    · rw [if_neg e] at hj
      rw [Ren.put_ne _ _ e] at h1
      exact h.apart j c b1 k1 o1 hj hc h1 hF
theorem Rel.add (h : Rel P ρ m F R s) (hm : m.more = true) {b k : Nat} {o : CObj} {o' : Obj} (hb : ¬ s.knows b) (ho : OR (ρ.put m.next (b, k)) o o') (hk : Room P k o o') : Rel P (ρ.put m.next (b, k)) (m.add o) F R ⟨s.ro, (b, o') :: s.rw⟩ :=
  (h.skip hm).addAt (Nat.lt_succ_self _) h.fresh hb ho hk

/-- a block of one's own is written -/
theorem Rel.set (h : Rel P ρ m F R s) {i b k : Nat} {co o : CObj} {oo o' : Obj} {L Rr : List (Nat × Obj)} (hi : m.t.get i = some ⟨false, co⟩) (hb : ρ i = some (b, k)) (hs : s.rw = L ++ (b, oo) :: Rr)
    (ho : OR ρ o o') (hk : Room P k o o') : Rel P ρ (m.set i o) F R ⟨s.ro, L ++ (b, o') :: Rr⟩ := by
  have hlt := h.lt hi
  have hg : ∀ j, (m.set i o).t.get j = if j = i then some ⟨false, o⟩ else m.t.get j := fun j => Tr.get_put _ _ _ _ (Nat.lt_trans hlt h.fits) j
  have hmv : ∀ b1 x, b1 ≠ b → (b1, x) ∈ s.rw → (b1, x) ∈ L ++ (b, o') :: Rr := by
    intro b1 x hne hx
    rw [hs] at hx
    simp only [List.mem_append, List.mem_cons, Prod.mk.injEq] at hx ⊢
    rcases hx with hx | ⟨hx, _⟩ | hx
    · exact .inl hx
    · exact absurd hx hne
    · exact .inr (.inr hx)
  refine ⟨h.len, h.fits, fun j hj => ?_, fun j c hj => ?_, fun i' j ci cj b1 k1 k2 hi' hj hci hcj h1 h2 => ?_, fun x hx => ?_, fun j c b1 k1 o1 hj hc h1 hF => ?_, h.ro⟩
  · rw [hg]
    have hj : m.next ≤ j := hj
    rw [if_neg (by omega)]; exact h.out j hj
  · rw [hg] at hj
    by_cases e : j = i
    · rw [if_pos e] at hj; cases hj
      exact ⟨b, k, o', by rw [e]; exact hb, ho, hk, by simp⟩
    · rw [if_neg e] at hj
      obtain ⟨b2, k2, o2, h1, h2, h4, h3⟩ := h.blk j c hj
      refine ⟨b2, k2, o2, h1, h2, h4, ?_⟩
      cases hc : c.ro with
      | true => rw [hc] at h3; simpa using h3
      | false =>
        rw [hc] at h3
        simp only [Bool.false_eq_true, if_false] at h3 ⊢
        refine hmv _ _ (fun e2 => ?_) h3
        subst e2
        exact e (h.inj j i c ⟨false, co⟩ b2 k2 k hj hi hc rfl h1 hb)
  · have hget : ∀ j cj, (m.set i o).t.get j = some cj → cj.ro = false → ∃ cj', m.t.get j = some cj' ∧ cj'.ro = false := by
      intro j cj hj hc
      rw [hg] at hj
      by_cases e : j = i
      · subst e; exact ⟨_, hi, rfl⟩
      · rw [if_neg e] at hj; exact ⟨_, hj, hc⟩
    obtain ⟨c1, g1, g2⟩ := hget _ _ hi' hci
    obtain ⟨c2, g3, g4⟩ := hget _ _ hj hcj
    exact h.inj i' j c1 c2 b1 k1 k2 g1 g3 g2 g4 h1 h2
  · rcases x with ⟨b1, x⟩
    refine hmv _ _ (fun e => ?_) (h.frame _ hx)
    subst e
    exact h.apart i _ b1 k x hi rfl hb hx
  · rw [hg] at hj
    by_cases e : j = i
    · subst e; exact h.apart j _ b1 k1 o1 hi rfl h1 hF
    · rw [if_neg e] at hj; exact h.apart j c b1 k1 o1 hj hc h1 hF

theorem Rel.del (h : Rel P ρ m F R s) {i : Nat} (hi : i < m.next) : Rel P ρ (m.del i) F R s := by
  have hg : ∀ j, (m.del i).t.get j = if j = i then none else m.t.get j := fun j => Tr.get_put _ _ _ _ (Nat.lt_trans hi h.fits) j
  have hget : ∀ {j cj}, (m.del i).t.get j = some cj → m.t.get j = some cj := by
    intro j cj hj
    rw [hg] at hj
    by_cases e : j = i
    · rw [if_pos e] at hj; cases hj
    · rw [if_neg e] at hj; exact hj
  exact ⟨h.len, h.fits, fun j hj => by
    rw [hg]; split
    · rfl
    · exact h.out j hj, fun j c hj => h.blk j c (hget hj), fun i' j ci cj b k k' h1 h2 => h.inj i' j ci cj b k k' (hget h1) (hget h2), h.frame, fun j c b k o hj => h.apart j c b k o (hget hj), h.ro⟩

/-- where a block of one's own lies -/
theorem Rel.split (h : Rel P ρ m F R s) {i : Nat} {co : CObj} (hi : m.t.get i = some ⟨false, co⟩) : ∃ b k o' L Rr, ρ i = some (b, k) ∧ OR ρ co o' ∧ Room P k co o' ∧ s.rw = L ++ (b, o') :: Rr := by
  obtain ⟨b, k, o', h1, h2, h4, h3⟩ := h.blk i _ hi
  simp only [Bool.false_eq_true, if_false] at h3
  obtain ⟨L, Rr, hs⟩ := List.append_of_mem h3
  exact ⟨b, k, o', L, Rr, h1, h2, h4, hs⟩
end mem
end Go.L
namespace Go.L
open Go Go.Conc

theorem VR.single {ρ : Ren} {v v' : Value} (h : VR ρ v v') (hs : single v = true) : single v' = true := by
  cases h <;> first | rfl | (simp [L.single] at hs; done)
def allSingle : List Value → Bool
  | [] => true
  | v :: l => single v && allSingle l
theorem VRs.single {ρ : Ren} : ∀ {l l' : List Value}, VRs ρ l l' → allSingle l = true → ∀ v ∈ l', single v = true
  | _, _, .nil, _, v, hv => by cases hv
  | _, _, .cons x x' l l' h1 h2, h, v, hv => by
    simp only [allSingle, Bool.and_eq_true] at h
    rcases List.mem_cons.1 hv with rfl | hv
    · exact h1.single h.1
    · exact h2.single h.2 v hv
theorem putL_app : ∀ (l x : List Value) (o : Nat) (vs : List Value), o + vs.length ≤ l.length → putL (l ++ x) o vs = putL l o vs ++ x
  | [], x, o, vs, h => by
    have : vs = [] := List.eq_nil_of_length_eq_zero (by simp only [List.length_nil] at h; omega)
    subst this
    rw [putL_nil, putL_nil]
  | y :: l, x, o, [], h => by rw [putL_nil, putL_nil]
  | y :: l, x, 0, v :: vs, h => by
    simp only [List.cons_append, putL]
    rw [putL_app l x 0 vs (by simp at h ⊢; omega)]
  | y :: l, x, o + 1, v :: vs, h => by
    simp only [List.cons_append, putL]
    rw [putL_app l x o (v :: vs) (by simp at h ⊢; omega)]

section ops
variable {P : Program} {ρ : Ren} {n : Nat} {ce e : Env} {o : Oper} {s : St} {v : Value} {m m' : Mem} {F : Nat × Obj → Prop} {R : Nat → Option Obj}

theorem room0 {o : CObj} {o' : Obj} : Room P 0 o o' := by
  cases o <;> cases o' <;> simp [Room]

def allocV (P : Program) (m : Mem) : Op → Option (Value × Mem)
  | .alloc T => match tinfo P T with
    | some ti => bif flatAll flat ti.zero && m.more then some (.pointer (some ⟨m.next, 0, none⟩), m.add (.cells ti.zero T)) else none
    | none => none
  | _ => none
theorem alloc_ok (hr : Rel P ρ m F R s) (h : allocV P m o.op = some (v, m')) : Acts P n e o ρ m F R s v m' := by
  unfold allocV at h
  split at h <;> try (cases h; done)
  rename_i T heq
  split at h <;> try (cases h; done)
  rename_i ti hti
  obtain ⟨by_, tf⟩ := tf_tinfo hti
  cases hc : (flatAll flat ti.zero && m.more) with
  | false => rw [hc] at h; cases h
  | true =>
    rw [hc] at h; simp only [cond_true, Option.some.injEq, Prod.mk.injEq] at h
    obtain ⟨rfl, rfl⟩ := h
    simp only [Bool.and_eq_true] at hc
    intro f hf K E hK
    simp only [execOp, heq, Instr.alloc, t_bind, t_zero tf, t_newVar, t_pure, zval_cells tf]
    intro b hb
    refine hK _ (.pointer (some ⟨b, 0, none⟩)) (ρ.put m.next (b, 0)) _ (.inl rfl) (.put _ hr.fresh rfl) (.ptr _ b 0 0 (Ren.put_same _ _ _)) (hr.add hc.2 hb ?_ room0)
    have := OR.cells (ρ := ρ.put m.next (b, 0)) ti.zero ti.zero [] T (flatAll_vr hc.1)
    rwa [List.append_nil] at this

def boxV (n : Nat) (ce : Env) (m : Mem) : Op → Option (Value × Mem)
  | .box T x => match evc n ce x with
    | some v => bif m.more then some (.pointer (some ⟨m.next, 0, none⟩), m.add (.cells (cellsL v) T)) else none
    | none => none
  | _ => none
theorem box_ok (he : ER ρ ce e) (hr : Rel P ρ m F R s) (h : boxV n ce m o.op = some (v, m')) : Acts P n e o ρ m F R s v m' := by
  unfold boxV at h
  split at h <;> try (cases h; done)
  rename_i T x heq
  split at h <;> try (cases h; done)
  rename_i u hu
  cases hc : m.more with
  | false => rw [hc] at h; cases h
  | true =>
    rw [hc] at h; simp only [cond_true, Option.some.injEq, Prod.mk.injEq] at h
    obtain ⟨rfl, rfl⟩ := h
    obtain ⟨u', k1, k2⟩ := he.evc hu
    intro f hf K E hK
    simp only [execOp, heq, Instr.box, t_bind, t_newVar, t_pure, hf _ _ k1]
    intro b hb
    refine hK _ (.pointer (some ⟨b, 0, none⟩)) (ρ.put m.next (b, 0)) _ (.inl rfl) (.put _ hr.fresh rfl) (.ptr _ b 0 0 (Ren.put_same _ _ _)) (hr.add hc hb ?_ room0)
    have := OR.cells (ρ := ρ.put m.next (b, 0)) (cellsL u) (cellsL u') [] T ((cells_vr k2).up (Ren.le_put _ hr.fresh))
    rw [List.append_nil] at this
    rwa [show u'.cells = ⟨cellsL u'⟩ from by rw [cellsL_eq]]

def storeV (P : Program) (n : Nat) (ce : Env) (m : Mem) : Op → Option (Value × Mem)
  | .store T x y => match evc n ce x, evc n ce y with
    | some (.pointer (some ⟨i, off, none⟩)), some w => match m.t.get i with
      | some ⟨false, .cells l t⟩ => match tinfo P T with
        | some ti => bif allSingle (cellsL w) && (Nat.beq (cellsL w).length ti.size && Nat.ble (off + (cellsL w).length) l.length) then some (undef, m.set i (.cells (putL l off (cellsL w)) t)) else none
        | none => none
      | _ => none
    | _, _ => none
  | _ => none
theorem Room.put {k : Nat} {l l2 : List Value} {t : TypeId} {c c2 : List Value} {fz fz2 : Nat × Nat} (h : Room P k (.cells l t) (.cells ⟨c⟩ t fz)) (hl : c2.length = c.length) : Room P k (.cells l2 t) (.cells ⟨c2⟩ t fz2) := by
  simp only [Room] at h ⊢
  simpa [hl] using h
theorem store_ok (he : ER ρ ce e) (hr : Rel P ρ m F R s) (h : storeV P n ce m o.op = some (v, m')) : Acts P n e o ρ m F R s v m' := by
  unfold storeV at h
  split at h <;> try (cases h; done)
  rename_i T x y heq
  split at h <;> try (cases h; done)
  rename_i i off w hx hy
  split at h <;> try (cases h; done)
  rename_i l t hm
  split at h <;> try (cases h; done)
  rename_i ti hti
  obtain ⟨by_, tf⟩ := tf_tinfo hti
  cases hc : (allSingle (cellsL w) && (Nat.beq (cellsL w).length ti.size && Nat.ble (off + (cellsL w).length) l.length)) with
  | false => rw [hc] at h; cases h
  | true =>
    rw [hc] at h; simp only [cond_true, Option.some.injEq, Prod.mk.injEq] at h
    obtain ⟨rfl, rfl⟩ := h
    simp only [Bool.and_eq_true, Nat.beq_eq, Nat.ble_eq] at hc
    obtain ⟨x', j1, j2⟩ := he.evc hx
    obtain ⟨w', k1, k2⟩ := he.evc hy
    cases j2
    rename_i b c hb
    obtain ⟨b2, c2, o', L, Rr, hb2, hor, hroom, hs⟩ := hr.split hm
    rw [hb] at hb2; cases hb2
    cases hor
    rename_i l' xx hl
    have hcv := cells_vr k2
    intro f hf K E hK
    have hsz : w'.cells.size = ti.size := by rw [← hc.2.1, hcv.len, cellsL_eq]; simp
    simp only [execOp, heq, Instr.storeAt, hf _ _ j1, hf _ _ k1, Instr.sureAddr, storeVar, t_bind, t_pure, t_size tf, hsz, ne_eq, not_true, if_false]
    rw [← cellsL_eq]
    have hle : off + (cellsL w').length ≤ l'.length := by rw [← hcv.len, ← hl.len]; exact hc.2.2
    refine t_storeCells (cellsL w') 0 (l' ++ xx) s hs (by simp; omega) (hcv.single hc.1) ?_
    rw [Nat.add_zero, putL_app _ _ _ _ hle]
    refine hK _ _ ρ _ (.inr ⟨rfl, rfl⟩) (.same rfl) vr_undef (hr.set hm hb hs (.cells _ _ _ _ (hl.putL hcv off)) (hroom.put ?_))
    simp [putL_len]

def buildSliceV (P : Program) (n : Nat) (ce : Env) (m : Mem) : Op → Option (Value × Mem)
  | .buildSlice T len ps => match tinfo P T with
    | some ⟨.slice E, _, _, _⟩ => match tinfo P E with
      | some te => match evcp n ce ps.toList with
        | some pv => match fillL (fun i => some (i * te.size, te.size)) (zerosL te.zero len) pv with
          | some l => bif flatAll flat te.zero && (m.more && (Nat.beq te.zero.length te.size && (Nat.ble (len * te.size) 16777216 && Nat.ble len capL))) then some (.slice (some ⟨m.next, 0, none⟩) len len, m.add (.cells l E)) else none
          | none => none
        | none => none
      | none => none
    | _ => none
  | _ => none
theorem zeros_vr {z : List Value} (hz : flatAll flat z = true) : ∀ k, VRs ρ (zerosL z k) (zerosL z k)
  | 0 => .nil
  | k + 1 => (flatAll_vr hz).append (zeros_vr hz k)
theorem buildSlice_ok (he : ER ρ ce e) (hr : Rel P ρ m F R s) (h : buildSliceV P n ce m o.op = some (v, m')) : Acts P n e o ρ m F R s v m' := by
  unfold buildSliceV at h
  split at h <;> try (cases h; done)
  rename_i T len ps heq
  split at h <;> try (cases h; done)
  rename_i E _ _ _ hti
  split at h <;> try (cases h; done)
  rename_i te hte
  split at h <;> try (cases h; done)
  rename_i pv hpv
  split at h <;> try (cases h; done)
  rename_i l hl
  obtain ⟨by_, tf⟩ := tf_tinfo hti
  obtain ⟨by2, tf'⟩ := tf_tinfo hte
  cases hc : (flatAll flat te.zero && (m.more && (Nat.beq te.zero.length te.size && (Nat.ble (len * te.size) 16777216 && Nat.ble len capL)))) with
  | false => rw [hc] at h; cases h
  | true =>
    rw [hc] at h; simp only [cond_true, Option.some.injEq, Prod.mk.injEq] at h
    obtain ⟨rfl, rfl⟩ := h
    simp only [Bool.and_eq_true, Nat.beq_eq, Nat.ble_eq] at hc
    obtain ⟨hz, hmore, hz', hle, hcap⟩ := hc
    obtain ⟨pv', k1, k2⟩ := evcp_ok he hpv
    obtain ⟨l', k3, k4⟩ := fillL_vr _ k2 (zeros_vr hz len) hl
    intro f hf K Q hK
    have hle' : ¬ len * te.size > 2 ^ 24 := by omega
    rw [partsL_eq] at k3
    have h1 := fill_eq _ _ _ _ k3
    have hfin : ∀ b, ¬ s.knows b → K (.value (.slice (some ⟨b, 0, none⟩) len len)) ⟨s.ro, (b, .cells ⟨l'⟩ E) :: s.rw⟩ := by
      intro b hb
      refine hK _ _ (ρ.put m.next (b, 0)) _ (.inl rfl) (.put _ hr.fresh rfl) (.slice _ b 0 0 len len (Ren.put_same _ _ _) hcap) (hr.add hmore hb ?_ room0)
      have := OR.cells (ρ := ρ.put m.next (b, 0)) l l' [] E (k4.up (Ren.le_put _ hr.fresh))
      rwa [List.append_nil] at this
    simp only [execOp, heq, Instr.buildSlice, t_bind, t_und tf, t_size tf', hle', if_false]
    by_cases h0 : len * te.size = 0
    · rw [if_pos h0]
      have hzz : ((Array.range (len * te.size)).map fun i => (#[] : Array Value)[i % (#[] : Array Value).size]!) = ⟨zerosL te.zero len⟩ := by
        rw [h0]
        have : zerosL te.zero len = [] := List.eq_nil_of_length_eq_zero (by rw [zerosL_len, hz', h0])
        rw [this]; simp
      simp only [t_bind, t_pure]
      rw [hzz, hf.partsA k1, h1]
      simp only [t_bind, t_newRow, t_pure]
      exact hfin
    · rw [if_neg h0]
      have hzz : ((Array.range (len * te.size)).map fun i => (⟨te.zero⟩ : Array Value)[i % (⟨te.zero⟩ : Array Value).size]!) = ⟨zerosL te.zero len⟩ := by rw [← hz']; exact zeros_eq te.zero len
      simp only [t_bind, t_zero tf', t_pure, zval_cells tf', hzz, hf.partsA k1, h1, t_newRow]
      exact hfin
end ops
end Go.L
namespace Go.L
open Go Go.Conc

section mem
variable {P : Program} {ρ : Ren} {m : Mem} {F : Nat × Obj → Prop} {R : Nat → Option Obj} {s : St}
/-- a block of one's own is written and has a new number from here on -/
theorem Rel.reput (h : Rel P ρ m F R s) (hm : m.more = true) {i b k : Nat} {co o : CObj} {oo o' : Obj} {L Rr : List (Nat × Obj)} (hi : m.t.get i = some ⟨false, co⟩) (hb : ρ i = some (b, k)) (hs : s.rw = L ++ (b, oo) :: Rr)
    (ho : OR (ρ.put m.next (b, k)) o o') (hk : Room P k o o') : Rel P (ρ.put m.next (b, k)) ((m.del i).add o) F R ⟨s.ro, L ++ (b, o') :: Rr⟩ := by
  have hlt : m.next + 1 < 2 ^ depthT := by simpa [Mem.more, Nat.blt_eq] using hm
  have hil := h.lt hi
  have hg0 : ∀ j, (m.del i).t.get j = if j = i then none else m.t.get j := fun j => Tr.get_put _ _ _ _ (Nat.lt_trans hil h.fits) j
  have hg : ∀ j, ((m.del i).add o).t.get j = if j = m.next then some ⟨false, o⟩ else if j = i then none else m.t.get j := fun j => by
    rw [← hg0]; exact Tr.get_put _ _ _ _ h.fits j
  have hnew : (ρ.put m.next (b, k)) m.next = some (b, k) := Ren.put_same _ _ _
  have hold : ∀ j, j < m.next → (ρ.put m.next (b, k)) j = ρ j := fun j hj => Ren.put_ne _ _ (by omega)
  have hne : ∀ j c b' k', j ≠ i → m.t.get j = some c → c.ro = false → ρ j = some (b', k') → b' ≠ b := by
    intro j c b' k' hji hj hc hr e
    subst e
    exact hji (h.inj j i c _ b' k' k hj hi hc rfl hr hb)
  have hmv : ∀ b1 x, b1 ≠ b → (b1, x) ∈ s.rw → (b1, x) ∈ L ++ (b, o') :: Rr := by
    intro b1 x hne hx
    rw [hs] at hx
    simp only [List.mem_append, List.mem_cons, Prod.mk.injEq] at hx ⊢
    rcases hx with hx | ⟨hx, _⟩ | hx
    · exact .inl hx
    · exact absurd hx hne
    · exact .inr (.inr hx)
  refine ⟨fun j hj => ?_, hlt, fun j hj => ?_, fun j c hj => ?_, fun i' j ci cj b1 k1 k2 hi' hj hci hcj h1 h2 => ?_, fun x hx => ?_, fun j c b1 k1 o1 hj hc h1 hF => ?_, h.ro⟩
  · have hj : m.next + 1 ≤ j := hj
    rw [Ren.put_ne _ _ (by omega)]; exact h.len j (by omega)
  · have hj : m.next + 1 ≤ j := hj
    rw [hg, if_neg (by omega)]
    split
    · rfl
    · exact h.out j (by omega)
  · rw [hg] at hj
    by_cases e : j = m.next
    · rw [if_pos e] at hj; cases hj
      exact ⟨b, k, o', by rw [e]; exact hnew, ho, hk, by simp⟩
    · rw [if_neg e] at hj
      by_cases e2 : j = i
      · rw [if_pos e2] at hj; cases hj
      · rw [if_neg e2] at hj
        obtain ⟨b2, k2, o2, h1, h2, h4, h3⟩ := h.blk j c hj
        refine ⟨b2, k2, o2, by rw [hold j (h.lt hj)]; exact h1, h2.up (Ren.le_put _ h.fresh), h4, ?_⟩
        cases hc : c.ro with
        | true => rw [hc] at h3; simpa using h3
        | false =>
          rw [hc] at h3; simp only [Bool.false_eq_true, if_false] at h3 ⊢
          exact hmv _ _ (hne j c b2 k2 e2 hj hc h1) h3
  · rw [hg] at hi' hj
    have hsp : ∀ j cj b1 k1, (if j = m.next then some (⟨false, o⟩ : CB) else if j = i then none else m.t.get j) = some cj → (ρ.put m.next (b, k)) j = some (b1, k1) → (j = m.next ∧ b1 = b) ∨ (j ≠ m.next ∧ j ≠ i ∧ m.t.get j = some cj ∧ ρ j = some (b1, k1)) := by
      intro j cj b1 k1 hj h1
      by_cases e : j = m.next
      · rw [e, hnew] at h1; cases h1; exact .inl ⟨e, rfl⟩
      · rw [if_neg e] at hj
        by_cases e2 : j = i
        · rw [if_pos e2] at hj; cases hj
        · rw [if_neg e2] at hj
          rw [hold j (h.lt hj)] at h1
          exact .inr ⟨e, e2, hj, h1⟩
    rcases hsp _ _ _ _ hi' h1 with ⟨e1, f1⟩ | ⟨e1, g1, p1, q1⟩ <;> rcases hsp _ _ _ _ hj h2 with ⟨e2, f2⟩ | ⟨e2, g2, p2, q2⟩
    · rw [e1, e2]
    · exact absurd f1 (hne j cj b1 k2 g2 p2 hcj q2)
    · exact absurd f2 (hne i' ci b1 k1 g1 p1 hci q1)
    · exact h.inj i' j ci cj b1 k1 k2 p1 p2 hci hcj q1 q2
  · rcases x with ⟨b1, x⟩
    refine hmv _ _ (fun e => ?_) (h.frame _ hx)
    subst e
    exact h.apart i _ b1 k x hi rfl hb hx
  · rw [hg] at hj
    by_cases e : j = m.next
    · rw [e, hnew] at h1; cases h1
      exact h.apart i _ b k o1 hi rfl hb hF
    · rw [if_neg e] at hj
      by_cases e2 : j = i
      · rw [if_pos e2] at hj; cases hj
      · rw [if_neg e2] at hj
        rw [hold j (h.lt hj)] at h1
        exact h.apart j c b1 k1 o1 hj hc h1 hF
end mem

def strCells (b : ByteArray) : List Value := b.data.toList.map fun x => .int .u8 x.toNat
theorem strCells_vr {ρ : Ren} (l : List UInt8) : VRs ρ (l.map fun x => (.int .u8 x.toNat : Value)) (l.map fun x => (.int .u8 x.toNat : Value)) := by
  induction l with
  | nil => exact .nil
  | cons x l ih => exact .cons _ _ _ _ (.int _ _) ih
def readY (m : Mem) (sz : Nat) : Value → Option (Nat × List Value)
  | .slice none l _ => bif Nat.beq l 0 then some (0, []) else none
  | .slice (some ⟨i, off, none⟩) l _ => match m.t.get i with
    | some ⟨_, .cells c _⟩ => match sub c off (l * sz) with
      | some vs => some (l, vs)
      | none => none
    | _ => none
  | .string b => some (b.size, strCells b)
  | _ => none
theorem readY_ok {P : Program} {ρ : Ren} {m : Mem} {F : Nat × Obj → Prop} {R : Nat → Option Obj} {s : St} {sz q : Nat} {w w' : Value} {nw : List Value} (hr : Rel P ρ m F R s) (hw : VR ρ w w') (h : readY m sz w = some (q, nw)) :
    ∃ nw', VRs ρ nw nw' ∧ (∀ {β : Type} (k : Nat → Sem β) (Q : β → St → Prop) (E : Halt → St → Prop), tri P (Builtin.lenOf w' >>= k) s Q E = tri P (k q) s Q E) ∧
      (∀ {β : Type} (k : Array Value → Sem β) (Q : β → St → Prop) (E : Halt → St → Prop), tri P (k ⟨nw'⟩) s Q E → tri P (Builtin.firstCells sz q w' >>= k) s Q E) := by
  have hsl : ∀ i off l k b kk c', w = .slice (some ⟨i, off, none⟩) l k → w' = .slice (some ⟨b, off, none⟩) l c' → ρ i = some (b, kk) → ∃ nw', VRs ρ nw nw' ∧ (∀ {β : Type} (k : Nat → Sem β) (Q : β → St → Prop) (E : Halt → St → Prop), tri P (Builtin.lenOf w' >>= k) s Q E = tri P (k q) s Q E) ∧
      (∀ {β : Type} (k : Array Value → Sem β) (Q : β → St → Prop) (E : Halt → St → Prop), tri P (k ⟨nw'⟩) s Q E → tri P (Builtin.firstCells sz q w' >>= k) s Q E) := by
    intro i off l k b kk c' e1 e2 hb
    subst e1 e2
    simp only [readY] at h
    split at h <;> try (cases h; done)
    rename_i rb c t hm
    split at h <;> try (cases h; done)
    rename_i vs hvs
    simp only [Option.some.injEq, Prod.mk.injEq] at h
    obtain ⟨rfl, rfl⟩ := h
    obtain ⟨b2, c2, o', hb2, hor, hhas⟩ := hr.has hm
    rw [hb] at hb2; cases hb2
    cases hor
    rename_i l' x' hl
    obtain ⟨vs', k3, k4⟩ := hl.sub hvs x'
    refine ⟨vs', k4, fun k Q E => rfl, fun k Q E hk => ?_⟩
    simp only [Builtin.firstCells]
    exact t_loadCells ⟨_, _, _, hhas, k3⟩ hk
  cases hw with
  | slice0 l c =>
    simp only [readY] at h
    cases hl : Nat.beq l 0 with
    | false => rw [hl] at h; cases h
    | true =>
      rw [hl] at h; simp only [cond_true, Option.some.injEq, Prod.mk.injEq] at h
      obtain ⟨rfl, rfl⟩ := h
      have := Nat.eq_of_beq_eq_true hl
      subst this
      exact ⟨[], .nil, fun k Q E => rfl, fun k Q E hk => hk⟩
  | slice i b c o l k hb hk => exact hsl i o l k b c k rfl rfl hb
  | sliceU i b c o l k hb h1 h2 h3 => exact hsl i o l k b c _ rfl rfl hb
  | string b =>
    simp only [readY, Option.some.injEq, Prod.mk.injEq] at h
    obtain ⟨rfl, rfl⟩ := h
    refine ⟨strCells b, strCells_vr _, fun k Q E => rfl, fun k Q E hk => ?_⟩
    have he : b.extract 0 b.size = b := by
      apply ByteArray.ext
      rw [ByteArray.data_extract]
      exact Array.extract_size
    have : ((b.extract 0 b.size).data.map fun b => (.int .u8 b.toNat : Value)) = ⟨strCells b⟩ := by
      rw [he]; rcases b with ⟨⟨l⟩⟩; simp [strCells]
    simp only [Builtin.firstCells, this, t_pure]
    exact hk
  | _ => simp [readY] at h

def isSlOrStr : TypeDesc → Bool
  | .slice _ | .string => true
  | _ => false
def tbytes (P : Program) (t : TypeId) : Nat := match P.info? t with | some i => i.bytes | none => 1000000
def appendV (P : Program) (n : Nat) (ce : Env) (m : Mem) : Op → Option (Value × Mem)
  | .call ⟨.builtin .append, xs, ts⟩ => match xs.toList, ts.toList with
    | [x, y], [T, U] => match tinfo P T, tinfo P U with
      | some ⟨.slice E, _, _, _⟩, some tu => match tinfo P E with
        | some te => match evc n ce x, evc n ce y with
          | some (.slice a len k), some w => match readY m te.size w with
            | some (q, nw) =>
              bif isSlOrStr tu.d && (flatAll flat te.zero && (Nat.beq te.zero.length te.size && (Nat.beq nw.length (q * te.size) && (allSingle nw && (Nat.ble (len + q) 1048576 && (Nat.ble (tbytes P E) 65536 && Nat.ble len k)))))) then
                bif Nat.beq q 0 then some (.slice a len k, m) else
                match a with
                | none => bif Nat.beq len 0 && (Nat.beq k 0 && m.more) then some (.slice (some ⟨m.next, 0, none⟩) q capU, m.add (.cells nw E)) else none
                | some ⟨i, off, none⟩ => match m.t.get i with
                  | some ⟨rb, .cells l t⟩ =>
                    bif Nat.ble k capL then
                      bif Nat.blt k (len + q) then
                        match sub l off (len * te.size) with
                        | some old => bif m.more then some (.slice (some ⟨m.next, 0, none⟩) (len + q) capU, m.add (.cells (old ++ nw) E)) else none
                        | none => none
                      else bif !rb && Nat.ble (off + len * te.size + nw.length) l.length then some (.slice (some ⟨i, off, none⟩) (len + q) k, m.set i (.cells (putL l (off + len * te.size) nw) t)) else none
                    else bif !rb && (Nat.beq k capU && (Nat.beq off 0 && (Nat.beq t E && (Nat.beq l.length (len * te.size) && m.more)))) then
                      some (.slice (some ⟨m.next, 0, none⟩) (len + q) capU, (m.del i).add (.cells (l ++ nw) E)) else none
                  | _ => none
                | _ => none
              else none
            | none => none
          | _, _ => none
        | none => none
      | _, _ => none
    | _, _ => none
  | _ => none

section real
variable {P : Program} {s : St} {f : Operand → Value} {o : Oper} {K : Next → St → Prop} {Er : Halt → St → Prop}
variable {T U E : TypeId} {sz by_ szT byT szU byU : Nat} {z zT zU : List Value} {ag agT agU : Bool} {d dU : TypeDesc} {va : Option Addr} {len vcap q : Nat} {w' : Value} {nw' od' : List Value} {x y : Operand}
theorem arr2 {α : Type} {xs : Array α} {x y : α} (h : xs.toList = [x, y]) : xs = #[x, y] := by
  rcases xs with ⟨xs⟩; simp only at h; rw [h]
/-- there is room -/
theorem t_appendIn (heq : o.op = .call ⟨.builtin .append, #[x, y], #[T, U]⟩) (hx : f x = .slice va len vcap) (hy : f y = w') (tf : TF P T (.slice E) szT byT zT agT) (tfU : TF P U dU szU byU zU agU) (hU : isSlOrStr dU = true) (tf' : TF P E d sz by_ z ag)
    (hlo : ∀ {β : Type} (k : Nat → Sem β) (Q : β → St → Prop) (E : Halt → St → Prop), tri P (Builtin.lenOf w' >>= k) s Q E = tri P (k q) s Q E)
    (hfc : ∀ {β : Type} (k : Array Value → Sem β) (Q : β → St → Prop) (E : Halt → St → Prop), tri P (k ⟨nw'⟩) s Q E → tri P (Builtin.firstCells sz q w' >>= k) s Q E)
    (hroom : len + q ≤ vcap) (hK : tri P ((match va with | some a => storeCells (a.add (len * sz)) nw' | none => pure ()) >>= fun _ => (pure (.value (.slice va (len + q) vcap)) : Sem Next)) s K Er) : tri P (execOp f o) s K Er := by
  have hd : (∃ e, dU = .slice e) ∨ dU = .string := by
    revert hU tfU; cases dU <;> simp [isSlOrStr]
  rcases hd with ⟨eU, rfl⟩ | rfl
  all_goals
    simp only [execOp, heq, resolve, invoke, builtin, Builtin.append_, List.map_toArray, List.map_cons, List.map_nil, hx, hy, t_pure, t_bind, List.getElem?_toArray, List.getElem?_cons_zero, List.getElem?_cons_succ, t_und tf, t_size tf', t_und tfU]
    simp only [Bool.false_eq_true, if_false, Bool.not_false, if_true, hlo, t_pure, t_bind]
    rw [if_pos hroom]
    simp only [t_bind]
    refine hfc _ _ _ ?_
    cases va with
    | none => simpa only [t_bind, t_pure] using hK
    | some a => simp only [t_bind]; exact hK
/-- there is none -/
theorem t_appendOut (heq : o.op = .call ⟨.builtin .append, #[x, y], #[T, U]⟩) (hx : f x = .slice va len vcap) (hy : f y = w') (tf : TF P T (.slice E) szT byT zT agT) (tfU : TF P U dU szU byU zU agU) (hU : isSlOrStr dU = true) (tf' : TF P E d sz by_ z ag)
    (hlo : ∀ {β : Type} (k : Nat → Sem β) (Q : β → St → Prop) (E : Halt → St → Prop), tri P (Builtin.lenOf w' >>= k) s Q E = tri P (k q) s Q E)
    (hfc : ∀ {β : Type} (k : Array Value → Sem β) (Q : β → St → Prop) (E : Halt → St → Prop), tri P (k ⟨nw'⟩) s Q E → tri P (Builtin.firstCells sz q w' >>= k) s Q E)
    (hfo : ∀ {β : Type} (k : Array Value → Sem β) (Q : β → St → Prop) (E : Halt → St → Prop), tri P (k ⟨od'⟩) s Q E → tri P (Builtin.firstCells sz len (.slice va len vcap) >>= k) s Q E)
    (hroom : vcap < len + q) (hb : noGrowth (len + q) by_)
    (hK : ∀ newCap b, len + q ≤ newCap → ¬ s.knows b → K (.value (.slice (some ⟨b, 0, none⟩) (len + q) newCap)) ⟨s.ro, (b, .cells ⟨od' ++ nw' ++ zerosL z (newCap - (len + q))⟩ E (0, 0)) :: s.rw⟩) : tri P (execOp f o) s K Er := by
  have hd : (∃ e, dU = .slice e) ∨ dU = .string := by
    revert hU tfU; cases dU <;> simp [isSlOrStr]
  rcases hd with ⟨eU, rfl⟩ | rfl
  all_goals
    simp only [execOp, heq, resolve, invoke, builtin, Builtin.append_, List.map_toArray, List.map_cons, List.map_nil, hx, hy, t_pure, t_bind, List.getElem?_toArray, List.getElem?_cons_zero, List.getElem?_cons_succ, t_und tf, t_size tf', t_und tfU]
    simp only [Bool.false_eq_true, if_false, Bool.not_false, if_true, hlo, t_pure, t_bind]
    rw [if_neg (by omega)]
    have hmax : ¬ (((len + q : Nat) : Int) > IntKind.i64.max) := by
      have : IntKind.i64.max = 9223372036854775807 := by decide
      obtain ⟨h2, _⟩ := hb
      rw [this]; omega
    have hc : ¬ (Builtin.nextslicecap (len + q) vcap * by_ > 2 ^ 48) := by
      have h1 := nextcap_le hroom
      obtain ⟨h2, h3⟩ := hb
      have h4 : Builtin.nextslicecap (len + q) vcap ≤ 2097920 := by omega
      have h5 := Nat.mul_le_mul h4 h3
      have : (2097920 * 65536 : Nat) ≤ 2 ^ 48 := by decide
      omega
    obtain ⟨ti, hti, hti1, hti2, _⟩ := tf'.info
    simp only [t_bind, t_typeInfo hti, hmax, false_and, if_false]
    rw [hti2, if_neg hc]
    simp only [t_bind]
    rw [t_chooseE rfl]
    intro tp
    generalize hcap : Question.cut (.appendCap (len + q) vcap E) tp = newCap
    have hge : len + q ≤ newCap := by rw [← hcap]; simp [Question.cut]
    simp only [t_bind]
    rw [t_typeInfo hti]
    simp only [t_bind]
    refine t_askRoom ?_
    simp only [t_bind]
    refine hfo _ _ _ ?_
    simp only [t_bind]
    refine hfc _ _ _ ?_
    simp only [t_bind, t_zero tf', zval_cells tf', Builtin.zeroCells]
    have hzz : ((Array.range ((newCap - (len + q)) * (⟨z⟩ : Array Value).size)).map fun i => (⟨z⟩ : Array Value)[i % (⟨z⟩ : Array Value).size]!) = ⟨zerosL z (newCap - (len + q))⟩ := zeros_eq z _
    rw [hzz]
    simp only [t_newRow, t_pure]
    intro b' hb'
    have hcat : ((⟨od'⟩ : Array Value) ++ ⟨nw'⟩ ++ ⟨zerosL z (newCap - (len + q))⟩) = ⟨od' ++ nw' ++ zerosL z (newCap - (len + q))⟩ := by simp
    rw [hcat]
    exact hK newCap b' hge hb'
end real
end Go.L
namespace Go.L
open Go Go.Conc
section ops
variable {P : Program} {ρ : Ren} {n : Nat} {ce e : Env} {o : Oper} {s : St} {v : Value} {m m' : Mem} {F : Nat × Obj → Prop} {R : Nat → Option Obj}

theorem drop_split {x : List Value} {k : Nat} (h : k ≤ x.length) : ∃ a b, x = a ++ b ∧ a.length = k := ⟨x.take k, x.drop k, (List.take_append_drop k x).symm, by simp [h]⟩
theorem putL_end {l x nw : List Value} (h : nw.length ≤ x.length) : putL (l ++ x) l.length nw = l ++ nw ++ x.drop nw.length := by
  rw [putL_eq _ _ _ (by simp; omega), List.take_left]
  congr 1
  rw [List.drop_append]
  rw [List.drop_eq_nil_of_le (by omega)]
  simp
theorem append_ok (he : ER ρ ce e) (hr : Rel P ρ m F R s) (h : appendV P n ce m o.op = some (v, m')) : Acts P n e o ρ m F R s v m' := by
  unfold appendV at h
  split at h <;> try (cases h; done)
  rename_i xs ts heq
  split at h <;> try (cases h; done)
  rename_i x y T U hxs hts
  have hxs := arr2 hxs
  have hts := arr2 hts
  subst hxs hts
  split at h <;> try (cases h; done)
  rename_i E _ _ _ tu hti htu
  split at h <;> try (cases h; done)
  rename_i te hte
  split at h <;> try (cases h; done)
  rename_i a len k w hx hy
  split at h <;> try (cases h; done)
  rename_i q nw hread
  obtain ⟨byT, tf⟩ := tf_tinfo hti
  obtain ⟨byU, tfU⟩ := tf_tinfo htu
  obtain ⟨by_, tf'⟩ := tf_tinfo hte
  cases hc : (isSlOrStr tu.d && (flatAll flat te.zero && (Nat.beq te.zero.length te.size && (Nat.beq nw.length (q * te.size) && (allSingle nw && (Nat.ble (len + q) 1048576 && (Nat.ble (tbytes P E) 65536 && Nat.ble len k))))))) with
  | false => rw [hc] at h; cases h
  | true =>
  rw [hc] at h; simp only [cond_true] at h
  simp only [Bool.and_eq_true, Nat.beq_eq, Nat.ble_eq] at hc
  obtain ⟨hU, hz, hzl, hnl, hsing, hlim, hby, hlk⟩ := hc
  have hby' : by_ ≤ 65536 := by
    obtain ⟨i, hi, _, h2, _⟩ := tf'.info
    simp only [tbytes, hi] at hby
    omega
  obtain ⟨x', j1, j2⟩ := he.evc hx
  obtain ⟨w', k1, k2⟩ := he.evc hy
  obtain ⟨nw', hnw, hlo, hfc⟩ := readY_ok hr k2 hread
  have hnl' : nw'.length = q * te.size := by rw [← hnw.len, hnl]
  cases hq : Nat.beq q 0 with
  | true =>
    rw [hq] at h; simp only [cond_true, Option.some.injEq, Prod.mk.injEq] at h
    obtain ⟨rfl, rfl⟩ := h
    have hq0 := Nat.eq_of_beq_eq_true hq
    subst hq0
    have hnn : nw' = [] := List.eq_nil_of_length_eq_zero (by simpa using hnl')
    subst hnn
    simp only [Nat.add_zero] at *
    have hgo : ∀ va' c', x' = .slice va' len c' → len ≤ c' → Acts P n e o ρ m F R s (.slice a len k) m := by
      intro va' c' hx' hle f hf K E hK
      refine t_appendIn heq ((hf _ _ j1).trans hx') (hf _ _ k1) tf tfU hU tf' hlo hfc (by omega) ?_
      have : K (.value (.slice va' len c')) s := hK _ _ ρ s (.inl rfl) (.same rfl) (by rw [← hx']; exact j2) hr
      cases va' with
      | none => exact this
      | some a' => exact this
    cases j2 with
    | slice0 l c => exact hgo _ _ rfl hlk
    | slice i b c off l kk hb hkk => exact hgo _ _ rfl hlk
    | sliceU i b c off l kk hb h1 h2 h3 => exact hgo _ _ rfl (by omega)
  | false =>
    rw [hq] at h; simp only [cond_false] at h
    have hq0 : q ≠ 0 := fun e => by rw [e] at hq; cases hq
    have hng : noGrowth (len + q) by_ := ⟨hlim, hby'⟩
    have hsz : te.zero.length = te.size := hzl
    -- a new block, with what was there and what is new
    have hout : ∀ va' c' old old' mm, m.more = true → x' = .slice va' len c' → c' < len + q → VRs ρ old old' → old.length = len * te.size → (mm = m ∨ ∃ i, i < m.next ∧ mm = m.del i) →
        (∀ {β : Type} (k : Array Value → Sem β) (Q : β → St → Prop) (E : Halt → St → Prop), tri P (k ⟨old'⟩) s Q E → tri P (Builtin.firstCells te.size len (.slice va' len c') >>= k) s Q E) →
        ∀ f, Ev n e f → ∀ (K : Next → St → Prop) (E' : Halt → St → Prop), (∀ nx v' ρ' s', NV nx v' → Grow ρ m ρ' (mm.add (.cells (old ++ nw) E)) → VR ρ' (.slice (some ⟨m.next, 0, none⟩) (len + q) capU) v' → Rel P ρ' (mm.add (.cells (old ++ nw) E)) F R s' → K nx s') → tri P (execOp f o) s K E' := by
      intro va' c' old old' mm hmore hx' hlt hold hol hmm hfo f hf K E' hK
      refine t_appendOut heq ((hf _ _ j1).trans hx') (hf _ _ k1) tf tfU hU tf' hlo hfc hfo hlt hng fun newCap b hge hb => ?_
      have hr' : Rel P ρ mm F R s := by
        rcases hmm with rfl | ⟨i, hi, rfl⟩
        · exact hr
        · exact hr.del hi
      have hnx : mm.next = m.next := by
        rcases hmm with rfl | ⟨i, hi, rfl⟩ <;> rfl
      have hmore' : mm.more = true := by unfold Mem.more; rw [hnx]; exact hmore
      clear hmm
      rcases mm with ⟨mt, mn⟩
      simp only at hnx
      subst hnx
      refine hK _ _ (ρ.put m.next (b, newCap)) _ (.inl rfl) (.put _ hr.fresh rfl) ?_ (hr'.add hmore' hb ?_ ?_)
      · have := VR.sliceU (ρ := ρ.put m.next (b, newCap)) m.next b newCap 0 (len + q) capU (Ren.put_same _ _ _) (by decide) (Nat.le_refl _) (by simpa using hge)
        simpa using this
      · exact .cells _ _ _ _ ((hold.append hnw).up (Ren.le_put _ hr.fresh))
      · obtain ⟨i, hi, h1, _⟩ := tf'.info
        right
        intro i2 hi2
        rw [hi] at hi2; cases hi2
        simp only [List.size_toArray, List.length_append, zerosL_len, ← hold.len, hol, hnl', hsz, h1, ← Nat.add_mul]
        congr 1; omega
    split at h <;> try (cases h; done)
    · -- nil so far
      rename_i a
      cases hcc : (Nat.beq len 0 && (Nat.beq k 0 && m.more)) with
      | false => rw [hcc] at h; cases h
      | true =>
      rw [hcc] at h; simp only [cond_true, Option.some.injEq, Prod.mk.injEq] at h
      obtain ⟨rfl, rfl⟩ := h
      simp only [Bool.and_eq_true, Nat.beq_eq] at hcc
      obtain ⟨rfl, rfl, hmore⟩ := hcc
      cases j2
      have := hout none 0 [] [] m hmore rfl (by omega) .nil (by simp) (.inl rfl) (fun k Q E hk => hk)
      rw [Nat.zero_add, List.nil_append] at this
      exact this
    · rename_i i off
      split at h <;> try (cases h; done)
      rename_i rb l t hm
      have hil := hr.lt hm
      cases hk : Nat.ble k capL with
      | true =>
        rw [hk] at h; simp only [cond_true] at h
        have hkl := Nat.le_of_ble_eq_true hk
        cases j2 with
        | sliceU _ _ _ _ _ _ _ h1 => omega
        | slice _ b c _ _ _ hb _ =>
        obtain ⟨b2, c2, o', hb2, hor, hhas⟩ := hr.has hm
        rw [hb] at hb2; cases hb2
        cases hor
        rename_i l' xx hl
        cases hlt : Nat.blt k (len + q) with
        | true =>
          rw [hlt] at h; simp only [cond_true] at h
          split at h <;> try (cases h; done)
          rename_i old hold
          cases hmore : m.more with
          | false => rw [hmore] at h; cases h
          | true =>
          rw [hmore] at h; simp only [cond_true, Option.some.injEq, Prod.mk.injEq] at h
          obtain ⟨rfl, rfl⟩ := h
          obtain ⟨old', g1, g2⟩ := hl.sub hold xx
          refine hout _ _ old old' m hmore rfl (by simpa [Nat.blt_eq] using hlt) g2 (sub_eq _ _ _ _ hold).1 (.inl rfl) (fun k Q E hk => ?_)
          simp only [Builtin.firstCells]
          exact t_loadCells ⟨_, _, _, hhas, g1⟩ hk
        | false =>
          rw [hlt] at h; simp only [cond_false] at h
          cases hcc : (!rb && Nat.ble (off + len * te.size + nw.length) l.length) with
          | false => rw [hcc] at h; cases h
          | true =>
          rw [hcc] at h; simp only [cond_true, Option.some.injEq, Prod.mk.injEq] at h
          obtain ⟨rfl, rfl⟩ := h
          simp only [Bool.and_eq_true, Bool.not_eq_true', Nat.ble_eq] at hcc
          obtain ⟨rfl, hfit⟩ := hcc
          have hge : len + q ≤ k := by
            rcases Nat.lt_or_ge k (len + q) with h1 | h1
            · rw [show Nat.blt k (len + q) = true from by simpa [Nat.blt_eq] using h1] at hlt; cases hlt
            · exact h1
          obtain ⟨b2, c2, o', L, Rr, hb2, hor, hroom, hs⟩ := hr.split hm
          rw [hb] at hb2; cases hb2
          cases hor
          rename_i l2 x2 hl2
          intro f hf K E' hK
          refine t_appendIn heq (hf _ _ j1) (hf _ _ k1) tf tfU hU tf' hlo hfc hge ?_
          simp only [add_none]
          have hfit' : off + len * te.size + nw'.length ≤ l2.length := by rw [← hnw.len, ← hl2.len]; exact hfit
          refine t_storeCells nw' 0 (l2 ++ x2) s hs (by simp; omega) (hnw.single hsing) ?_
          rw [Nat.add_zero, putL_app _ _ _ _ hfit']
          refine hK _ _ ρ _ (.inl rfl) (.same rfl) (.slice i b c off (len + q) k hb hkl) (hr.set hm hb hs (.cells _ _ _ _ (hl2.putL hnw _)) (hroom.put ?_))
          simp [putL_len]
      | false =>
        rw [hk] at h; simp only [cond_false] at h
        cases hcc : (!rb && (Nat.beq k capU && (Nat.beq off 0 && (Nat.beq t E && (Nat.beq l.length (len * te.size) && m.more))))) with
        | false => rw [hcc] at h; cases h
        | true =>
        rw [hcc] at h; simp only [cond_true, Option.some.injEq, Prod.mk.injEq] at h
        obtain ⟨rfl, rfl⟩ := h
        simp only [Bool.and_eq_true, Bool.not_eq_true', Nat.beq_eq] at hcc
        obtain ⟨rfl, rfl, rfl, rfl, hll, hmore⟩ := hcc
        cases j2 with
        | slice _ b c _ _ _ hb hk2 => exact absurd hk2 (by decide)
        | sliceU _ b c _ _ _ hb h1 h2 h3 =>
        obtain ⟨b2, c2, o', L, Rr, hb2, hor, hroom, hs⟩ := hr.split hm
        rw [hb] at hb2; cases hb2
        cases hor
        rename_i l' xx hl
        intro f hf K E' hK
        have hll' : l'.length = len * te.size := by rw [← hl.len, hll]
        have hsub : ∃ z, sub (l' ++ xx) 0 (len * te.size) = some l' := ⟨0, by rw [← hll', sub_of_take (by simp)]; simp⟩
        by_cases hroomq : len + q ≤ c - (capU - capU)
        · refine t_appendIn heq (hf _ _ j1) (hf _ _ k1) tf tfU hU tf' hlo hfc hroomq ?_
          simp only [add_none, Nat.zero_add]
          have hcsz : (l' ++ xx).length = c * te.size := by
            obtain ⟨i2, hi2, h5, _⟩ := tf'.info
            rcases hroom with h6 | h6
            · subst h6; omega
            · have := h6 i2 hi2; simpa [h5] using this
          have hfit : nw'.length ≤ xx.length := by
            rw [List.length_append, hll'] at hcsz
            have : (len + q) * te.size ≤ c * te.size := Nat.mul_le_mul_right _ (by simpa using hroomq)
            rw [Nat.add_mul] at this
            omega
          refine t_storeCells nw' 0 (l' ++ xx) s hs (by simp [hll']; omega) (hnw.single hsing) ?_
          rw [Nat.add_zero, ← hll', putL_end hfit]
          have hrel := hr.reput hmore hm hb hs (o := .cells (l ++ nw) t) (o' := .cells ⟨l' ++ nw' ++ xx.drop nw'.length⟩ t (0, 0)) (.cells _ _ _ _ ((hl.append hnw).up (Ren.le_put _ hr.fresh))) (by
            right
            intro i2 hi2
            obtain ⟨i3, hi3, h5, _⟩ := tf'.info
            rw [hi3] at hi2; cases hi2
            rw [h5, ← hcsz]
            simp; omega)
          refine hK _ _ (ρ.put m.next (b, c)) _ (.inl rfl) (.put _ hr.fresh rfl) ?_ hrel
          have := VR.sliceU (ρ := ρ.put m.next (b, c)) m.next b c 0 (len + q) capU (Ren.put_same _ _ _) (by decide) (Nat.le_refl _) (by simpa using hroomq)
          exact this
        · refine hout _ _ l l' (m.del i) hmore rfl (by omega) hl hll (.inr ⟨i, hil, rfl⟩) (fun k Q E hk => ?_) f hf K E' hK
          simp only [Builtin.firstCells]
          refine t_loadCells ⟨_, _, _, .inr (by rw [hs]; exact mem_mid), ?_⟩ hk
          exact hsub.choose_spec
end ops
end Go.L
namespace Go.L
open Go Go.Conc
theorem t_getObj {P : Program} {α : Type} {s : St} {r : Nat} {o : Obj} {k : Obj → Sem α} {Q : α → St → Prop} {E : Halt → St → Prop} (h : s.has r o) (h1 : Obj.isCells o = false) (h2 : o.isChan = false) (hk : tri P (k o) s Q E) : tri P (getObj r >>= k) s Q E := ⟨o, h, h1, h2, hk⟩
theorem t_setObj {P : Program} {α : Type} {s : St} {r : Nat} {o o' : Obj} {L R : List (Nat × Obj)} {k : Unit → Sem α} {Q : α → St → Prop} {E : Halt → St → Prop} (h2 : o.isChan = false) (hs : s.rw = L ++ (r, o') :: R) (h1 : Obj.isCells o' = false) (hk : tri P (k ()) ⟨s.ro, L ++ (r, o) :: R⟩ Q E) : tri P (setObj r o >>= k) s Q E := ⟨h2, L, o', R, hs, h1, hk⟩
section ops
variable {P : Program} {ρ : Ren} {n : Nat} {ce e : Env} {o : Oper} {s : St} {v : Value} {m m' : Mem} {F : Nat × Obj → Prop} {R : Nat → Option Obj}

/-! ### What steps through a string -/
def rangeV (P : Program) (n : Nat) (ce : Env) (m : Mem) : Op → Option (Value × Mem)
  | .range T x => match evc n ce x with
    | some (.string b) => match tinfo P T with
      | some ⟨.string, _, _, _⟩ => bif m.more then some (.pointer (some ⟨m.next, 0, none⟩), m.add (.strIter b 0)) else none
      | _ => none
    | _ => none
  | _ => none
theorem range_ok (he : ER ρ ce e) (hr : Rel P ρ m F R s) (h : rangeV P n ce m o.op = some (v, m')) : Acts P n e o ρ m F R s v m' := by
  unfold rangeV at h
  split at h <;> try (cases h; done)
  rename_i T x heq
  split at h <;> try (cases h; done)
  rename_i b hx
  split at h <;> try (cases h; done)
  rename_i hti
  obtain ⟨by_, tf⟩ := tf_tinfo hti
  cases hc : m.more with
  | false => rw [hc] at h; cases h
  | true =>
    rw [hc] at h; simp only [cond_true, Option.some.injEq, Prod.mk.injEq] at h
    obtain ⟨rfl, rfl⟩ := h
    obtain ⟨u', k1, k2⟩ := he.evc hx
    cases k2
    intro f hf K E hK
    simp only [execOp, heq, Instr.range, t_bind, t_und tf, hf _ _ k1, t_pure, t_newObj]
    intro b' hb'
    exact hK _ (.pointer (some ⟨b', 0, none⟩)) (ρ.put m.next (b', 0)) _ (.inl rfl) (.put _ hr.fresh rfl) (.ptr _ b' 0 0 (Ren.put_same _ _ _)) (hr.add hc hb' (.strIter b 0) trivial)

def nextV (n : Nat) (ce : Env) (m : Mem) : Op → Option (Value × Mem)
  | .next x true => match evc n ce x with
    | some (.pointer (some ⟨i, 0, none⟩)) => match m.t.get i with
      | some ⟨false, .strIter b pos⟩ =>
        bif Nat.blt pos b.size then some (.tuple ⟨[.bool true, .int .i64 pos, .int .i32 (Utf8.decode b pos).1]⟩, m.set i (.strIter b (pos + (Utf8.decode b pos).2)))
        else some (.tuple ⟨[.bool false]⟩, m)
      | _ => none
    | _ => none
  | _ => none
theorem next_ok (he : ER ρ ce e) (hr : Rel P ρ m F R s) (h : nextV n ce m o.op = some (v, m')) : Acts P n e o ρ m F R s v m' := by
  unfold nextV at h
  split at h <;> try (cases h; done)
  rename_i x heq
  split at h <;> try (cases h; done)
  rename_i i hx
  split at h <;> try (cases h; done)
  rename_i b pos hm
  obtain ⟨u', k1, k2⟩ := he.evc hx
  cases k2
  rename_i bb c hb
  obtain ⟨b2, c2, o', L, Rr, hb2, hor, hroom, hs⟩ := hr.split hm
  rw [hb] at hb2; cases hb2
  cases hor
  have hhas : s.has bb (.stringIter b pos) := .inr (by rw [hs]; exact mem_mid)
  intro f hf K E hK
  cases hlt : Nat.blt pos b.size with
  | true =>
    rw [hlt] at h; simp only [cond_true, Option.some.injEq, Prod.mk.injEq] at h
    obtain ⟨rfl, rfl⟩ := h
    have hlt' : pos < b.size := by simpa [Nat.blt_eq] using hlt
    simp only [execOp, heq, Instr.next, hf _ _ k1, t_bind]
    refine t_getObj hhas rfl rfl ?_
    simp only [t_bind, if_pos hlt']
    refine t_setObj rfl hs rfl ?_
    exact hK _ _ ρ _ (.inl rfl) (.same rfl) (.tuple _ _ (.cons _ _ _ _ (.bool _) (.cons _ _ _ _ (.int _ _) (.cons _ _ _ _ (.int _ _) .nil)))) (hr.set hm hb hs (.strIter _ _) trivial)
  | false =>
    rw [hlt] at h; simp only [cond_false, Option.some.injEq, Prod.mk.injEq] at h
    obtain ⟨rfl, rfl⟩ := h
    have hlt' : ¬ pos < b.size := by
      intro hh
      rw [show Nat.blt pos b.size = true from by simpa [Nat.blt_eq] using hh] at hlt; cases hlt
    simp only [execOp, heq, Instr.next, hf _ _ k1, t_bind]
    refine t_getObj hhas rfl rfl ?_
    simp only [t_bind, if_neg hlt']
    exact hK _ _ ρ _ (.inl rfl) (.same rfl) (.tuple _ _ (.cons _ _ _ _ (.bool _) .nil)) hr
end ops
end Go.L
namespace Go.L
open Go Go.Conc
section ops
variable {P : Program} {ρ : Ren} {n : Nat} {ce e : Env} {o : Oper} {s : St} {v : Value} {m m' : Mem} {F : Nat × Obj → Prop} {R : Nat → Option Obj}

def makeSliceV (P : Program) (n : Nat) (ce : Env) (m : Mem) : Op → Option (Value × Mem)
  | .makeSlice T x y => match evc n ce x, evc n ce y with
    | some (.int _ l), some (.int _ c) => match tinfo P T with
      | some ⟨.slice E, _, _, _⟩ => match tinfo P E with
        | some te => bif (decide (0 ≤ l) && (decide (l ≤ c) && decide (c ≤ 1000000))) && (flatAll flat te.zero && (Nat.beq te.zero.length te.size && (Nat.ble (tbytes P E) 65536 && m.more))) then
            some (.slice (some ⟨m.next, 0, none⟩) l.toNat c.toNat, m.add (.cells (zerosL te.zero c.toNat) E)) else none
        | none => none
      | _ => none
    | _, _ => none
  | _ => none
theorem makeSlice_ok (he : ER ρ ce e) (hr : Rel P ρ m F R s) (h : makeSliceV P n ce m o.op = some (v, m')) : Acts P n e o ρ m F R s v m' := by
  unfold makeSliceV at h
  split at h <;> try (cases h; done)
  rename_i T x y heq
  split at h <;> try (cases h; done)
  rename_i k1 l k2 c hx hy
  split at h <;> try (cases h; done)
  rename_i E _ _ _ hti
  split at h <;> try (cases h; done)
  rename_i te hte
  obtain ⟨byT, tf⟩ := tf_tinfo hti
  obtain ⟨by_, tf'⟩ := tf_tinfo hte
  cases hc : ((decide (0 ≤ l) && (decide (l ≤ c) && decide (c ≤ 1000000))) && (flatAll flat te.zero && (Nat.beq te.zero.length te.size && (Nat.ble (tbytes P E) 65536 && m.more)))) with
  | false => rw [hc] at h; cases h
  | true =>
    rw [hc] at h; simp only [cond_true, Option.some.injEq, Prod.mk.injEq] at h
    obtain ⟨rfl, rfl⟩ := h
    simp only [Bool.and_eq_true, decide_eq_true_eq, Nat.beq_eq, Nat.ble_eq] at hc
    obtain ⟨⟨h0, hlc, hcm⟩, hz, hzl, hby, hmore⟩ := hc
    obtain ⟨i, hi, hi1, hi2, hi3⟩ := tf'.info
    have hby' : by_ ≤ 65536 := by simp only [tbytes, hi] at hby; omega
    obtain ⟨x', j1, j2⟩ := he.evc hx
    obtain ⟨y', j3, j4⟩ := he.evc hy
    cases j2; cases j4
    have wl : IntKind.i64.wrap l = l := wrap64_id l (by omega)
    have wc : IntKind.i64.wrap c = c := wrap64_id c (by omega)
    obtain ⟨cn, rfl⟩ := Int.eq_ofNat_of_zero_le (show 0 ≤ c by omega)
    obtain ⟨ln, rfl⟩ := Int.eq_ofNat_of_zero_le h0
    have hbig : ¬ ((by_ : Int) * (cn : Int) > 2 ^ 48) := by
      have h1 : by_ * cn ≤ 65536 * 1000000 := Nat.mul_le_mul hby' (by omega)
      have h2 : ((by_ * cn : Nat) : Int) ≤ 65536000000 := by omega
      rw [Int.natCast_mul] at h2
      omega
    have hneg : ¬ ((cn : Int) < 0) := by omega
    have hneg2 : ¬ ((ln : Int) < 0) := by omega
    have hgt : ¬ ((ln : Int) > (cn : Int)) := by omega
    intro f hf K Er hK
    have hfin : ∀ b, ¬ s.knows b → K (.value (.slice (some ⟨b, 0, none⟩) ln cn)) ⟨s.ro, (b, .cells ⟨zerosL te.zero cn⟩ E (0, 0)) :: s.rw⟩ := by
      intro b hb
      refine hK _ _ (ρ.put m.next (b, 0)) _ (.inl rfl) (.put _ hr.fresh rfl) ?_ (hr.add hmore hb ?_ room0)
      · exact .slice _ b 0 0 _ _ (Ren.put_same _ _ _) (by show cn ≤ capL; simp only [capL]; omega)
      · have := OR.cells (ρ := ρ.put m.next (b, 0)) (zerosL te.zero cn) (zerosL te.zero cn) [] E (zeros_vr hz cn)
        rw [List.append_nil] at this
        exact this
    simp only [execOp, heq, Instr.makeSlice, hf _ _ j1, hf _ _ j3, asInt, asIntOf, t_bind, t_und tf, t_pure, t_typeInfo hi, hi2, wl, wc, hneg, hneg2, hgt, hbig, decide_false, Bool.or_self, Bool.false_eq_true, if_false]
    refine t_askRoom ?_
    simp only [t_bind, t_size tf', Int.toNat_natCast]
    by_cases hn : cn * te.size = 0
    · rw [if_pos hn]
      have hzz : ((Array.range (cn * te.size)).map fun i => (#[] : Array Value)[i % (#[] : Array Value).size]!) = ⟨zerosL te.zero cn⟩ := by
        rw [hn]
        have : zerosL te.zero cn = [] := List.eq_nil_of_length_eq_zero (by rw [zerosL_len, hzl, hn])
        rw [this]; simp
      simp only [t_bind, t_pure]
      rw [hzz]
      simp only [t_newRow]
      exact hfin
    · rw [if_neg hn]
      have hzz : ((Array.range (cn * te.size)).map fun i => (⟨te.zero⟩ : Array Value)[i % (⟨te.zero⟩ : Array Value).size]!) = ⟨zerosL te.zero cn⟩ := by rw [← hzl]; exact zeros_eq te.zero cn
      simp only [t_bind, t_zero tf', t_pure, zval_cells tf', hzz, t_newRow]
      exact hfin
end ops
end Go.L
namespace Go.L
open Go Go.Conc

/-! ### Maps whose entries are flat: what is in them is what is really in them -/
def realE (e : MEnt) : MapEntry := ⟨e.key, e.val, e.born⟩
def canE (e : MapEntry) : MEnt := ⟨e.key, e.val, e.born⟩
def flatE : List MEnt → Bool
  | [] => true
  | e :: l => flat e.key && (flat e.val && flatE l)
theorem flatE_eq {ρ : Ren} : ∀ {l : List MEnt} {l' : List MapEntry}, MRs ρ l l' → flatE l = true → l' = l.map realE
  | _, _, .nil, _ => rfl
  | _, _, .cons k k' v v' b l l' h1 h2 h3, h => by
    simp only [flatE, Bool.and_eq_true] at h
    rw [flat_eq h.1 h1, flat_eq h.2.1 h2, flatE_eq h3 h.2.2]; rfl
theorem flatE_mrs {ρ : Ren} : ∀ {l : List MEnt}, flatE l = true → MRs ρ l (l.map realE)
  | [], _ => .nil
  | ⟨k, v, b⟩ :: l, h => by
    simp only [flatE, Bool.and_eq_true] at h
    exact .cons _ _ _ _ _ _ _ (flat_vr h.1) (flat_vr h.2.1) (flatE_mrs h.2.2)
theorem can_real : ∀ (l : List MapEntry), (l.map canE).map realE = l
  | [] => rfl
  | e :: l => by simp only [List.map_cons, can_real l]; rfl

section ops
variable {P : Program} {ρ : Ren} {n : Nat} {ce e : Env} {o : Oper} {s : St} {v : Value} {m m' : Mem} {F : Nat × Obj → Prop} {R : Nat → Option Obj}

def makeMapV (P : Program) (n : Nat) (ce : Env) (m : Mem) : Op → Option (Value × Mem)
  | .makeMap _ none => bif m.more then some (.map (some m.next), m.add (.map [] 0)) else none
  | _ => none
theorem makeMap_ok (hr : Rel P ρ m F R s) (h : makeMapV P n ce m o.op = some (v, m')) : Acts P n e o ρ m F R s v m' := by
  unfold makeMapV at h
  split at h <;> try (cases h; done)
  rename_i T heq
  cases hc : m.more with
  | false => rw [hc] at h; cases h
  | true =>
    rw [hc] at h; simp only [cond_true, Option.some.injEq, Prod.mk.injEq] at h
    obtain ⟨rfl, rfl⟩ := h
    intro f hf K E hK
    simp only [execOp, heq, Instr.makeMap, Option.map_none, t_bind, t_newObj, t_pure]
    intro b hb
    exact hK _ (.map (some b)) (ρ.put m.next (b, 0)) _ (.inl rfl) (.put _ hr.fresh rfl) (.map _ b 0 (Ren.put_same _ _ _)) (hr.add hc hb (.map [] [] 0 .nil) trivial)

/-- what an entry set comes to -/
def updE (P : Program) (keyT : TypeId) (es : Array MapEntry) (clock : Nat) (key value : Value) : Option (Array MapEntry × Nat) :=
  match runPure P (Instr.checkKey false 10000 keyT key) with
  | some () => match runPure P (Instr.findKey keyT key es.toList) with
    | some (some (i, _)) => match runPure P (Instr.keyThatStays (((es[i]?).map (·.key)).getD key) key) with
      | some k => some (es.modify i fun e => { e with key := k, val := value }, clock)
      | none => none
    | some none => some (es.push { key, val := value, born := clock }, clock + 1)
    | none => none
  | none => none
def mapUpdateV (P : Program) (n : Nat) (ce : Env) (m : Mem) : Op → Option (Value × Mem)
  | .mapUpdate T x y z | .insert T x y z => match evc n ce x, evc n ce y, evc n ce z with
    | some (.map (some i)), some k, some w => match m.t.get i with
      | some ⟨false, .map es ck⟩ => match tinfo P T with
        | some ⟨.map keyT _, _, _, _⟩ => bif flatE es && (flat k && flat w) then (match updE P keyT ⟨es.map realE⟩ ck k w with
          | some (es2, ck2) => bif flatE (es2.toList.map canE) then some (undef, m.set i (.map (es2.toList.map canE) ck2)) else none
          | none => none) else none
        | _ => none
      | _ => none
    | _, _, _ => none
  | _ => none
theorem t_mapUpdate {T keyT elT : TypeId} {szT byT : Nat} {zT : List Value} {agT : Bool} (tf : TF P T (.map keyT elT) szT byT zT agT) {r : Nat} {es es2 : Array MapEntry} {ck ck2 : Nat} {k w : Value} {L Rr : List (Nat × Obj)} (hs : s.rw = L ++ (r, .map es ck) :: Rr) (hu : updE P keyT es ck k w = some (es2, ck2))
    {α : Type} {K : Unit → Sem α} {Q : α → St → Prop} {E : Halt → St → Prop} (hK : tri P (K ()) ⟨s.ro, L ++ (r, .map es2 ck2) :: Rr⟩ Q E) : tri P (Instr.mapUpdate T (.map (some r)) k w >>= K) s Q E := by
  have hhas : s.has r (.map es ck) := .inr (by rw [hs]; exact mem_mid)
  simp only [Instr.mapUpdate, t_bind, t_und tf]
  refine t_getObj hhas rfl rfl ?_
  simp only [t_bind]
  unfold updE at hu
  split at hu <;> try (cases hu; done)
  rename_i hck
  refine runPure_bind hck ?_
  split at hu <;> try (cases hu; done)
  · rename_i i u hfk
    split at hu <;> try (cases hu; done)
    rename_i k2 hks
    simp only [Option.some.injEq, Prod.mk.injEq] at hu
    obtain ⟨rfl, rfl⟩ := hu
    simp only [t_bind]
    refine runPure_bind hfk ?_
    simp only [t_bind]
    refine runPure_bind hks ?_
    exact t_setObj rfl hs rfl hK
  · rename_i hfk
    simp only [Option.some.injEq, Prod.mk.injEq] at hu
    obtain ⟨rfl, rfl⟩ := hu
    simp only [t_bind]
    refine runPure_bind hfk ?_
    exact t_setObj rfl hs rfl hK
theorem mapUpdate_ok (he : ER ρ ce e) (hr : Rel P ρ m F R s) (h : mapUpdateV P n ce m o.op = some (v, m')) : Acts P n e o ρ m F R s v m' := by
  have key : ∀ T x y z, (o.op = .mapUpdate T x y z ∨ o.op = .insert T x y z) → mapUpdateV P n ce m (.mapUpdate T x y z) = some (v, m') → Acts P n e o ρ m F R s v m' := by
    intro T x y z heq h
    simp only [mapUpdateV] at h
    split at h <;> try (cases h; done)
    rename_i i k w hx hy hz
    split at h <;> try (cases h; done)
    rename_i es ck hm
    split at h <;> try (cases h; done)
    rename_i keyT elT _ _ _ hti
    obtain ⟨byT, tf⟩ := tf_tinfo hti
    cases hc : (flatE es && (flat k && flat w)) with
    | false => rw [hc] at h; cases h
    | true =>
    rw [hc] at h; simp only [cond_true] at h
    simp only [Bool.and_eq_true] at hc
    split at h <;> try (cases h; done)
    rename_i es2 ck2 hu
    cases hf2 : flatE (es2.toList.map canE) with
    | false => rw [hf2] at h; cases h
    | true =>
    rw [hf2] at h; simp only [cond_true, Option.some.injEq, Prod.mk.injEq] at h
    obtain ⟨rfl, rfl⟩ := h
    obtain ⟨x', i1, i2⟩ := he.evc hx
    obtain ⟨y', j1, j2⟩ := he.evc hy
    obtain ⟨z', k1, k2⟩ := he.evc hz
    have := flat_eq hc.2.1 j2; subst this
    have := flat_eq hc.2.2 k2; subst this
    cases i2
    rename_i b c hb
    obtain ⟨b2, c2, o', L, Rr, hb2, hor, hroom, hs⟩ := hr.split hm
    rw [hb] at hb2; cases hb2
    cases hor
    rename_i es' hes
    have := flatE_eq hes hc.1
    subst this
    intro f hf K E hK
    have hex : execOp f o = (do Instr.mapUpdate T (f x) (f y) (f z); pure .skip : Sem Next) := by
      rcases heq with heq | heq <;> simp only [execOp, heq]
    rw [hex, hf _ _ i1, hf _ _ j1, hf _ _ k1]
    refine t_mapUpdate tf hs hu ?_
    refine hK .skip undef ρ _ (.inr ⟨rfl, rfl⟩) (.same rfl) vr_undef (hr.set hm hb hs ?_ trivial)
    have hmr := flatE_mrs (ρ := ρ) hf2
    rw [can_real] at hmr
    have := OR.map (ρ := ρ) _ _ ck2 hmr
    rcases es2 with ⟨es2⟩
    exact this
  unfold mapUpdateV at h
  split at h
  · rename_i T x y z heq; exact key T x y z (.inl heq) (by simpa only [mapUpdateV] using h)
  · rename_i T x y z heq; exact key T x y z (.inr heq) (by simpa only [mapUpdateV] using h)
  · cases h
end ops
end Go.L
namespace Go.L
open Go Go.Conc
section ops
variable {P : Program} {ρ : Ren} {n : Nat} {ce e : Env} {o : Oper} {s : St} {v : Value} {m m' : Mem} {F : Nat × Obj → Prop} {R : Nat → Option Obj}

def entryE (P : Program) (keyT elT : TypeId) (es : Array MapEntry) (clock : Nat) (key : Value) : Option (Value × Array MapEntry × Nat) :=
  match runPure P (Instr.checkKey false 10000 keyT key) with
  | some () => match runPure P (Instr.findKey keyT key es.toList) with
    | some (some (i, v)) => match runPure P (Instr.keyThatStays (((es[i]?).map (·.key)).getD key) key) with
      | some k => some (.tuple #[v, goInt (((es[i]?).map (·.born)).getD 0)], es.modify i fun e => { e with key := k }, clock)
      | none => none
    | some none => match runPure P (zeroValue elT) with
      | some z => some (.tuple #[z, goInt clock], es.push { key, val := z, born := clock }, clock + 1)
      | none => none
    | none => none
  | none => none
def mapEntryV (P : Program) (n : Nat) (ce : Env) (m : Mem) : Op → Option (Value × Mem)
  | .mapEntry T x y => match evc n ce x, evc n ce y with
    | some (.map (some i)), some k => match m.t.get i with
      | some ⟨false, .map es ck⟩ => match tinfo P T with
        | some ⟨.map keyT elT, _, _, _⟩ => bif flatE es && flat k then (match entryE P keyT elT ⟨es.map realE⟩ ck k with
          | some (r, es2, ck2) => bif flat r && flatE (es2.toList.map canE) then some (r, m.set i (.map (es2.toList.map canE) ck2)) else none
          | none => none) else none
        | _ => none
      | _ => none
    | _, _ => none
  | _ => none
theorem mapEntry_ok (he : ER ρ ce e) (hr : Rel P ρ m F R s) (h : mapEntryV P n ce m o.op = some (v, m')) : Acts P n e o ρ m F R s v m' := by
  unfold mapEntryV at h
  split at h <;> try (cases h; done)
  rename_i T x y heq
  split at h <;> try (cases h; done)
  rename_i i k hx hy
  split at h <;> try (cases h; done)
  rename_i es ck hm
  split at h <;> try (cases h; done)
  rename_i keyT elT _ _ _ hti
  obtain ⟨byT, tf⟩ := tf_tinfo hti
  cases hc : (flatE es && flat k) with
  | false => rw [hc] at h; cases h
  | true =>
  rw [hc] at h; simp only [cond_true] at h
  simp only [Bool.and_eq_true] at hc
  split at h <;> try (cases h; done)
  rename_i r es2 ck2 hu
  cases hf2 : (flat r && flatE (es2.toList.map canE)) with
  | false => rw [hf2] at h; cases h
  | true =>
  rw [hf2] at h; simp only [cond_true, Option.some.injEq, Prod.mk.injEq] at h
  obtain ⟨rfl, rfl⟩ := h
  simp only [Bool.and_eq_true] at hf2
  obtain ⟨x', i1, i2⟩ := he.evc hx
  obtain ⟨y', j1, j2⟩ := he.evc hy
  have := flat_eq hc.2 j2; subst this
  cases i2
  rename_i b c hb
  obtain ⟨b2, c2, o', L, Rr, hb2, hor, hroom, hs⟩ := hr.split hm
  rw [hb] at hb2; cases hb2
  cases hor
  rename_i es' hes
  have := flatE_eq hes hc.1
  subst this
  have hhas : s.has b (.map ⟨es.map realE⟩ ck) := .inr (by rw [hs]; exact mem_mid)
  intro f hf K E hK
  have hfin : K (.value r) ⟨s.ro, L ++ (b, .map es2 ck2) :: Rr⟩ := by
    refine hK (.value r) r ρ _ (.inl rfl) (.same rfl) (flat_vr hf2.1) (hr.set hm hb hs ?_ trivial)
    have hmr := flatE_mrs (ρ := ρ) hf2.2
    rw [can_real] at hmr
    have := OR.map (ρ := ρ) _ _ ck2 hmr
    rcases es2 with ⟨es2⟩
    exact this
  simp only [execOp, heq, hf _ _ i1, hf _ _ j1, Instr.mapEntry, t_bind, t_und tf]
  refine t_getObj hhas rfl rfl ?_
  simp only [t_bind]
  unfold entryE at hu
  split at hu <;> try (cases hu; done)
  rename_i hck
  refine runPure_bind hck ?_
  split at hu <;> try (cases hu; done)
  · rename_i i2 u hfk
    split at hu <;> try (cases hu; done)
    rename_i k2 hks
    simp only [Option.some.injEq, Prod.mk.injEq] at hu
    obtain ⟨rfl, rfl, rfl⟩ := hu
    simp only [t_bind]
    refine runPure_bind hfk ?_
    simp only [t_bind]
    refine runPure_bind hks ?_
    simp only [t_bind]
    exact t_setObj rfl hs rfl hfin
  · rename_i hfk
    split at hu <;> try (cases hu; done)
    rename_i z hz
    simp only [Option.some.injEq, Prod.mk.injEq] at hu
    obtain ⟨rfl, rfl, rfl⟩ := hu
    simp only [t_bind]
    refine runPure_bind hfk ?_
    simp only [t_bind]
    refine runPure_bind hz ?_
    simp only [t_bind]
    exact t_setObj rfl hs rfl hfin

def entryStoreV (n : Nat) (ce : Env) (m : Mem) : Op → Option (Value × Mem)
  | .entryStore _ x y z => match evc n ce x, evc n ce y, evc n ce z with
    | some (.map (some i)), some (.int _ st), some w => match m.t.get i with
      | some ⟨false, .map es ck⟩ => bif flatE es && flat w then (match (⟨es.map realE⟩ : Array MapEntry).findIdx? (fun e => (e.born : Int) == st) with
        | some j => bif flatE (((⟨es.map realE⟩ : Array MapEntry).modify j fun e => { e with val := w }).toList.map canE) then some (undef, m.set i (.map (((⟨es.map realE⟩ : Array MapEntry).modify j fun e => { e with val := w }).toList.map canE) ck)) else none
        | none => none) else none
      | _ => none
    | _, _, _ => none
  | _ => none
theorem entryStore_ok (he : ER ρ ce e) (hr : Rel P ρ m F R s) (h : entryStoreV n ce m o.op = some (v, m')) : Acts P n e o ρ m F R s v m' := by
  unfold entryStoreV at h
  split at h <;> try (cases h; done)
  rename_i T x y z heq
  split at h <;> try (cases h; done)
  rename_i i kk st w hx hy hz
  split at h <;> try (cases h; done)
  rename_i es ck hm
  cases hc : (flatE es && flat w) with
  | false => rw [hc] at h; cases h
  | true =>
  rw [hc] at h; simp only [cond_true] at h
  simp only [Bool.and_eq_true] at hc
  split at h <;> try (cases h; done)
  rename_i j hj
  generalize hes2 : ((⟨es.map realE⟩ : Array MapEntry).modify j fun e => { e with val := w }) = es2 at h
  cases hf2 : flatE (es2.toList.map canE) with
  | false => rw [hf2] at h; cases h
  | true =>
  rw [hf2] at h; simp only [cond_true, Option.some.injEq, Prod.mk.injEq] at h
  obtain ⟨rfl, rfl⟩ := h
  obtain ⟨x', i1, i2⟩ := he.evc hx
  obtain ⟨y', j1, j2⟩ := he.evc hy
  obtain ⟨z', k1, k2⟩ := he.evc hz
  have := flat_eq hc.2 k2; subst this
  cases i2; cases j2
  rename_i b c hb
  obtain ⟨b2, c2, o', L, Rr, hb2, hor, hroom, hs⟩ := hr.split hm
  rw [hb] at hb2; cases hb2
  cases hor
  rename_i es' hes
  have := flatE_eq hes hc.1
  subst this
  have hhas : s.has b (.map ⟨es.map realE⟩ ck) := .inr (by rw [hs]; exact mem_mid)
  intro f hf K E hK
  simp only [execOp, heq, hf _ _ i1, hf _ _ j1, hf _ _ k1, Instr.entryStore, t_bind]
  refine t_getObj hhas rfl rfl ?_
  simp only [t_bind, asInt, asIntOf, t_pure, hj]
  refine t_setObj rfl hs rfl ?_
  rw [hes2]
  refine hK .skip undef ρ _ (.inr ⟨rfl, rfl⟩) (.same rfl) vr_undef (hr.set hm hb hs ?_ trivial)
  have hmr := flatE_mrs (ρ := ρ) hf2
  rw [can_real] at hmr
  have := OR.map (ρ := ρ) _ _ ck hmr
  rcases es2 with ⟨es2⟩
  exact this
end ops
end Go.L
namespace Go.L
open Go Go.Conc
section ops
variable {P : Program} {ρ : Ren} {n : Nat} {ce e : Env} {o : Oper} {s : St} {v : Value} {m m' : Mem} {F : Nat × Obj → Prop} {R : Nat → Option Obj}

def lookE (P : Program) (keyT elT : TypeId) (es : Array MapEntry) (key : Value) (commaOk : Bool) : Option Value :=
  match runPure P (Instr.checkKey es.isEmpty 10000 keyT key) with
  | some () => match runPure P (Instr.findKey keyT key es.toList) with
    | some (some (_, v)) => some (if commaOk then .tuple #[v, .bool true] else v)
    | some none => match runPure P (zeroValue elT) with
      | some z => some (if commaOk then .tuple #[z, .bool false] else z)
      | none => none
    | none => none
  | none => none
def lookupV (P : Program) (n : Nat) (ce : Env) (m : Mem) : Op → Option Value
  | .lookup T x y ok => match evc n ce x, evc n ce y with
    | some (.map (some i)), some k => match m.t.get i with
      | some ⟨_, .map es _⟩ => match tinfo P T with
        | some ⟨.map keyT elT, _, _, _⟩ => bif flatE es && flat k then (match lookE P keyT elT ⟨es.map realE⟩ k ok with
          | some r => bif flat r then some r else none
          | none => none) else none
        | _ => none
      | _ => none
    | _, _ => none
  | _ => none
theorem lookup_ok (he : ER ρ ce e) (hr : Rel P ρ m F R s) (h : lookupV P n ce m o.op = some v) : ∃ v', VR ρ v v' ∧ Yields P n e o s v' := by
  unfold lookupV at h
  split at h <;> try (cases h; done)
  rename_i T x y ok heq
  split at h <;> try (cases h; done)
  rename_i i k hx hy
  split at h <;> try (cases h; done)
  rename_i rb es ck hm
  split at h <;> try (cases h; done)
  rename_i keyT elT _ _ _ hti
  obtain ⟨byT, tf⟩ := tf_tinfo hti
  cases hc : (flatE es && flat k) with
  | false => rw [hc] at h; cases h
  | true =>
  rw [hc] at h; simp only [cond_true] at h
  simp only [Bool.and_eq_true] at hc
  split at h <;> try (cases h; done)
  rename_i r hu
  cases hf2 : flat r with
  | false => rw [hf2] at h; cases h
  | true =>
  rw [hf2] at h; simp only [cond_true, Option.some.injEq] at h
  subst h
  obtain ⟨x', i1, i2⟩ := he.evc hx
  obtain ⟨y', j1, j2⟩ := he.evc hy
  have := flat_eq hc.2 j2; subst this
  cases i2
  rename_i b c hb
  obtain ⟨b2, c2, o', hb2, hor, hhas⟩ := hr.has hm
  rw [hb] at hb2; cases hb2
  cases hor
  rename_i es' hes
  have := flatE_eq hes hc.1
  subst this
  refine ⟨r, flat_vr hf2, fun s' hs' f hf K E hK => ?_⟩
  simp only [execOp, heq, hf _ _ i1, hf _ _ j1, Instr.lookup, t_bind, t_und tf]
  refine t_getObj (hs' _ _ hhas) rfl rfl ?_
  simp only [t_bind, t_pure]
  unfold lookE at hu
  split at hu <;> try (cases hu; done)
  rename_i hck
  refine runPure_bind hck ?_
  split at hu <;> try (cases hu; done)
  · rename_i i2 u hfk
    simp only [Option.some.injEq] at hu
    subst hu
    simp only [t_bind]
    refine runPure_bind hfk ?_
    simp only [t_bind, t_pure]
    exact hK
  · rename_i hfk
    split at hu <;> try (cases hu; done)
    rename_i z hz
    simp only [Option.some.injEq] at hu
    subst hu
    simp only [t_bind]
    refine runPure_bind hfk ?_
    simp only [t_bind]
    refine runPure_bind hz ?_
    simp only [t_bind, t_pure]
    exact hK
end ops
end Go.L
namespace Go.L
open Go Go.Conc

/-! ### Maps whose values hold blocks -/
theorem runPure_bind_eq {P : Program} {α β : Type} : ∀ {x : Sem α} {a : α} {f : α → Sem β}, runPure P x = some a → runPure P (x >>= f) = runPure P (f a)
  | .pure _, _, f, h => by simp only [runPure, Option.some.injEq] at h; subst h; rfl
  | .program k, _, f, h => runPure_bind_eq (x := k P) (f := f) h
  | .load .., _, _, h => by cases h
  | .store .., _, _, h => by cases h
  | .new .., _, _, h => by cases h
  | .shape .., _, _, h => by cases h
  | .freeze .., _, _, h => by cases h
  | .frozen .., _, _, h => by cases h
  | .getObj .., _, _, h => by cases h
  | .setObj .., _, _, h => by cases h
  | .choose .., _, _, h => by cases h
  | .sys .., _, _, h => by cases h
  | .mark .., _, _, h => by cases h
  | .halt .., _, _, h => by cases h

/-- is it this key: by the quick way in all cases, or by asking in all cases -/
def hitN (d : TypeDesc) (k : Value) (x : Value) : Option Bool := Instr.sameNow d k x
def hitA (P : Program) (T : TypeId) (d : TypeDesc) (k : Value) (x : Value) : Option Bool :=
  match Instr.sameNow d k x with
  | some _ => none
  | none => runPure P (Op.equal T k x)
def hitF (P : Program) (T : TypeId) (d : TypeDesc) (q : Bool) (k : Value) (x : Value) : Option Bool := bif q then hitN d k x else hitA P T d k x
/-- the first entry that is hit -/
def firstE (h : Value → Option Bool) : List MapEntry → Nat → Option (Option (Nat × Value))
  | [], _ => some none
  | e :: l, i => match h e.key with
    | some true => some (some (i, e.val))
    | some false => firstE h l (i + 1)
    | none => none
def AllHit (h : Value → Option Bool) (ks : List Value) : Prop := ∀ k ∈ ks, h k ≠ none
theorem findNow_first {d : TypeDesc} {k : Value} : ∀ {es : List MapEntry} {i : Nat}, AllHit (hitN d k) (es.map (·.key)) → Instr.findNow d k es i = firstE (hitN d k) es i
  | [], i, _ => rfl
  | e :: es, i, h => by
    have h1 := h e.key (by simp)
    have h2 : AllHit (hitN d k) (es.map (·.key)) := fun x hx => h x (by simp only [List.map_cons, List.mem_cons]; exact .inr hx)
    simp only [Instr.findNow, firstE, hitN] at h1 ⊢
    cases hs : Instr.sameNow d k e.key with
    | none => exact absurd hs h1
    | some b => cases b with
      | true => rfl
      | false => exact findNow_first h2
theorem findAsk_first {P : Program} {T : TypeId} {d : TypeDesc} {k : Value} : ∀ {es : List MapEntry} {i : Nat}, AllHit (hitA P T d k) (es.map (·.key)) → runPure P (Instr.findAsking T k es i) = firstE (hitA P T d k) es i
  | [], i, _ => rfl
  | e :: es, i, h => by
    have h1 := h e.key (by simp)
    have h2 : AllHit (hitA P T d k) (es.map (·.key)) := fun x hx => h x (by simp only [List.map_cons, List.mem_cons]; exact .inr hx)
    simp only [Instr.findAsking, firstE]
    have hA : ∀ b, hitA P T d k e.key = some b → runPure P (Op.equal T k e.key) = some b := by
      intro b hb; unfold hitA at hb; split at hb
      · cases hb
      · exact hb
    cases hs : hitA P T d k e.key with
    | none => exact absurd hs h1
    | some b =>
      rw [runPure_bind_eq (hA b hs)]
      cases b with
      | true => rfl
      | false => exact findAsk_first h2
theorem findKey_first {P : Program} {T : TypeId} {d : TypeDesc} {q : Bool} {k : Value} {es : List MapEntry} {r : Option (Nat × Value)} (hd : runPure P (underlying T) = some d) (ha : AllHit (hitF P T d q k) (es.map (·.key))) (h : firstE (hitF P T d q k) es 0 = some r) :
    runPure P (Instr.findKey T k es) = some r := by
  simp only [Instr.findKey]
  rw [runPure_bind_eq hd]
  cases q with
  | true =>
    have ha' : AllHit (hitN d k) (es.map (·.key)) := ha
    have h' : firstE (hitN d k) es 0 = some r := h
    rw [findNow_first ha', h']; rfl
  | false =>
    have ha' : AllHit (hitA P T d k) (es.map (·.key)) := ha
    have h' : firstE (hitA P T d k) es 0 = some r := h
    cases es with
    | nil => simp only [firstE, Option.some.injEq] at h'; subst h'; rfl
    | cons e es =>
      have hn : Instr.sameNow d k e.key = none := by
        have := ha' e.key (by simp)
        unfold hitA at this
        split at this
        · exact absurd rfl this
        · assumption
      simp only [Instr.findNow, hn]
      rw [findAsk_first ha', h']

/-- the same on canonical entries -/
def flatK : List MEnt → Bool
  | [] => true
  | e :: l => flat e.key && flatK l
def allHitB (h : Value → Option Bool) : List MEnt → Bool
  | [] => true
  | e :: l => match h e.key with
    | some _ => allHitB h l
    | none => false
def isT : Option Bool → Bool
  | some true => true
  | _ => false
def firstM (h : Value → Option Bool) : List MEnt → Nat → Option (Nat × Value)
  | [], _ => none
  | e :: l, i => bif isT (h e.key) then some (i, e.val) else firstM h l (i + 1)
theorem first_mrs {ρ : Ren} {h : Value → Option Bool} : ∀ {es : List MEnt} {es' : List MapEntry} {i : Nat}, MRs ρ es es' → flatK es = true → allHitB h es = true →
    AllHit h (es'.map (·.key)) ∧ ((firstM h es i = none ∧ firstE h es' i = some none) ∨ ∃ j v v', firstM h es i = some (j, v) ∧ firstE h es' i = some (some (j, v')) ∧ VR ρ v v')
  | _, _, i, .nil, _, _ => ⟨fun k hk => ((by cases hk)), .inl ⟨rfl, rfl⟩⟩
  | _, _, i, .cons k k' v v' b l l' h1 h2 h3, hf, ha => by
    simp only [flatK, Bool.and_eq_true] at hf
    have := flat_eq hf.1 h1
    subst this
    simp only [allHitB] at ha
    split at ha <;> try (cases ha; done)
    rename_i c hc
    obtain ⟨g1, g2⟩ := first_mrs (i := i + 1) h3 hf.2 ha
    refine ⟨fun x hx => ?_, ?_⟩
    · simp only [List.map_cons, List.mem_cons] at hx
      rcases hx with rfl | hx
      · rw [hc]; simp
      · exact g1 x hx
    · simp only [firstM, firstE, hc]
      cases c with
      | true => exact .inr ⟨i, v, v', rfl, rfl, h2⟩
      | false => simpa [isT] using g2

/-- the way in which keys are told apart -/
def quickK (d : TypeDesc) (k : Value) : List MEnt → Bool
  | [] => true
  | e :: _ => match Instr.sameNow d k e.key with
    | some _ => true
    | none => false
structure KF where
  h : Value → Option Bool
def keyF (P : Program) (T : TypeId) (k : Value) (es : List MEnt) : Option (Value → Option Bool) :=
  match runPure P (underlying T) with
  | some d => bif flat k && (flatK es && allHitB (hitF P T d (quickK d k es) k) es) then some (hitF P T d (quickK d k es) k) else none
  | none => none

section ops
variable {P : Program} {ρ : Ren} {n : Nat} {ce e : Env} {o : Oper} {s : St} {v : Value} {m m' : Mem} {F : Nat × Obj → Prop} {R : Nat → Option Obj}

theorem keyF_ok {T : TypeId} {k : Value} {es : List MEnt} {es' : List MapEntry} {h : Value → Option Bool} (hk : keyF P T k es = some h) (hm : MRs ρ es es') :
    flat k = true ∧ ((firstM h es 0 = none ∧ runPure P (Instr.findKey T k es') = some none) ∨ ∃ j v v', firstM h es 0 = some (j, v) ∧ runPure P (Instr.findKey T k es') = some (some (j, v')) ∧ VR ρ v v') := by
  unfold keyF at hk
  split at hk <;> try (cases hk; done)
  rename_i d hd
  cases hc : (flat k && (flatK es && allHitB (hitF P T d (quickK d k es) k) es)) with
  | false => rw [hc] at hk; cases hk
  | true =>
    rw [hc] at hk; simp only [cond_true, Option.some.injEq] at hk; subst hk
    simp only [Bool.and_eq_true] at hc
    refine ⟨hc.1, ?_⟩
    obtain ⟨g1, g2⟩ := first_mrs (i := 0) hm hc.2.1 hc.2.2
    rcases g2 with ⟨a, b⟩ | ⟨j, v, v', a, b, c⟩
    · exact .inl ⟨a, findKey_first hd g1 b⟩
    · exact .inr ⟨j, v, v', a, findKey_first hd g1 b, c⟩

/-! #### .. in whatever order -/
def countM (h : Value → Option Bool) : List MEnt → Nat
  | [] => 0
  | e :: l => bif isT (h e.key) then countM h l + 1 else countM h l
theorem countM_perm {h : Value → Option Bool} {l l2 : List MEnt} (p : l.Perm l2) : countM h l = countM h l2 := by
  induction p with
  | nil => rfl
  | cons x _ ih => simp only [countM, ih]
  | swap x y l => simp only [countM]; cases isT (h x.key) <;> cases isT (h y.key) <;> rfl
  | trans _ _ a b => rw [a, b]
theorem countM_pos {h : Value → Option Bool} : ∀ {l : List MEnt} {e : MEnt}, e ∈ l → isT (h e.key) = true → 0 < countM h l
  | x :: l, e, he, hh => by
    simp only [countM]
    rcases List.mem_cons.1 he with rfl | he
    · rw [hh]; simp
    · have := countM_pos he hh
      cases isT (h x.key) <;> simp <;> omega
theorem countM_zero {h : Value → Option Bool} : ∀ {l : List MEnt} {i : Nat}, firstM h l i = none → countM h l = 0
  | [], i, _ => rfl
  | x :: l, i, hi => by
    simp only [firstM] at hi
    simp only [countM]
    cases hx : isT (h x.key) with
    | true => rw [hx] at hi; cases hi
    | false => rw [hx] at hi; exact countM_zero hi
theorem flatK_perm {l l2 : List MEnt} (p : l.Perm l2) : flatK l = flatK l2 := by
  induction p with
  | nil => rfl
  | cons x _ ih => simp only [flatK, ih]
  | swap x y l => simp only [flatK]; cases flat x.key <;> cases flat y.key <;> rfl
  | trans _ _ a b => rw [a, b]
theorem allHitB_iff {h : Value → Option Bool} : ∀ {l : List MEnt}, allHitB h l = true ↔ ∀ e ∈ l, h e.key ≠ none
  | [] => by simp [allHitB]
  | x :: l => by
    simp only [allHitB, List.mem_cons, forall_eq_or_imp]
    cases hx : h x.key with
    | none => simp
    | some b => simp [allHitB_iff]
theorem firstM_some {h : Value → Option Bool} : ∀ {l : List MEnt} {i j : Nat} {v : Value}, firstM h l i = some (j, v) → ∃ e ∈ l, isT (h e.key) = true ∧ e.val = v
  | x :: l, i, j, v, hc => by
    simp only [firstM] at hc
    cases hx : isT (h x.key) with
    | true =>
      rw [hx] at hc
      simp only [cond_true, Option.some.injEq, Prod.mk.injEq] at hc
      exact ⟨x, by simp, hx, hc.2⟩
    | false =>
      rw [hx] at hc
      obtain ⟨e, h1, h2⟩ := firstM_some hc
      exact ⟨e, by simp [h1], h2⟩
/-- which entry it is, if at most one is hit -/
theorem one_hit {h : Value → Option Bool} : ∀ {l : List MEnt}, countM h l ≤ 1 → ∀ {e e2 : MEnt}, e ∈ l → e2 ∈ l → isT (h e.key) = true → isT (h e2.key) = true → e = e2
  | x :: l, hc, e, e2, he, he2, h1, h2 => by
    simp only [countM] at hc
    cases hx : isT (h x.key) with
    | true =>
      rw [hx] at hc; simp only [cond_true] at hc
      rcases List.mem_cons.1 he with e3 | he <;> rcases List.mem_cons.1 he2 with e4 | he2
      · rw [e3, e4]
      · have := countM_pos he2 h2; omega
      · have := countM_pos he h1; omega
      · have := countM_pos he h1; omega
    | false =>
      rw [hx] at hc; simp only [cond_false] at hc
      rcases List.mem_cons.1 he with e3 | he <;> rcases List.mem_cons.1 he2 with e4 | he2
      · rw [e3, e4]
      · subst e3; rw [hx] at h1; cases h1
      · subst e4; rw [hx] at h2; cases h2
      · exact one_hit hc he he2 h1 h2
theorem firstM_perm {h : Value → Option Bool} {l l2 : List MEnt} (p : l.Perm l2) (hc : countM h l ≤ 1) : ((firstM h l 0).map (·.2)) = ((firstM h l2 0).map (·.2)) := by
  cases h1 : firstM h l 0 with
  | none =>
    cases h2 : firstM h l2 0 with
    | none => rfl
    | some x =>
      obtain ⟨e, g1, g2, _⟩ := firstM_some h2
      have := countM_pos (p.mem_iff.2 g1) g2
      rw [countM_zero h1] at this; omega
  | some x =>
    obtain ⟨e, g1, g2, g3⟩ := firstM_some h1
    cases h2 : firstM h l2 0 with
    | none =>
      have := countM_pos (p.mem_iff.1 g1) g2
      rw [countM_zero h2] at this; omega
    | some y =>
      obtain ⟨e2, k1, k2, k3⟩ := firstM_some h2
      have := one_hit hc g1 (p.mem_iff.2 k1) g2 k2
      subst this
      simp [← g3, ← k3]
theorem first_brs {ρ : Ren} {h : Value → Option Bool} : ∀ {es : List MEnt} {es' : List MapEntry} {i : Nat}, BRs ρ es es' → flatK es = true → allHitB h es = true →
    AllHit h (es'.map (·.key)) ∧ ((firstM h es i = none ∧ firstE h es' i = some none) ∨ ∃ j v v', firstM h es i = some (j, v) ∧ firstE h es' i = some (some (j, v')) ∧ VR ρ v v')
  | _, _, i, .nil, _, _ => ⟨fun k hk => ((by cases hk)), .inl ⟨rfl, rfl⟩⟩
  | _, _, i, .cons k k' v v' b b' l l' h1 h2 h3, hf, ha => by
    simp only [flatK, Bool.and_eq_true] at hf
    have := flat_eq hf.1 h1
    subst this
    simp only [allHitB] at ha
    split at ha <;> try (cases ha; done)
    rename_i c hc
    obtain ⟨g1, g2⟩ := first_brs (i := i + 1) h3 hf.2 ha
    refine ⟨fun x hx => ?_, ?_⟩
    · simp only [List.map_cons, List.mem_cons] at hx
      rcases hx with rfl | hx
      · rw [hc]; simp
      · exact g1 x hx
    · simp only [firstM, firstE, hc]
      cases c with
      | true => exact .inr ⟨i, v, v', rfl, rfl, h2⟩
      | false => simpa [isT] using g2
theorem keyF_bag {T : TypeId} {k : Value} {es es1 : List MEnt} {es' : List MapEntry} {h : Value → Option Bool} (hk : keyF P T k es = some h) (hp : es.Perm es1) (hm : BRs ρ es1 es') (hc : countM h es ≤ 1) :
    flat k = true ∧ ((firstM h es 0 = none ∧ runPure P (Instr.findKey T k es') = some none) ∨ ∃ j j' v v', firstM h es 0 = some (j, v) ∧ runPure P (Instr.findKey T k es') = some (some (j', v')) ∧ VR ρ v v') := by
  unfold keyF at hk
  split at hk <;> try (cases hk; done)
  rename_i d hd
  cases hcc : (flat k && (flatK es && allHitB (hitF P T d (quickK d k es) k) es)) with
  | false => rw [hcc] at hk; cases hk
  | true =>
    rw [hcc] at hk; simp only [cond_true, Option.some.injEq] at hk; subst hk
    simp only [Bool.and_eq_true] at hcc
    refine ⟨hcc.1, ?_⟩
    obtain ⟨g1, g2⟩ := first_brs (i := 0) hm (by rw [← flatK_perm hp]; exact hcc.2.1) (allHitB_iff.2 fun e he => allHitB_iff.1 hcc.2.2 e (hp.mem_iff.2 he))
    have hv := firstM_perm hp hc
    rcases g2 with ⟨a, b⟩ | ⟨j, v, v', a, b, c⟩
    · rw [a] at hv
      cases h1 : firstM (hitF P T d (quickK d k es) k) es 0 with
      | none => exact .inl ⟨rfl, findKey_first hd g1 b⟩
      | some x => rw [h1] at hv; cases hv
    · rw [a] at hv
      cases h1 : firstM (hitF P T d (quickK d k es) k) es 0 with
      | none => rw [h1] at hv; cases hv
      | some x =>
        rw [h1] at hv
        simp only [Option.map_some, Option.some.injEq] at hv
        rcases x with ⟨j0, v0⟩
        simp only at hv; subst hv
        exact .inr ⟨j0, j, _, v', rfl, findKey_first hd g1 b, c⟩

/-! #### The operations -/
def lookRes (P : Program) (elT : TypeId) (ok : Bool) : Option (Nat × Value) → Option Value
  | some (_, v) => some (if ok then .tuple ⟨[v, .bool true]⟩ else v)
  | none => match runPure P (zeroValue elT) with
    | some z => bif flat z then some (if ok then .tuple ⟨[z, .bool false]⟩ else z) else none
    | none => none
def entsOf : CObj → Option (List MEnt × Bool)
  | .map es _ => some (es, false)
  | .bag es => some (es, true)
  | _ => none
def lookup2V (P : Program) (n : Nat) (ce : Env) (m : Mem) : Op → Option Value
  | .lookup T x y ok => match evc n ce y with
    | some k => match tinfo P T with
      | some ⟨.map keyT elT, _, _, _⟩ => match evc n ce x with
        | some (.map (some i)) => match m.t.get i with
          | some ⟨_, c⟩ => match entsOf c with
            | some (es, bag) => match keyF P keyT k es with
              | some h => match runPure P (Instr.checkKey es.isEmpty 10000 keyT k) with
                | some () => bif (!bag || Nat.ble (countM h es) 1) then lookRes P elT ok (firstM h es 0) else none
                | none => none
              | none => none
            | none => none
          | none => none
        | some (.map none) => bif flat k then (match runPure P (Instr.checkKey true 10000 keyT k) with
          | some () => match runPure P (Instr.findKey keyT k []) with
            | some none => lookRes P elT ok none
            | _ => none
          | none => none) else none
        | _ => none
      | _ => none
    | none => none
  | _ => none
theorem lookup2_fin {elT : TypeId} {ok : Bool} {r : Option (Nat × Value)} {r' : Option (Nat × Value)} (hv : lookRes P elT ok r = some v) (hr : (r = none ∧ r' = none) ∨ ∃ j j' w w', r = some (j, w) ∧ r' = some (j', w') ∧ VR ρ w w') :
    ∃ v', VR ρ v v' ∧ ∀ (s : St) {α : Type} (K : Value → Sem α) (Q : α → St → Prop) (E : Halt → St → Prop), tri P (K v') s Q E →
      tri P ((match r' with
        | some (_, v) => pure (v, true)
        | none => (do pure ((← zeroValue elT), false) : Sem (Value × Bool))) >>= fun x => K (if ok then .tuple #[x.1, .bool x.2] else x.1)) s Q E := by
  rcases hr with ⟨rfl, rfl⟩ | ⟨j, j', w, w', rfl, rfl, hw⟩
  · simp only [lookRes] at hv
    split at hv <;> try (cases hv; done)
    rename_i z hz
    cases hf : flat z with
    | false => rw [hf] at hv; cases hv
    | true =>
      rw [hf] at hv; simp only [cond_true, Option.some.injEq] at hv; subst hv
      refine ⟨if ok then .tuple ⟨[z, .bool false]⟩ else z, ?_, fun s α K Q E hK => ?_⟩
      · cases ok
        · exact flat_vr hf
        · exact .tuple _ _ (.cons _ _ _ _ (flat_vr hf) (.cons _ _ _ _ (.bool _) .nil))
      · simp only [t_bind]
        refine runPure_bind hz ?_
        simp only [t_bind, t_pure]
        exact hK
  · simp only [lookRes, Option.some.injEq] at hv; subst hv
    refine ⟨if ok then .tuple ⟨[w', .bool true]⟩ else w', ?_, fun s α K Q E hK => ?_⟩
    · cases ok
      · exact hw
      · exact .tuple _ _ (.cons _ _ _ _ hw (.cons _ _ _ _ (.bool _) .nil))
    · simp only [t_pure]
      exact hK
theorem isEmpty_mrs : ∀ {es : List MEnt} {es' : List MapEntry}, MRs ρ es es' → es'.isEmpty = es.isEmpty
  | _, _, .nil => rfl
  | _, _, .cons .. => rfl
theorem isEmpty_brs : ∀ {es : List MEnt} {es' : List MapEntry}, BRs ρ es es' → es'.isEmpty = es.isEmpty
  | _, _, .nil => rfl
  | _, _, .cons .. => rfl
theorem isEmpty_perm {es es1 : List MEnt} (h : es.Perm es1) : es1.isEmpty = es.isEmpty := by
  have := h.length_eq
  cases es <;> cases es1 <;> simp_all
theorem lookup2_ok (he : ER ρ ce e) (hr : Rel P ρ m F R s) (h : lookup2V P n ce m o.op = some v) : ∃ v', VR ρ v v' ∧ Yields P n e o s v' := by
  unfold lookup2V at h
  split at h <;> try (cases h; done)
  rename_i T x y ok heq
  split at h <;> try (cases h; done)
  rename_i k hy
  split at h <;> try (cases h; done)
  rename_i keyT elT _ _ _ hti
  obtain ⟨byT, tf⟩ := tf_tinfo hti
  obtain ⟨y', j1, j2⟩ := he.evc hy
  split at h <;> try (cases h; done)
  · rename_i i hx
    split at h <;> try (cases h; done)
    rename_i rb c hm
    split at h <;> try (cases h; done)
    rename_i es bag hes
    split at h <;> try (cases h; done)
    rename_i hf hkf
    split at h <;> try (cases h; done)
    rename_i hck
    cases hc : (!bag || Nat.ble (countM hf es) 1) with
    | false => rw [hc] at h; cases h
    | true =>
    rw [hc] at h; simp only [cond_true] at h
    obtain ⟨x', i1, i2⟩ := he.evc hx
    cases i2
    rename_i b cc hb
    obtain ⟨b2, c2, o', hb2, hor, hhas⟩ := hr.has hm
    rw [hb] at hb2; cases hb2
    have fin : ∀ (es' : List MapEntry) ck, o' = .map ⟨es'⟩ ck → es'.isEmpty = es.isEmpty → flat k = true → (∃ r', runPure P (Instr.findKey keyT k es') = some r' ∧ ((firstM hf es 0 = none ∧ r' = none) ∨ ∃ j j' w w', firstM hf es 0 = some (j, w) ∧ r' = some (j', w') ∧ VR ρ w w')) → ∃ v', VR ρ v v' ∧ Yields P n e o s v' := by
      intro es' ck ho' hemp hfk ⟨r', hr1, hr2⟩
      have hy' := flat_eq hfk j2
      rw [hy'] at j1
      obtain ⟨v', g1, g2⟩ := lookup2_fin h hr2
      refine ⟨v', g1, fun s' hs' f hfe K E hK => ?_⟩
      subst ho'
      simp only [execOp, heq, hfe _ _ i1, hfe _ _ j1, Instr.lookup, t_bind, t_und tf]
      refine t_getObj (hs' _ _ hhas) rfl rfl ?_
      simp only [t_bind, t_pure]
      have hck' : runPure P (Instr.checkKey (⟨es'⟩ : Array MapEntry).isEmpty 10000 keyT k) = some () := by
        rw [show (⟨es'⟩ : Array MapEntry).isEmpty = es'.isEmpty from by simp]
        rw [hemp]; exact hck
      refine runPure_bind hck' ?_
      simp only [t_bind]
      refine runPure_bind hr1 ?_
      rcases r' with _ | ⟨j, w⟩
      · have := g2 s' (fun x => pure (Next.value x)) K E hK
        simp only [t_bind, t_pure] at this ⊢
        exact this
      · have := g2 s' (fun x => pure (Next.value x)) K E hK
        simp only [t_bind, t_pure] at this ⊢
        exact this
    unfold entsOf at hes
    split at hes <;> try (cases hes; done)
    · simp only [Option.some.injEq, Prod.mk.injEq] at hes
      obtain ⟨rfl, rfl⟩ := hes
      cases hor
      rename_i es' hmr
      obtain ⟨g1, g2⟩ := keyF_ok hkf hmr
      refine fin es' _ rfl (isEmpty_mrs hmr) g1 ?_
      rcases g2 with ⟨a, b⟩ | ⟨j, w, w', a, b, c⟩
      · exact ⟨_, b, .inl ⟨a, rfl⟩⟩
      · exact ⟨_, b, .inr ⟨j, j, w, w', a, rfl, c⟩⟩
    · simp only [Option.some.injEq, Prod.mk.injEq] at hes
      obtain ⟨rfl, rfl⟩ := hes
      cases hor
      rename_i es1 es' ck hmr hpm
      obtain ⟨g1, g2⟩ := keyF_bag hkf hpm hmr (by simpa using hc)
      refine fin es' _ rfl (by rw [isEmpty_brs hmr, isEmpty_perm hpm]) g1 ?_
      rcases g2 with ⟨a, b⟩ | ⟨j, j', w, w', a, b, c⟩
      · exact ⟨_, b, .inl ⟨a, rfl⟩⟩
      · exact ⟨_, b, .inr ⟨j, j', w, w', a, rfl, c⟩⟩
  · rename_i hx
    cases hfk : flat k with
    | false => rw [hfk] at h; cases h
    | true =>
    rw [hfk] at h; simp only [cond_true] at h
    split at h <;> try (cases h; done)
    rename_i hck
    split at h <;> try (cases h; done)
    rename_i hfd
    obtain ⟨x', i1, i2⟩ := he.evc hx
    cases i2
    have := flat_eq hfk j2
    subst this
    obtain ⟨v', g1, g2⟩ := lookup2_fin (ρ := ρ) h (.inl ⟨rfl, rfl⟩)
    refine ⟨v', g1, fun s' hs' f hfe K E hK => ?_⟩
    simp only [execOp, heq, hfe _ _ i1, hfe _ _ j1, Instr.lookup, t_bind, t_und tf, t_pure]
    refine runPure_bind hck ?_
    simp only [t_bind]
    refine runPure_bind hfd ?_
    have := g2 s' (fun x => pure (Next.value x)) K E hK
    simp only [t_bind, t_pure] at this ⊢
    exact this
end ops
end Go.L
namespace Go.L
open Go Go.Conc

theorem MRs.nth {ρ : Ren} : ∀ {es : List MEnt} {es' : List MapEntry}, MRs ρ es es' → ∀ {j : Nat} {x : MEnt}, es[j]? = some x → ∃ x', es'[j]? = some x' ∧ VR ρ x.key x'.key ∧ VR ρ x.val x'.val ∧ x'.born = x.born
  | _, _, .nil, j, x, h => by simp at h
  | _, _, .cons k k' v v' b l l' h1 h2 h3, 0, x, h => by simp at h; subst h; exact ⟨⟨k', v', b⟩, rfl, h1, h2, rfl⟩
  | _, _, .cons k k' v v' b l l' h1 h2 h3, j + 1, x, h => by
    obtain ⟨x', g1, g2⟩ := h3.nth (j := j) (x := x) (by simpa using h)
    exact ⟨x', by simpa using g1, g2⟩
theorem MRs.append {ρ : Ren} : ∀ {es : List MEnt} {es' : List MapEntry}, MRs ρ es es' → ∀ {l : List MEnt} {l' : List MapEntry}, MRs ρ l l' → MRs ρ (es ++ l) (es' ++ l')
  | _, _, .nil, _, _, h => h
  | _, _, .cons k k' v v' b l l' h1 h2 h3, _, _, h => .cons _ _ _ _ _ _ _ h1 h2 (h3.append h)
def setM : List MEnt → Nat → Value → Value → List MEnt
  | [], _, _, _ => []
  | e :: l, 0, k, v => ⟨k, v, e.born⟩ :: l
  | e :: l, j + 1, k, v => e :: setM l j k v
theorem MRs.setM {ρ : Ren} {k k' v v' : Value} (hk : VR ρ k k') (hv : VR ρ v v') : ∀ {es : List MEnt} {es' : List MapEntry}, MRs ρ es es' → ∀ (j : Nat), MRs ρ (setM es j k v) (es'.modify j fun e => { e with key := k', val := v' })
  | _, _, .nil, j => by cases j <;> exact .nil
  | _, _, .cons a a' c c' b l l' h1 h2 h3, 0 => .cons _ _ _ _ _ _ _ hk hv h3
  | _, _, .cons a a' c c' b l l' h1 h2 h3, j + 1 => by
    simp only [L.setM, List.modify_succ_cons]
    exact .cons _ _ _ _ _ _ _ h1 h2 (h3.setM hk hv j)

section ops
variable {P : Program} {ρ : Ren} {n : Nat} {ce e : Env} {o : Oper} {s : St} {v : Value} {m m' : Mem} {F : Nat × Obj → Prop} {R : Nat → Option Obj}

def upd2 (P : Program) (keyT : TypeId) (es : List MEnt) (ck : Nat) (k w : Value) : Option CObj :=
  match keyF P keyT k es with
  | some h => match runPure P (Instr.checkKey false 10000 keyT k) with
    | some () => match firstM h es 0 with
      | some (j, _) => match es[j]? with
        | some x => match runPure P (Instr.keyThatStays x.key k) with
          | some k2 => bif flat k2 && flatK es then some (.map (setM es j k2 w) ck) else none
          | none => none
        | none => none
      | none => some (.map (es ++ [⟨k, w, ck⟩]) (ck + 1))
    | none => none
  | none => none
def update2V (P : Program) (n : Nat) (ce : Env) (m : Mem) : Op → Option (Value × Mem)
  | .mapUpdate T x y z | .insert T x y z => match evc n ce x, evc n ce y, evc n ce z with
    | some (.map (some i)), some k, some w => match m.t.get i with
      | some ⟨false, .map es ck⟩ => match tinfo P T with
        | some ⟨.map keyT _, _, _, _⟩ => match upd2 P keyT es ck k w with
          | some c => some (undef, m.set i c)
          | none => none
        | _ => none
      | _ => none
    | _, _, _ => none
  | _ => none
theorem flatK_nth : ∀ {es : List MEnt} {j : Nat} {x : MEnt}, flatK es = true → es[j]? = some x → flat x.key = true
  | e :: l, 0, x, h, hj => by simp at hj; subst hj; simp only [flatK, Bool.and_eq_true] at h; exact h.1
  | e :: l, j + 1, x, h, hj => by simp only [flatK, Bool.and_eq_true] at h; exact flatK_nth h.2 (by simpa using hj)
  | [], j, x, h, hj => by simp at hj
theorem firstM_lt {h : Value → Option Bool} : ∀ {es : List MEnt} {i j : Nat} {v : Value}, firstM h es i = some (j, v) → i ≤ j
  | x :: l, i, j, v, hc => by
    simp only [firstM] at hc
    cases hx : isT (h x.key) with
    | true => rw [hx] at hc; simp only [cond_true, Option.some.injEq, Prod.mk.injEq] at hc; omega
    | false => rw [hx] at hc; have := firstM_lt hc; omega
theorem update2_ok (he : ER ρ ce e) (hr : Rel P ρ m F R s) (h : update2V P n ce m o.op = some (v, m')) : Acts P n e o ρ m F R s v m' := by
  have key : ∀ T x y z, (o.op = .mapUpdate T x y z ∨ o.op = .insert T x y z) → update2V P n ce m (.mapUpdate T x y z) = some (v, m') → Acts P n e o ρ m F R s v m' := by
    intro T x y z heq h
    simp only [update2V] at h
    split at h <;> try (cases h; done)
    rename_i i k w hx hy hz
    split at h <;> try (cases h; done)
    rename_i es ck hm
    split at h <;> try (cases h; done)
    rename_i keyT elT _ _ _ hti
    obtain ⟨byT, tf⟩ := tf_tinfo hti
    split at h <;> try (cases h; done)
    rename_i c hu
    simp only [Option.some.injEq, Prod.mk.injEq] at h
    obtain ⟨rfl, rfl⟩ := h
    obtain ⟨x', i1, i2⟩ := he.evc hx
    obtain ⟨y', j1, j2⟩ := he.evc hy
    obtain ⟨w', k1, k2⟩ := he.evc hz
    cases i2
    rename_i b cc hb
    obtain ⟨b2, c2, o', L, Rr, hb2, hor, hroom, hs⟩ := hr.split hm
    rw [hb] at hb2; cases hb2
    cases hor
    rename_i es' hmr
    unfold upd2 at hu
    split at hu <;> try (cases hu; done)
    rename_i hf hkf
    split at hu <;> try (cases hu; done)
    rename_i hck
    obtain ⟨g1, g2⟩ := keyF_ok hkf hmr
    have hyk := flat_eq g1 j2
    rw [hyk] at j1
    have hhas : s.has b (.map ⟨es'⟩ ck) := .inr (by rw [hs]; exact mem_mid)
    intro f hff K E hK
    have hex : execOp f o = (do Instr.mapUpdate T (f x) (f y) (f z); pure .skip : Sem Next) := by
      rcases heq with heq | heq <;> simp only [execOp, heq]
    rw [hex, hff _ _ i1, hff _ _ j1, hff _ _ k1]
    simp only [Instr.mapUpdate, t_bind, t_und tf]
    refine t_getObj hhas rfl rfl ?_
    simp only [t_bind]
    refine runPure_bind hck ?_
    simp only [t_bind]
    split at hu
    · rename_i j w0 hfm
      split at hu <;> try (cases hu; done)
      rename_i x0 hx0
      split at hu <;> try (cases hu; done)
      rename_i kk hkk
      cases hfl : (flat kk && flatK es) with
      | false => rw [hfl] at hu; cases hu
      | true =>
      rw [hfl] at hu; simp only [cond_true, Option.some.injEq] at hu; subst hu
      simp only [Bool.and_eq_true] at hfl
      rcases g2 with ⟨a, _⟩ | ⟨j2', w1, w1', a, bq, c⟩
      · rw [hfm] at a; cases a
      · rw [hfm] at a; cases a
        refine runPure_bind bq ?_
        simp only [t_bind]
        obtain ⟨x1, q1, q2, _, _⟩ := hmr.nth hx0
        have hx1 := flat_eq (flatK_nth hfl.2 hx0) q2
        have : ((((⟨es'⟩ : Array MapEntry)[j]?).map (·.key)).getD k) = x0.key := by simp [q1, hx1]
        rw [this]
        refine runPure_bind hkk ?_
        refine t_setObj rfl hs rfl ?_
        refine hK .skip undef ρ _ (.inr ⟨rfl, rfl⟩) (.same rfl) vr_undef (hr.set hm hb hs ?_ trivial)
        have := OR.map (ρ := ρ) _ _ ck (hmr.setM (flat_vr hfl.1) k2 j)
        rw [show (⟨es'⟩ : Array MapEntry).modify j (fun e => { e with key := kk, val := w' }) = ⟨es'.modify j (fun e => { e with key := kk, val := w' })⟩ from by apply Array.ext'; simp [Array.toList_modify]]
        exact this
    · rename_i hfm
      simp only [Option.some.injEq] at hu; subst hu
      rcases g2 with ⟨a, bq⟩ | ⟨j2', w1, w1', a, bq, c⟩
      · refine runPure_bind bq ?_
        refine t_setObj rfl hs rfl ?_
        refine hK .skip undef ρ _ (.inr ⟨rfl, rfl⟩) (.same rfl) vr_undef (hr.set hm hb hs ?_ trivial)
        have := OR.map (ρ := ρ) _ _ (ck + 1) (hmr.append (.cons k k w w' ck [] [] (flat_vr g1) k2 .nil))
        rw [show (⟨es'⟩ : Array MapEntry).push { key := k, val := w', born := ck } = ⟨es' ++ [{ key := k, val := w', born := ck }]⟩ from by apply Array.ext'; simp]
        exact this
      · rw [hfm] at a; cases a
  unfold update2V at h
  split at h <;> try (cases h; done)
  · rename_i T x y z heq; exact key T x y z (.inl heq) h
  · rename_i T x y z heq; exact key T x y z (.inr heq) h

/-! ### What steps through a map -/
def rangeM (P : Program) (n : Nat) (ce : Env) (m : Mem) : Op → Option (Value × Mem)
  | .range T x => match tinfo P T with
    | some ⟨.map _ _, _, _, _⟩ => match evc n ce x with
      | some (.map none) => bif m.more then some (.pointer (some ⟨m.next, 0, none⟩), m.add (.mapIter none 0 [] 0)) else none
      | some (.map (some i)) => match m.t.get i with
        | some ⟨_, .map _ ck⟩ => bif m.more then some (.pointer (some ⟨m.next, 0, none⟩), m.add (.mapIter (some i) ck [] ck)) else none
        | _ => none
      | _ => none
    | _ => none
  | _ => none
theorem rangeM_ok (he : ER ρ ce e) (hr : Rel P ρ m F R s) (h : rangeM P n ce m o.op = some (v, m')) : Acts P n e o ρ m F R s v m' := by
  unfold rangeM at h
  split at h <;> try (cases h; done)
  rename_i T x heq
  split at h <;> try (cases h; done)
  rename_i hti
  obtain ⟨by_, tf⟩ := tf_tinfo hti
  split at h <;> try (cases h; done)
  · rename_i hx
    cases hc : m.more with
    | false => rw [hc] at h; cases h
    | true =>
      rw [hc] at h; simp only [cond_true, Option.some.injEq, Prod.mk.injEq] at h
      obtain ⟨rfl, rfl⟩ := h
      obtain ⟨u', k1, k2⟩ := he.evc hx
      cases k2
      intro f hf K E hK
      simp only [execOp, heq, Instr.range, t_bind, t_und tf, hf _ _ k1, t_pure, t_newObj]
      intro b' hb'
      exact hK _ (.pointer (some ⟨b', 0, none⟩)) (ρ.put m.next (b', 0)) _ (.inl rfl) (.put _ hr.fresh rfl) (.ptr _ b' 0 0 (Ren.put_same _ _ _)) (hr.add hc hb' (.mapIter0 0 0 []) trivial)
  · rename_i i hx
    split at h <;> try (cases h; done)
    rename_i rb es ck hm
    cases hc : m.more with
    | false => rw [hc] at h; cases h
    | true =>
      rw [hc] at h; simp only [cond_true, Option.some.injEq, Prod.mk.injEq] at h
      obtain ⟨rfl, rfl⟩ := h
      obtain ⟨u', k1, k2⟩ := he.evc hx
      cases k2
      rename_i b c hb
      obtain ⟨b2, c2, o', hb2, hor, hhas⟩ := hr.has hm
      rw [hb] at hb2; cases hb2
      cases hor
      rename_i es' hmr
      intro f hf K E hK
      simp only [execOp, heq, Instr.range, t_bind, t_und tf, hf _ _ k1]
      refine t_getObj hhas rfl rfl ?_
      simp only [t_bind, t_pure, t_newObj]
      intro b' hb'
      refine hK _ (.pointer (some ⟨b', 0, none⟩)) (ρ.put m.next (b', 0)) _ (.inl rfl) (.put _ hr.fresh rfl) (.ptr _ b' 0 0 (Ren.put_same _ _ _)) (hr.add hc hb' (.mapIter i b c _ _ _ ?_) trivial)
      rw [Ren.put_ne _ _ (by have := hr.lt hm; omega)]; exact hb

/-- the entries that may come next -/
def candsM (es : List MEnt) (since : Nat) (seen : List Nat) : List (Option MEnt) :=
  (bif ((es.filter fun x => !seen.contains x.born).filter fun x => decide (x.born < since)).isEmpty then [none] else []) ++
    (((es.filter fun x => !seen.contains x.born).filter fun x => decide (x.born < since)) ++ ((es.filter fun x => !seen.contains x.born).filter fun x => decide (x.born ≥ since))).map some
def staleM (es : List MEnt) (seen : List Nat) (last : Nat) : Bool := !seen.isEmpty && !es.isEmpty && es.all fun x => decide (x.born ≥ last)
def outM (m : Mem) (i j since : Nat) (seen : List Nat) (ck : Nat) : Option MEnt → Value × Mem
  | none => (.tuple ⟨[.bool false]⟩, m)
  | some x => (.tuple ⟨[.bool true, x.key, x.val]⟩, m.set i (.mapIter (some j) since (seen ++ [x.born]) ck))
def nextM (n : Nat) (ce : Env) (m : Mem) : Op → Option (List (Value × Mem))
  | .next x false => match evc n ce x with
    | some (.pointer (some ⟨i, 0, none⟩)) => match m.t.get i with
      | some ⟨false, .mapIter none _ _ _⟩ => some [(.tuple ⟨[.bool false]⟩, m)]
      | some ⟨false, .mapIter (some j) since seen last⟩ => match m.t.get j with
        | some ⟨_, .map es ck⟩ => bif staleM es seen last then none else some ((candsM es since seen).map (outM m i j since seen ck))
        | _ => none
      | _ => none
    | _ => none
  | _ => none
def ActsL (P : Program) (n : Nat) (e : Env) (o : Oper) (ρ : Ren) (m : Mem) (F : Nat × Obj → Prop) (R : Nat → Option Obj) (s : St) (outs : List (Value × Mem)) : Prop :=
  ∀ f, Ev n e f → ∀ (K : Next → St → Prop) (E : Halt → St → Prop), (∀ v m', (v, m') ∈ outs → ∀ nx v' ρ' s', NV nx v' → Grow ρ m ρ' m' → VR ρ' v v' → Rel P ρ' m' F R s' → K nx s') → tri P (execOp f o) s K E
theorem MRs.filter {ρ : Ren} (p : Nat → Bool) : ∀ {es : List MEnt} {es' : List MapEntry}, MRs ρ es es' → MRs ρ (es.filter fun x => p x.born) (es'.filter fun x => p x.born)
  | _, _, .nil => .nil
  | _, _, .cons k k' v v' b l l' h1 h2 h3 => by
    simp only [List.filter_cons]
    cases p b with
    | true => exact .cons _ _ _ _ _ _ _ h1 h2 (h3.filter p)
    | false => exact h3.filter p
theorem MRs.all {ρ : Ren} (p : Nat → Bool) : ∀ {es : List MEnt} {es' : List MapEntry}, MRs ρ es es' → (es'.all fun x => p x.born) = (es.all fun x => p x.born)
  | _, _, .nil => rfl
  | _, _, .cons k k' v v' b l l' h1 h2 h3 => by simp only [List.all_cons, h3.all p]
inductive CRs (ρ : Ren) : List (Option MEnt) → List (Option MapEntry) → Prop
  | nil : CRs ρ [] []
  | no (l : List (Option MEnt)) (l' : List (Option MapEntry)) : CRs ρ l l' → CRs ρ (none :: l) (none :: l')
  | so (x : MEnt) (x' : MapEntry) (l : List (Option MEnt)) (l' : List (Option MapEntry)) : VR ρ x.key x'.key → VR ρ x.val x'.val → x'.born = x.born → CRs ρ l l' → CRs ρ (some x :: l) (some x' :: l')
theorem CRs.get {ρ : Ren} : ∀ {l : List (Option MEnt)} {l' : List (Option MapEntry)}, CRs ρ l l' → ∀ (k : Nat), (l'[k]? = none) ∨ (l'[k]? = some none ∧ none ∈ l) ∨ ∃ (x : MEnt) (x' : MapEntry), l'[k]? = some (some x') ∧ some x ∈ l ∧ VR ρ x.key x'.key ∧ VR ρ x.val x'.val ∧ x'.born = x.born
  | _, _, .nil, k => .inl (by simp)
  | _, _, .no l l' h, 0 => .inr (.inl ⟨rfl, by simp⟩)
  | _, _, .so x x' l l' h1 h2 h3 h, 0 => .inr (.inr ⟨x, x', rfl, by simp, h1, h2, h3⟩)
  | _, _, .no l l' h, k + 1 => by
    rcases h.get k with a | ⟨a, b⟩ | ⟨x, x', a, b, c⟩
    · exact .inl (by simpa using a)
    · exact .inr (.inl ⟨by simpa using a, by simp [b]⟩)
    · exact .inr (.inr ⟨x, x', by simpa using a, by simp [b], c⟩)
  | _, _, .so y y' l l' h1 h2 h3 h, k + 1 => by
    rcases h.get k with a | ⟨a, b⟩ | ⟨x, x', a, b, c⟩
    · exact .inl (by simpa using a)
    · exact .inr (.inl ⟨by simpa using a, by simp [b]⟩)
    · exact .inr (.inr ⟨x, x', by simpa using a, by simp [b], c⟩)
theorem MRs.crs {ρ : Ren} : ∀ {es : List MEnt} {es' : List MapEntry}, MRs ρ es es' → CRs ρ (es.map some) (es'.map some)
  | _, _, .nil => .nil
  | _, _, .cons k k' v v' b l l' h1 h2 h3 => .so ⟨k, v, b⟩ ⟨k', v', b⟩ _ _ h1 h2 rfl h3.crs
theorem MRs.app {ρ : Ren} {a b : List MEnt} {a' b' : List MapEntry} (h : MRs ρ a a') (k : MRs ρ b b') : MRs ρ (a ++ b) (a' ++ b') := h.append k
theorem nextM_ok {outs : List (Value × Mem)} (he : ER ρ ce e) (hr : Rel P ρ m F R s) (h : nextM n ce m o.op = some outs) : ActsL P n e o ρ m F R s outs := by
  unfold nextM at h
  split at h <;> try (cases h; done)
  rename_i x heq
  split at h <;> try (cases h; done)
  rename_i i hx
  obtain ⟨u', k1, k2⟩ := he.evc hx
  cases k2
  rename_i bb c hb
  split at h <;> try (cases h; done)
  · rename_i since seen last hm
    simp only [Option.some.injEq] at h; subst h
    obtain ⟨b2, c2, o', L, Rr, hb2, hor, hroom, hs⟩ := hr.split hm
    rw [hb] at hb2; cases hb2
    have hhas : s.has bb o' := .inr (by rw [hs]; exact mem_mid)
    cases hor
    intro f hf K E hK
    simp only [execOp, heq, hf _ _ k1, Instr.next, t_bind]
    refine t_getObj hhas rfl rfl ?_
    simp only [t_bind, t_pure]
    exact hK _ _ (List.mem_singleton.2 rfl) _ (.tuple ⟨[.bool false]⟩) ρ s (.inl rfl) (Grow.refl _ _) (flat_vr rfl) hr
  · rename_i j since seen last hm
    split at h <;> try (cases h; done)
    rename_i rb es ck hmj
    cases hst : staleM es seen last with
    | true => rw [hst] at h; cases h
    | false =>
    rw [hst] at h; simp only [cond_false, Option.some.injEq] at h; subst h
    obtain ⟨b2, c2, o', L, Rr, hb2, hor, hroom, hs⟩ := hr.split hm
    rw [hb] at hb2; cases hb2
    have hhas : s.has bb o' := .inr (by rw [hs]; exact mem_mid)
    cases hor
    rename_i bj cj hbj
    obtain ⟨b3, c3, o3, hb3, hor3, hhas3⟩ := hr.has hmj
    rw [hbj] at hb3; cases hb3
    cases hor3
    rename_i es' hmr
    intro f hf K E hK
    simp only [execOp, heq, hf _ _ k1, Instr.next, t_bind]
    refine t_getObj hhas rfl rfl ?_
    simp only [t_bind]
    refine t_getObj hhas3 rfl rfl ?_
    simp only [t_bind]
    -- not stale
    have e1 : (!(⟨seen⟩ : Array Nat).isEmpty && !(⟨es'⟩ : Array MapEntry).isEmpty && (⟨es'⟩ : Array MapEntry).all (·.born ≥ last)) = staleM es seen last := by
      have h1 : (⟨es'⟩ : Array MapEntry).isEmpty = es.isEmpty := by rw [← isEmpty_mrs hmr]; simp
      have h2 : (⟨es'⟩ : Array MapEntry).all (fun x => decide (x.born ≥ last)) = es.all (fun x => decide (x.born ≥ last)) := by rw [← hmr.all (fun b => decide (b ≥ last))]; simp
      have h3 : (⟨seen⟩ : Array Nat).isEmpty = seen.isEmpty := by simp
      simp only [staleM, h1, h2, h3]
    rw [if_neg (by rw [e1, hst]; simp)]
    -- the candidates
    have hleft := hmr.filter (fun b => !seen.contains b)
    have hold := hleft.filter (fun b => decide (b < since))
    have hnew := hleft.filter (fun b => decide (b ≥ since))
    have hfl : ∀ (es' : List MapEntry) (p : MapEntry → Bool), (⟨es'⟩ : Array MapEntry).filter p = ⟨es'.filter p⟩ := fun es' p => by simp
    have hcont : (fun (x : MapEntry) => !(⟨seen⟩ : Array Nat).contains x.born) = fun x => !seen.contains x.born := by funext x; simp
    simp only [hcont, hfl]
    have hemp : (⟨((es'.filter fun x => !seen.contains x.born).filter fun x => decide (x.born < since))⟩ : Array MapEntry).isEmpty = ((es.filter fun x => !seen.contains x.born).filter fun x => decide (x.born < since)).isEmpty := by
      rw [← isEmpty_mrs hold]; simp
    rw [hemp]
    have hcr : CRs ρ (candsM es since seen) ((if ((es.filter fun x => !seen.contains x.born).filter fun x => decide (x.born < since)).isEmpty = true then [none] else []) ++ (((es'.filter fun x => !seen.contains x.born).filter fun x => decide (x.born < since)) ++ ((es'.filter fun x => !seen.contains x.born).filter fun x => decide (x.born ≥ since))).map some) := by
      unfold candsM
      cases ((es.filter fun x => !seen.contains x.born).filter fun x => decide (x.born < since)).isEmpty with
      | true => exact .no _ _ (hold.app hnew).crs
      | false => exact (hold.app hnew).crs
    generalize hcs' : ((if ((es.filter fun x => !seen.contains x.born).filter fun x => decide (x.born < since)).isEmpty = true then [none] else []) ++ (((es'.filter fun x => !seen.contains x.born).filter fun x => decide (x.born < since)) ++ ((es'.filter fun x => !seen.contains x.born).filter fun x => decide (x.born ≥ since))).map some : List (Option MapEntry)) = cs' at hcr
    have harr : ((if ((es.filter fun x => !seen.contains x.born).filter fun x => decide (x.born < since)).isEmpty = true then #[none] else #[]) ++ ((⟨(es'.filter fun x => !seen.contains x.born).filter fun x => decide (x.born < since)⟩ : Array MapEntry) ++ (⟨(es'.filter fun x => !seen.contains x.born).filter fun x => decide (x.born ≥ since)⟩ : Array MapEntry)).map some : Array (Option MapEntry)) = ⟨cs'⟩ := by
      rw [← hcs']
      split <;> simp
    rw [harr]
    -- whichever comes
    have hall : ∀ k, k < cs'.length → tri P (match (⟨cs'⟩ : Array (Option MapEntry))[k]? with
        | some (some e) => (setObj bb (.mapIter (some bj) since ((⟨seen⟩ : Array Nat).push e.born) ck) >>= fun _ => pure (Next.value (.tuple #[.bool true, e.key, e.val])))
        | some none => pure (Next.value (.tuple #[.bool false]))
        | none => (stuck "Next: no such candidate" >>= fun v => pure (Next.value v) : Sem Next)) s K E := by
      intro k hk
      have hkk : (⟨cs'⟩ : Array (Option MapEntry))[k]? = cs'[k]? := by simp
      rw [hkk]
      rcases hcr.get k with a | ⟨a, b⟩ | ⟨y, y', a, b, g1, g2, g3⟩
      · rw [List.getElem?_eq_none_iff] at a; omega
      · rw [a]
        exact hK _ _ (List.mem_map.2 ⟨none, b, rfl⟩) _ (.tuple ⟨[.bool false]⟩) ρ s (.inl rfl) (Grow.refl _ _) (flat_vr rfl) hr
      · rw [a]
        refine t_setObj rfl hs rfl ?_
        refine hK _ _ (List.mem_map.2 ⟨some y, b, rfl⟩) _ (.tuple ⟨[.bool true, y'.key, y'.val]⟩) ρ _ (.inl rfl) (.same rfl) (.tuple _ _ (.cons _ _ _ _ (.bool _) (.cons _ _ _ _ g1 (.cons _ _ _ _ g2 .nil)))) (hr.set hm hb hs ?_ trivial)
        rw [g3, show (⟨seen⟩ : Array Nat).push y.born = ⟨seen ++ [y.born]⟩ from by apply Array.ext'; simp]
        exact .mapIter j bj cj since ck (seen ++ [y.born]) hbj
    have hlen : 0 < cs'.length := by
      rcases hcr.get 0 with a | ⟨a, b⟩ | ⟨y, y', a, _⟩
      · have : cs' = [] := by simpa using a
        subst this
        have hnil : ∀ l, CRs ρ l [] → l = [] := by intro l h; cases h; rfl
        have hc0 := hnil _ hcr
        unfold candsM at hc0
        cases hq : ((es.filter fun x => !seen.contains x.born).filter fun x => decide (x.born < since)) with
        | nil => rw [hq] at hc0; simp at hc0
        | cons z l => rw [hq] at hc0; simp at hc0
      · exact (List.getElem?_eq_some_iff.1 a).1
      · exact (List.getElem?_eq_some_iff.1 a).1
    simp only [t_bind]
    have hgo : ∀ k, k < cs'.length → tri P ((match (⟨cs'⟩ : Array (Option MapEntry))[k]? with
        | some (some e) => (do setObj bb (.mapIter (some bj) since ((⟨seen⟩ : Array Nat).push e.born) ck); pure (.tuple #[.bool true, e.key, e.val]) : Sem Value)
        | some none => pure (.tuple #[.bool false])
        | none => stuck "Next: no such candidate") >>= fun v => pure (Next.value v)) s K E := by
      intro k hk
      have := hall k hk
      revert this
      cases (⟨cs'⟩ : Array (Option MapEntry))[k]? with
      | none => exact id
      | some x => cases x with
        | none => exact id
        | some e => exact id
    show (if (Question.mapNext (⟨cs'⟩ : Array (Option MapEntry)).size).forced = true then _ else _)
    split
    · exact hgo 0 hlen
    · exact fun q => hgo _ (Nat.mod_lt _ (by simpa using hlen))

/-- the entry at which it stands -/
def entryV (n : Nat) (ce : Env) (m : Mem) : Op → Option Value
  | .entry x => match evc n ce x with
    | some (.pointer (some ⟨i, 0, none⟩)) => match m.t.get i with
      | some ⟨_, .mapIter (some j) _ seen stepped⟩ => match m.t.get j with
        | some ⟨_, .map es ck⟩ => bif Nat.beq ck stepped then (match seen.getLast? with
          | some b => match es.find? (fun x => x.born == b) with
            | some x => some (.tuple ⟨[x.key, x.val]⟩)
            | none => none
          | none => none) else none
        | _ => none
      | _ => none
    | _ => none
  | _ => none
theorem MRs.find {ρ : Ren} (p : Nat → Bool) : ∀ {es : List MEnt} {es' : List MapEntry}, MRs ρ es es' → ∀ {x : MEnt}, es.find? (fun x => p x.born) = some x → ∃ x', es'.find? (fun x => p x.born) = some x' ∧ VR ρ x.key x'.key ∧ VR ρ x.val x'.val
  | _, _, .nil, x, h => by simp at h
  | _, _, .cons k k' v v' b l l' h1 h2 h3, x, h => by
    simp only [List.find?_cons] at h ⊢
    cases hp : p b with
    | true => rw [hp] at h; simp only [Option.some.injEq] at h; subst h; exact ⟨⟨k', v', b⟩, rfl, h1, h2⟩
    | false => rw [hp] at h; exact h3.find p h
theorem entry_ok (he : ER ρ ce e) (hr : Rel P ρ m F R s) (h : entryV n ce m o.op = some v) : ∃ v', VR ρ v v' ∧ Yields P n e o s v' := by
  unfold entryV at h
  split at h <;> try (cases h; done)
  rename_i x heq
  split at h <;> try (cases h; done)
  rename_i i hx
  split at h <;> try (cases h; done)
  rename_i rb j since seen stepped hm
  split at h <;> try (cases h; done)
  rename_i rb2 es ck hmj
  cases hb0 : Nat.beq ck stepped with
  | false => rw [hb0] at h; cases h
  | true =>
  rw [hb0] at h; simp only [cond_true] at h
  have hck := Nat.eq_of_beq_eq_true hb0
  split at h <;> try (cases h; done)
  rename_i b hlast
  split at h <;> try (cases h; done)
  rename_i y hy
  simp only [Option.some.injEq] at h; subst h
  obtain ⟨u', k1, k2⟩ := he.evc hx
  cases k2
  rename_i bb c hb
  obtain ⟨b2, c2, o', hb2, hor, hhas⟩ := hr.has hm
  rw [hb] at hb2; cases hb2
  cases hor
  rename_i bj cj hbj
  obtain ⟨b3, c3, o3, hb3, hor3, hhas3⟩ := hr.has hmj
  rw [hbj] at hb3; cases hb3
  cases hor3
  rename_i es' hmr
  obtain ⟨y', q1, q2, q3⟩ := hmr.find (fun z => z == b) hy
  refine ⟨.tuple ⟨[y'.key, y'.val]⟩, .tuple _ _ (.cons _ _ _ _ q2 (.cons _ _ _ _ q3 .nil)), fun s' hs' f hf K E hK => ?_⟩
  simp only [execOp, heq, hf _ _ k1, Instr.entry, t_bind]
  refine t_getObj (hs' _ _ hhas) rfl rfl ?_
  have hback : (⟨seen⟩ : Array Nat).back? = some b := by rw [Array.back?_eq_getElem?]; rw [← hlast]; simp [List.getLast?_eq_getElem?]
  simp only [hback, t_bind]
  refine t_getObj (hs' _ _ hhas3) rfl rfl ?_
  have hne : (ck != stepped) = false := by simp [hck]
  have hfd : (⟨es'⟩ : Array MapEntry).find? (fun x => x.born == b) = some y' := by rw [← q1]; simp
  simp only [hne, Bool.false_eq_true, if_false, t_bind, t_pure, hfd]
  exact hK
end ops
end Go.L
namespace Go.L
open Go Go.Conc
/-! ### All of them -/
def orElse {α : Type} : Option α → (Unit → Option α) → Option α
  | some a, _ => some a
  | none, f => f ()
def valV (P : Program) (n : Nat) (ce : Env) (m : Mem) (o : Oper) : Option Value :=
  match o.op with
  | .move _ | .assign _ => moveV n ce o.op
  | .pick .. => pickV n ce o.op
  | .makeFunc .. => makeFuncV n ce o.op
  | .extract .. => extractV n ce o.op
  | .nilCheck _ => nilCheckV P n ce o.op
  | .load .. => loadV P n ce m o.op
  | .fieldAddr .. => fieldAddrV P n ce o.op
  | .indexAddr .. => indexAddrV P n ce o.op
  | .makeInterface .. => makeInterfaceV P n ce o.op
  | .build .. => buildV P n ce o.op
  | .field .. => fieldV P n ce o.op
  | .index .. => orElse (indexV P n ce o.op) fun _ => pureV P n ce o
  | .slice .. => orElse (sliceV P n ce o.op) fun _ => pureV P n ce o
  | .binOp .. => orElse (eqNilV P n ce o.op) fun _ => pureV P n ce o
  | .call .. => orElse (lenV P n ce m o.op) fun _ => pureV P n ce o
  | .lookup .. => lookup2V P n ce m o.op
  | .entry _ => entryV n ce m o.op
  | _ => pureV P n ce o
theorem orElse_some {α : Type} {a : Option α} {f : Unit → Option α} {x : α} (h : orElse a f = some x) : a = some x ∨ f () = some x := by
  cases a with
  | none => exact .inr h
  | some y => exact .inl h
theorem val_ok {P : Program} {ρ : Ren} {n : Nat} {ce e : Env} {o : Oper} {s : St} {v : Value} {m : Mem} {F : Nat × Obj → Prop} {R : Nat → Option Obj} (he : ER ρ ce e) (hr : Rel P ρ m F R s) (h : valV P n ce m o = some v) : ∃ v', VR ρ v v' ∧ Yields P n e o s v' := by
  unfold valV at h
  split at h
  · exact move_ok he h
  · exact move_ok he h
  · exact pick_ok he h
  · exact makeFunc_ok he h
  · exact extract_ok he h
  · exact nilCheck_ok he h
  · exact load_ok he hr h
  · exact fieldAddr_ok he h
  · exact indexAddr_ok he h
  · exact makeInterface_ok he h
  · exact build_ok he h
  · exact field_ok he h
  · exact (orElse_some h).elim (index_ok he) (pureV_ok he)
  · exact (orElse_some h).elim (slice_ok he) (pureV_ok he)
  · exact (orElse_some h).elim (eqNil_ok he) (pureV_ok he)
  · exact (orElse_some h).elim (len_ok he hr) (pureV_ok he)
  · exact lookup2_ok he hr h
  · exact entry_ok he hr h
  · exact pureV_ok he h
end Go.L
namespace Go.L
open Go Go.Conc

def actV (P : Program) (n : Nat) (ce : Env) (m : Mem) (op : Op) : Option (Value × Mem) :=
  match op with
  | .alloc _ => allocV P m op
  | .box .. => boxV n ce m op
  | .store .. => storeV P n ce m op
  | .buildSlice .. => buildSliceV P n ce m op
  | .call ⟨.builtin .append, _, _⟩ => appendV P n ce m op
  | .range .. => orElse (rangeV P n ce m op) fun _ => rangeM P n ce m op
  | .next .. => nextV n ce m op
  | .makeSlice .. => makeSliceV P n ce m op
  | .makeMap .. => makeMapV P n ce m op
  | .mapUpdate .. => update2V P n ce m op
  | .insert .. => update2V P n ce m op
  | .mapEntry .. => mapEntryV P n ce m op
  | .entryStore .. => entryStoreV n ce m op
  | _ => none
theorem act_ok {P : Program} {ρ : Ren} {n : Nat} {ce e : Env} {o : Oper} {s : St} {v : Value} {m m' : Mem} {F : Nat × Obj → Prop} {R : Nat → Option Obj} (he : ER ρ ce e) (hr : Rel P ρ m F R s) (h : actV P n ce m o.op = some (v, m')) : Acts P n e o ρ m F R s v m' := by
  unfold actV at h
  split at h
  · exact alloc_ok hr h
  · exact box_ok he hr h
  · exact store_ok he hr h
  · exact buildSlice_ok he hr h
  · exact append_ok he hr h
  · exact (orElse_some h).elim (range_ok he hr) (rangeM_ok he hr)
  · exact next_ok he hr h
  · exact makeSlice_ok he hr h
  · exact makeMap_ok hr h
  · exact update2_ok he hr h
  · exact update2_ok he hr h
  · exact mapEntry_ok he hr h
  · exact entryStore_ok he hr h
  · cases h

def notDefer : Op → Bool
  | .defer _ => false
  | _ => true
theorem notDefer_ne {op : Op} (h : notDefer op = true) : ∀ c, op ≠ .defer c := by
  intro c e; subst e; cases h
/-- none: cannot be told. -/
def guardS (ops : Array Oper) (n : Nat) (ce : Env) : Option (Nat × Bool) → Option Bool
  | none => some true
  | some (j, want) => match ops[j]? with
    | some o => match o.dst with
      | some d => match evc n ce (.tmp d) with
        | some (.bool b) => some (bif want then b else !b)
        | some (.tuple ⟨[]⟩) => some false
        | _ => none
      | none => none
    | none => none

section ops
variable {P : Program} {C : Class} {fn : FuncId} {rnd : Option Nat} {Q : Post} {s : St} {n : Nat} {D : List Deferred} {ops : Array Oper} {i : Nat} {todo : List Nat} {ρ : Ren} {ce e : Env} {o : Oper} {v : Value} {m m' : Mem} {F : Nat × Obj → Prop} {R : Nat → Option Obj}

theorem Ev.of_app (rest : Env) : Ev n e (ev n (e ++ rest)) := fun _ _ h => ev_of (evo_app h)
theorem guard_true (he : ER ρ ce e) {g : Option (Nat × Bool)} (h : guardS ops n ce g = some true) (rest : Env) : wantedE ops n (e ++ rest) g = true := by
  unfold guardS at h
  split at h
  · rfl
  · rename_i j want
    split at h <;> try (cases h; done)
    rename_i o ho
    split at h <;> try (cases h; done)
    rename_i d hd
    split at h <;> try (cases h; done)
    rename_i b hb
    obtain ⟨b', k1, k2⟩ := he.evc hb
    cases k2
    refine wantedE_some (d := d) (b := b) (by rw [ho]; exact hd) (evo_app k1) ?_
    cases want <;> cases b <;> simp_all
theorem wanted_undef {env : Env} {j : Nat} {want : Bool} {d : Tmp} (hd : (ops[j]?).bind (·.dst) = some d) (hv : evo n env (.tmp d) = some undef) (hg : o.guard = some (j, want)) : Region.wanted o (yielded ops (A n env D).tmps) = false := by
  have : yielded ops (A n env D).tmps j = none := by
    simp only [yielded, hd, Option.bind_some, A_get?]
    simp only [evo] at hv
    by_cases hlt : d < n
    · rw [show Nat.blt d n = true from by simpa [Nat.blt_eq] using hlt] at hv
      simp only [cond_true] at hv
      rw [if_pos hlt, geto_get hv]; rfl
    · rw [show Nat.blt d n = false from by simpa [Nat.blt_eq, ← Bool.not_eq_true] using hlt] at hv
      cases hv
  unfold Region.wanted
  rw [hg]
  simp only [this]
  rfl
theorem guard_false (hC : ∀ main T, C main T → Closed P main T) (ho : ops[i]? = some o) (he : ER ρ ce e) (h : guardS ops n ce o.guard = some false) (rest : Env) (hk : OpsWp C fn rnd ops todo Q (A n (upd o.dst undef (e ++ rest)) D) s) : OpsWp C fn rnd ops (i :: todo) Q (A n (e ++ rest) D) s := by
  unfold guardS at h
  split at h
  · cases h
  · rename_i j want hg
    split at h <;> try (cases h; done)
    rename_i o2 ho2
    split at h <;> try (cases h; done)
    rename_i d hd
    split at h <;> try (cases h; done)
    · rename_i b hb
      obtain ⟨b', k1, k2⟩ := he.evc hb
      cases k2
      exact o_unwanted hC ho hg (by rw [ho2]; exact hd) (evo_app k1) (by cases want <;> cases b <;> simp_all) hk
    · rename_i hb
      obtain ⟨b', k1, k2⟩ := he.evc hb
      cases k2
      rename_i k2
      cases k2
      refine ops_unwanted hC ho (wanted_undef (by rw [ho2]; exact hd) (evo_app k1) hg) ?_
      rw [A_put]; exact hk

theorem ops_yields (hC : ∀ main T, C main T → Closed P main T) (ho : ops[i]? = some o) (rest : Env) (hw : wantedE ops n (e ++ rest) o.guard = true) (hd : notDefer o.op = true) {s' : St} (hy : Yields P n e o s v) (hx : Ext s s') (hk : OpsWp C fn rnd ops todo Q (A n (upd o.dst v (e ++ rest)) D) s') :
    OpsWp C fn rnd ops (i :: todo) Q (A n (e ++ rest) D) s' := by
  refine o_step hC ho hw (notDefer_ne hd) (hy s' hx _ (Ev.of_app rest) _ _ ?_)
  show OpsWp _ _ _ _ _ _ _ _
  rw [A_put]; exact hk
theorem ops_acts (hC : ∀ main T, C main T → Closed P main T) (ho : ops[i]? = some o) (rest : Env) (hw : wantedE ops n (e ++ rest) o.guard = true) (hd : notDefer o.op = true) (ha : Acts P n e o ρ m F R s v m')
    (hk : ∀ v' ρ' s', Grow ρ m ρ' m' → VR ρ' v v' → Rel P ρ' m' F R s' → OpsWp C fn rnd ops todo Q (A n (upd o.dst v' (e ++ rest)) D) s') : OpsWp C fn rnd ops (i :: todo) Q (A n (e ++ rest) D) s := by
  refine o_step hC ho hw (notDefer_ne hd) (ha _ (Ev.of_app rest) _ _ fun nx v' ρ' s' hn hl hv hr => ?_)
  have := hk v' ρ' s' hl hv hr
  rcases hn with rfl | ⟨rfl, rfl⟩
  · show OpsWp _ _ _ _ _ _ _ _
    rw [A_put]; exact this
  · show OpsWp _ _ _ _ _ _ _ _
    rw [A_put]; exact this
end ops

/-- A value, or what a guard leaves. -/
def gval (P : Program) (ops : Array Oper) (n : Nat) (ce : Env) (m : Mem) (o : Oper) : Option Value :=
  bif notDefer o.op then (match guardS ops n ce o.guard with
    | some true => valV P n ce m o
    | some false => some undef
    | none => none) else none
theorem gval_ok {P : Program} {C : Class} {fn : FuncId} {rnd : Option Nat} {s : St} {n : Nat} {D : List Deferred} {ops : Array Oper} {i : Nat} {ρ : Ren} {ce e : Env} {o : Oper} {v : Value} {m : Mem} {F : Nat × Obj → Prop} {R : Nat → Option Obj} (hC : ∀ main T, C main T → Closed P main T)
    (ho : ops[i]? = some o) (he : ER ρ ce e) (hr : Rel P ρ m F R s) (h : gval P ops n ce m o = some v) :
    ∃ v', VR ρ v v' ∧ ∀ s', Ext s s' → ∀ rest todo Q, OpsWp C fn rnd ops todo Q (A n (upd o.dst v' (e ++ rest)) D) s' → OpsWp C fn rnd ops (i :: todo) Q (A n (e ++ rest) D) s' := by
  unfold gval at h
  cases hd : notDefer o.op with
  | false => rw [hd] at h; cases h
  | true =>
    rw [hd] at h; simp only [cond_true] at h
    split at h
    · rename_i hg
      obtain ⟨v', k1, k2⟩ := val_ok he hr h
      exact ⟨v', k1, fun s' hx rest todo Q hk => ops_yields hC ho rest (guard_true he hg rest) hd k2 hx hk⟩
    · rename_i hg
      simp only [Option.some.injEq] at h; subst h
      exact ⟨_, vr_undef, fun s' hx rest todo Q hk => guard_false hC ho he hg rest hk⟩
    · cases h

/-! ### Calls -/
inductive CR where
  | ret (v : Value)
  | panic (v : Value)
/-- what can be called: a function, or a loop over a function, whose round it is -/
inductive Tgt where
  | fn (f : FuncId)
  | yield (l : Nat)
abbrev CallT := Tgt → List Value → Mem → Option (CR × Mem)
inductive CRR (ρ : Ren) : CR → Ending → Prop
  | ret (v v' : Value) : VR ρ v v' → CRR ρ (.ret v) (.returned v')
  | panic (v v' : Value) : VR ρ v v' → CRR ρ (.panic v) (.panicked [{ v := v', recovered := false }])
/-- what follows on a call -/
def Follows (C : Class) (P : Program) (post : Ending → St → Prop) : Next → St → Prop
  | .enter f a, s => Fn C P f a s post
  | .round l f tmps assign body, s => Round C l f tmps assign body s post
  | _, _ => False
def callSem : Tgt → (Nat → Nat) → Array Value → Sem Next
  | .fn f, _, args => callFunc f args
  | .yield l, ρ, args => Instr.yield (ρ l) args
def CallOK (C : Class) (P : Program) (call : CallT) : Prop :=
  ∀ t args m r m', call t args m = some (r, m') → ∀ ρ args' s F R, VRs ρ args args' → Rel P ρ m F R s → ∀ g : Nat → Nat, (∀ i, t = .yield i → ∃ c, ρ i = some (g i, c)) → (∀ f, t = .fn f → FF P f) →
    tri P (callSem t g ⟨args'⟩) s (Follows C P (fun en s' => ∃ ρ', Grow ρ m ρ' m' ∧ Rel P ρ' m' F R s' ∧ CRR ρ' r en)) (fun _ _ => False)

def ffB (P : Program) (f : FuncId) : Bool :=
  match P.funcs[f]? with
  | some fn => !(fn.name == "runtime.NumGoroutine") && !fn.body.isNone
  | none => false
theorem ffB_ok {P : Program} {f : FuncId} (h : ffB P f = true) : FF P f := by
  unfold ffB at h
  split at h
  · rename_i fn hfn
    simp only [Bool.and_eq_true, Bool.not_eq_true'] at h
    exact ⟨fn, hfn, h.1, h.2⟩
  · cases h
/-- what is called with what -/
def target (P : Program) (n : Nat) (ce : Env) : Op → Option (Tgt × List Value)
  | .call ⟨.value x, xs, _⟩ => match evc n ce x with
    | some (.func (.func f) ⟨fi⟩ ⟨ca⟩) => match evcL n ce xs.toList with
      | some vs => bif ffB P f then some (.fn f, fi ++ vs ++ ca) else none
      | none => none
    | some (.func (.yield l) ⟨[]⟩ ⟨[]⟩) => match evcL n ce xs.toList with
      | some vs => some (.yield l, vs)
      | none => none
    | _ => none
  | .call ⟨.invoke x name, xs, _⟩ => match evc n ce x with
    | some (.iface t v) => bif flat v then (match runPure P (method (P.types.size + Made.depth) t v name) with
      | some (f, r) => match evcL n ce xs.toList with
        | some vs => bif ffB P f && flat r then some (.fn f, r :: vs) else none
        | none => none
      | none => none) else none
    | _ => none
  | _ => none
theorem target_ok {P : Program} {n : Nat} {ρ : Ren} {ce e : Env} (he : ER ρ ce e) {o : Oper} {t : Tgt} {args : List Value} (h : target P n ce o.op = some (t, args)) :
    ∃ args' g, VRs ρ args args' ∧ (∀ i, t = .yield i → ∃ c, ρ i = some (g i, c)) ∧ (∀ f, t = .fn f → FF P f) ∧ ∀ f, Ev n e f → ∀ (s : St) (K : Next → St → Prop) (E : Halt → St → Prop), tri P (callSem t g ⟨args'⟩) s K E → tri P (execOp f o) s K E := by
  unfold target at h
  split at h
  · rename_i x xs at_ heq
    split at h <;> try (cases h; done)
    · rename_i f0 fi ca hx
      split at h <;> try (cases h; done)
      rename_i vs hvs
      cases hf : ffB P f0 with
      | false => rw [hf] at h; cases h
      | true =>
        rw [hf] at h; simp only [cond_true, Option.some.injEq, Prod.mk.injEq] at h
        obtain ⟨rfl, rfl⟩ := h
        obtain ⟨x', j1, j2⟩ := he.evc hx
        obtain ⟨vs', k1, k2⟩ := he.evcL hvs
        cases j2
        rename_i fi' ca' hp hfi hca
        refine ⟨fi' ++ vs' ++ ca', id, (hfi.append k2).append hca, fun i hi => ((by cases hi)), fun f hf2 => by cases hf2; exact ffB_ok hf, fun g hg s K E hK => ?_⟩
        simp only [execOp, heq, resolve, hg _ _ j1, Deferred.ofValue, t_pure, hg.arr k1]
        simp only [invoke]
        simpa [callSem] using hK
    · rename_i l hx
      split at h <;> try (cases h; done)
      rename_i vs hvs
      simp only [Option.some.injEq, Prod.mk.injEq] at h
      obtain ⟨rfl, rfl⟩ := h
      obtain ⟨x', j1, j2⟩ := he.evc hx
      obtain ⟨vs', k1, k2⟩ := he.evcL hvs
      cases j2 with
      | func _ _ _ _ _ hp => cases hp
      | yield _ b c hb =>
      refine ⟨vs', fun _ => b, k2, fun i hi => by cases hi; exact ⟨c, hb⟩, fun f hf2 => ((by cases hf2)), fun g hg s K E hK => ?_⟩
      simp only [execOp, heq, resolve, hg _ _ j1, Deferred.ofValue, t_pure, hg.arr k1]
      simp only [invoke]
      simpa [callSem] using hK
  · rename_i x name xs at_ heq
    split at h <;> try (cases h; done)
    rename_i t v hx
    cases hfl : flat v with
    | false => rw [hfl] at h; cases h
    | true =>
      rw [hfl] at h; simp only [cond_true] at h
      split at h <;> try (cases h; done)
      rename_i f0 r hm
      split at h <;> try (cases h; done)
      rename_i vs hvs
      cases hf : (ffB P f0 && flat r) with
      | false => rw [hf] at h; cases h
      | true =>
        rw [hf] at h; simp only [cond_true, Option.some.injEq, Prod.mk.injEq] at h
        obtain ⟨rfl, rfl⟩ := h
        simp only [Bool.and_eq_true] at hf
        obtain ⟨x', j1, j2⟩ := he.evc hx
        obtain ⟨vs', k1, k2⟩ := he.evcL hvs
        cases j2
        rename_i v' hv'
        have := flat_eq hfl hv'
        subst this
        refine ⟨r :: vs', id, .cons _ _ _ _ (flat_vr hf.2) k2, fun i hi => ((by cases hi)), fun f hf2 => by cases hf2; exact ffB_ok hf.1, fun g hg s K E hK => ?_⟩
        simp only [execOp, heq, resolve, hg _ _ j1, t_pure, hg.arr k1]
        have hex : ((#[Value.iface t v'] ++ (⟨vs'⟩ : Array Value)).extract 1 (#[Value.iface t v'] ++ (⟨vs'⟩ : Array Value)).size) = ⟨vs'⟩ := by simp
        have h0 : (#[Value.iface t v'] ++ (⟨vs'⟩ : Array Value))[0]? = some (.iface t v') := by simp
        simp only [invoke, h0, hex, callMethod, t_bind, t_program]
        refine runPure_bind hm ?_
        simpa [callSem] using hK
  · cases h

def panicV (n : Nat) (ce : Env) : Op → Option Value
  | .panic x => match evc n ce x with
    | some (.iface t v) => some (.iface t v)
    | _ => none
  | _ => none
theorem panicV_ok {P : Program} {n : Nat} {ρ : Ren} {ce e : Env} (he : ER ρ ce e) {o : Oper} {v : Value} (h : panicV n ce o.op = some v) :
    ∃ v', VR ρ v v' ∧ ∀ g, Ev n e g → ∀ (s : St) (K : Next → St → Prop) (E : Halt → St → Prop), E (.panic v') s → tri P (execOp g o) s K E := by
  unfold panicV at h
  split at h <;> try (cases h; done)
  rename_i x heq
  split at h <;> try (cases h; done)
  rename_i t u hx
  simp only [Option.some.injEq] at h; subst h
  obtain ⟨x', j1, j2⟩ := he.evc hx
  cases j2
  rename_i u' hu
  refine ⟨_, .iface t u u' hu, fun g hg s K E hE => ?_⟩
  simp only [execOp, heq, hg _ _ j1, Instr.panic]
  exact hE

/-- One operation, whatever it is: how it goes on. -/
inductive CO where
  | go (v : Value) (m : Mem)
  | panic (v : Value) (m : Mem)
def stepOp (P : Program) (call : CallT) (ops : Array Oper) (n : Nat) (ce : Env) (m : Mem) (o : Oper) : Option CO :=
  bif notDefer o.op then (match guardS ops n ce o.guard with
    | some false => some (.go undef m)
    | some true => match actV P n ce m o.op with
      | some (v, m') => some (.go v m')
      | none => match target P n ce o.op with
        | some (f, args) => match call f args m with
          | some (.ret v, m') => some (.go v m')
          | some (.panic v, m') => some (.panic v m')
          | none => none
        | none => match valV P n ce m o with
          | some v => some (.go v m)
          | none => match panicV n ce o.op with
            | some v => some (.panic v m)
            | none => none
    | none => none) else none
theorem stepOp_ok {P : Program} {C : Class} {fn : FuncId} {rnd : Option Nat} {Q : Post} {s : St} {n : Nat} {D : List Deferred} {ops : Array Oper} {i : Nat} {todo : List Nat} {ρ : Ren} {ce e : Env} {o : Oper} {m : Mem} {F : Nat × Obj → Prop} {R : Nat → Option Obj} {call : CallT} {r : CO}
    (hC : ∀ main T, C main T → Closed P main T) (hcall : CallOK C P call) (ho : ops[i]? = some o) (rest : Env) (he : ER ρ ce e) (hr : Rel P ρ m F R s) (h : stepOp P call ops n ce m o = some r)
    (hgo : ∀ v m' v' ρ' s', r = .go v m' → Grow ρ m ρ' m' → VR ρ' v v' → Rel P ρ' m' F R s' → OpsWp C fn rnd ops todo Q (A n (upd o.dst v' (e ++ rest)) D) s')
    (hpa : ∀ v m' v' ρ' s', r = .panic v m' → Grow ρ m ρ' m' → VR ρ' v v' → Rel P ρ' m' F R s' → Q (.panic [{ v := v', recovered := false }]) (A n (e ++ rest) D) s') :
    OpsWp C fn rnd ops (i :: todo) Q (A n (e ++ rest) D) s := by
  unfold stepOp at h
  cases hd : notDefer o.op with
  | false => rw [hd] at h; cases h
  | true =>
    rw [hd] at h; simp only [cond_true] at h
    split at h
    · rename_i hg
      simp only [Option.some.injEq] at h; subst h
      exact guard_false hC ho he hg rest (hgo _ _ _ ρ s rfl (Grow.refl _ _) vr_undef hr)
    · rename_i hg
      have hw := guard_true he hg rest
      split at h
      · rename_i v m' hact
        simp only [Option.some.injEq] at h; subst h
        exact ops_acts hC ho rest hw hd (act_ok he hr hact) fun v' ρ' s' hl hv hr' => hgo _ _ v' ρ' s' rfl hl hv hr'
      · split at h
        · rename_i f args htg
          obtain ⟨args', g, hargs, hg1, hg2, htri⟩ := target_ok he htg
          refine o_step hC ho hw (notDefer_ne hd) (htri _ (Ev.of_app rest) s _ _ ?_)
          have key : ∀ cr m', call f args m = some (cr, m') → (∀ en s' ρ', Grow ρ m ρ' m' → Rel P ρ' m' F R s' → CRR ρ' cr en → retQ o.dst (A n (e ++ rest) D) (fun a' s' => OpsWp C fn rnd ops todo Q a' s') Q en s') →
              tri P (callSem f g ⟨args'⟩) s (upon C P rnd o.dst (A n (e ++ rest) D) (fun a' s' => OpsWp C fn rnd ops todo Q a' s') Q) (onHalt (A n (e ++ rest) D) Q) := by
            intro cr m' hc hpost
            refine tri_mono _ _ _ _ _ _ (fun nx s1 hf => ?_) (fun _ _ hh => hh.elim) (hcall _ _ _ _ _ hc ρ args' s F R hargs hr g hg1 hg2)
            cases nx with
            | enter f2 a2 => exact Fn.mono (show Fn C P f2 a2 s1 (fun en s' => ∃ ρ', Grow ρ m ρ' m' ∧ Rel P ρ' m' F R s' ∧ CRR ρ' cr en) from hf) fun en s' hen => by obtain ⟨ρ', h1, h2, h3⟩ := hen; exact hpost en s' ρ' h1 h2 h3
            | round l f2 tm as bd =>
              intro main T hT c cs k1 k2
              exact hf main T hT c cs (fun v s' hv => k1 v s' (by obtain ⟨ρ', h1, h2, h3⟩ := hv; exact hpost _ s' ρ' h1 h2 h3)) (fun ch s' hv => k2 ch s' (by obtain ⟨ρ', h1, h2, h3⟩ := hv; exact hpost _ s' ρ' h1 h2 h3))
            | _ => exact hf.elim
          split at h <;> try (cases h; done)
          · rename_i v m' hc
            simp only [Option.some.injEq] at h; subst h
            refine key _ _ hc fun en s' ρ' hl hr' hcr => ?_
            cases hcr
            rename_i v' hv
            have := hgo _ _ v' ρ' s' rfl hl hv hr'
            rw [← A_put] at this
            exact this
          · rename_i v m' hc
            simp only [Option.some.injEq] at h; subst h
            refine key _ _ hc fun en s' ρ' hl hr' hcr => ?_
            cases hcr
            rename_i v' hv
            exact hpa _ _ v' ρ' s' rfl hl hv hr'
        · split at h
          · rename_i v hval
            simp only [Option.some.injEq] at h; subst h
            obtain ⟨v', k1, k2⟩ := val_ok he hr hval
            exact ops_yields hC ho rest hw hd k2 (Ext.refl s) (hgo _ _ v' ρ s rfl (Grow.refl _ _) k1 hr)
          · split at h <;> try (cases h; done)
            rename_i v hpv
            simp only [Option.some.injEq] at h; subst h
            obtain ⟨v', k1, k2⟩ := panicV_ok (P := P) he hpv
            refine o_step hC ho hw (notDefer_ne hd) (k2 _ (Ev.of_app rest) s _ _ ?_)
            exact hpa _ _ v' ρ s rfl (Grow.refl _ _) k1 hr
    · cases h
end Go.L
namespace Go.L
open Go Go.Conc

def delE (d : Nat) : Env → Env
  | [] => []
  | (k, v) :: r => bif Nat.beq k d then r else (k, v) :: delE d r
def updc (dst : Option Tmp) (v : Value) (env : Env) : Env :=
  match dst with
  | some d => (d, v) :: delE d env
  | none => env
theorem delE_get {d t : Nat} (h : d ≠ t) : ∀ (e : Env), get (delE d e) t = get e t
  | [] => rfl
  | (k, v) :: r => by
    simp only [delE]
    cases hb : Nat.beq k d with
    | true =>
      have := Nat.eq_of_beq_eq_true hb
      subst this
      simp only [cond_true, get_cons, if_neg h]
    | false => simp only [cond_false, get_cons, delE_get h r]
theorem updc_A (n : Nat) (dst : Option Tmp) (v : Value) (e : Env) (D : List Deferred) : A n (upd dst v e) D = A n (updc dst v e) D := by
  cases dst with
  | none => rfl
  | some d =>
    simp only [A, upd, updc, Act.mk.injEq, and_true]
    congr 1
    funext i
    rw [get_cons, get_cons]
    split
    · rfl
    · rename_i h; rw [delE_get h]
theorem ER.delE {ρ : Ren} {d : Nat} : ∀ {l l' : Env}, ER ρ l l' → ER ρ (delE d l) (L.delE d l')
  | _, _, .nil => .nil
  | _, _, .cons k v v' l l' h1 h2 => by
    simp only [L.delE]
    cases Nat.beq k d with
    | true => exact h2
    | false => exact .cons _ _ _ _ _ h1 h2.delE
theorem ER.updc {ρ : Ren} {v v' : Value} {l l' : Env} (dst : Option Tmp) (hv : VR ρ v v') (h : ER ρ l l') : ER ρ (updc dst v l) (L.updc dst v' l') := by
  cases dst with
  | none => exact h
  | some d => exact .cons _ _ _ _ _ hv h.delE
theorem ER.upd {ρ : Ren} {v v' : Value} {l l' : Env} (dst : Option Tmp) (hv : VR ρ v v') (h : ER ρ l l') : ER ρ (upd dst v l) (L.upd dst v' l') := by
  cases dst with
  | none => exact h
  | some d => exact .cons _ _ _ _ _ hv h

inductive RO where
  | done (ce : Env) (m : Mem)
  | panic (v : Value) (ce : Env) (m : Mem)
def runOps (P : Program) (call : CallT) (ops : Array Oper) (n : Nat) : List Nat → Env → Mem → Option RO
  | [], ce, m => some (.done ce m)
  | i :: l, ce, m => match ops[i]? with
    | some o => match stepOp P call ops n ce m o with
      | some (.go v m') => runOps P call ops n l (updc o.dst v ce) m'
      | some (.panic v m') => some (.panic v ce m')
      | none => none
    | none => none

/-- What a piece of code is known to come to. -/
structure Post' (P : Program) (n : Nat) (D : List Deferred) (F : Nat × Obj → Prop) (R : Nat → Option Obj) (ρ : Ren) (m0 : Mem) (r : RO) (Q : Post) : Prop where
  done : ∀ ce m, r = .done ce m → ∀ ρ' e' s', Grow ρ m0 ρ' m → ER ρ' ce e' → Rel P ρ' m F R s' → Q .normal (A n e' D) s'
  panic : ∀ v ce m, r = .panic v ce m → ∀ ρ' v' e' rest s', Grow ρ m0 ρ' m → VR ρ' v v' → ER ρ' ce e' → Rel P ρ' m F R s' → Q (.panic [{ v := v', recovered := false }]) (A n (e' ++ rest) D) s'
theorem Post'.up {P : Program} {n : Nat} {D : List Deferred} {F : Nat × Obj → Prop} {R : Nat → Option Obj} {ρ ρ' : Ren} {m m' : Mem} {r : RO} {Q : Post} (h : Post' P n D F R ρ m r Q) (hl : Grow ρ m ρ' m') : Post' P n D F R ρ' m' r Q :=
  ⟨fun ce m hr ρ2 e' s' h2 => h.done ce m hr ρ2 e' s' (hl.trans h2), fun v ce m hr ρ2 v' e' rest s' h2 => h.panic v ce m hr ρ2 v' e' rest s' (hl.trans h2)⟩

section ops
variable {P : Program} {C : Class} {fn : FuncId} {rnd : Option Nat} {Q : Post} {n : Nat} {D : List Deferred} {ops : Array Oper} {F : Nat × Obj → Prop} {R : Nat → Option Obj} {call : CallT}

theorem runOps_ok (hC : ∀ main T, C main T → Closed P main T) (hcall : CallOK C P call) : ∀ (l : List Nat) {ρ : Ren} {ce e : Env} {m : Mem} {s : St} {r : RO}, runOps P call ops n l ce m = some r → ER ρ ce e → Rel P ρ m F R s → Post' P n D F R ρ m r Q → OpsWp C fn rnd ops l Q (A n e D) s
  | [], ρ, ce, e, m, s, r, h, he, hr, hQ => by
    simp only [runOps, Option.some.injEq] at h; subst h
    exact ops_nil hC (hQ.done _ _ rfl ρ e s (Grow.refl _ _) he hr)
  | i :: l, ρ, ce, e, m, s, r, h, he, hr, hQ => by
    simp only [runOps] at h
    split at h <;> try (cases h; done)
    rename_i o ho
    have key : ∀ r0, stepOp P call ops n ce m o = some r0 → (match r0 with | .go v m' => runOps P call ops n l (updc o.dst v ce) m' | .panic v m' => some (.panic v ce m')) = some r → OpsWp C fn rnd ops (i :: l) Q (A n (e ++ []) D) s := by
      intro r0 hs h
      refine stepOp_ok hC hcall ho [] he hr hs (fun v m' v' ρ' s' hr0 hl hv hr' => ?_) (fun v m' v' ρ' s' hr0 hl hv hr' => ?_)
      · subst hr0
        simp only at h
        rw [List.append_nil, updc_A]
        exact runOps_ok hC hcall l h ((he.up hl.le).updc _ hv) hr' (hQ.up hl)
      · subst hr0
        simp only [Option.some.injEq] at h; subst h
        exact hQ.panic _ _ _ rfl ρ' v' e [] s' hl hv (he.up hl.le) hr'
    rw [List.append_nil] at key
    split at h <;> try (cases h; done)
    · rename_i v m' hs; exact key _ hs h
    · rename_i v m' hs; exact key _ hs h
end ops

/-! ### A region that draws its order -/
inductive PL (ρ : Ren) : List (Nat × Value) → List (Nat × Value) → Prop
  | nil : PL ρ [] []
  | cons (i : Nat) (v v' : Value) (l l' : List (Nat × Value)) : VR ρ v v' → PL ρ l l' → PL ρ ((i, v) :: l) ((i, v') :: l')
theorem PL.up {ρ ρ' : Ren} (hl : ρ.le ρ') : ∀ {l l' : List (Nat × Value)}, PL ρ l l' → PL ρ' l l'
  | _, _, .nil => .nil
  | _, _, .cons i v v' l l' h1 h2 => .cons i v v' l l' (h1.up hl) (h2.up hl)
theorem PL.keys {ρ : Ren} : ∀ {l l' : List (Nat × Value)}, PL ρ l l' → keysOf l' = keysOf l
  | _, _, .nil => rfl
  | _, _, .cons i v v' l l' h1 h2 => by simp [keysOf, h2.keys]
theorem PL.mem {ρ : Ren} : ∀ {l l' : List (Nat × Value)}, PL ρ l l' → ∀ {i v'}, (i, v') ∈ l' → ∃ v, (i, v) ∈ l ∧ VR ρ v v'
  | _, _, .nil, i, v', h => by cases h
  | _, _, .cons j v w l l' h1 h2, i, v', h => by
    rcases List.mem_cons.1 h with h | h
    · cases h; exact ⟨v, by simp, h1⟩
    · obtain ⟨u, k1, k2⟩ := h2.mem h; exact ⟨u, by simp [k1], k2⟩
theorem PL.filter {ρ : Ren} (p : Nat → Bool) : ∀ {l l' : List (Nat × Value)}, PL ρ l l' → PL ρ (l.filter fun x => p x.1) (l'.filter fun x => p x.1)
  | _, _, .nil => .nil
  | _, _, .cons i v v' l l' h1 h2 => by
    simp only [List.filter_cons]
    cases p i with
    | true => exact .cons _ _ _ _ _ h1 (h2.filter p)
    | false => exact h2.filter p
theorem ER.filter {ρ : Ren} (p : Nat → Bool) : ∀ {l l' : Env}, ER ρ l l' → ER ρ (l.filter fun x => p x.1) (l'.filter fun x => p x.1)
  | _, _, .nil => .nil
  | _, _, .cons i v v' l l' h1 h2 => by
    simp only [List.filter_cons]
    cases p i with
    | true => exact .cons _ _ _ _ _ h1 (h2.filter p)
    | false => exact h2.filter p
/-- it waits for all others -/
def lateB (ops : Array Oper) (i : Nat) : Bool := (List.range ops.size).all fun k => Nat.beq k i || memB k (depsOf ops i)
def hideB (ops : Array Oper) (t : Nat) : Bool := (List.range ops.size).any fun i => (dstOf ops i == some t) && !lateB ops i
/-- the slots that an operation looks at: each stands as it stood ahead of the region, or as one for which it waits has left it -/
def isDst (ops : Array Oper) (j t : Nat) : Bool := match dstOf ops j with
  | some d => Nat.beq d t
  | none => false
def writerL (ops : Array Oper) (t : Nat) : List Nat → Option Nat
  | [] => none
  | j :: l => bif isDst ops j t then some j else writerL ops t l
def readSrc (ops : Array Oper) (i t : Nat) : Option (Option Nat) :=
  match writerL ops t (List.range ops.size) with
  | some j => bif memB j (depsOf ops i) then some (some j) else bif hideB ops t then none else some none
  | none => bif hideB ops t then none else some none
def tmpsO : List Operand → List Nat
  | [] => []
  | .tmp t :: l => t :: tmpsO l
  | _ :: l => tmpsO l
def guardT (ops : Array Oper) (o : Oper) : List Nat := match o.guard with
  | some (j, _) => match dstOf ops j with
    | some d => [d]
    | none => []
  | none => []
def readsL (ops : Array Oper) (i : Nat) : List Nat → List (Nat × Option Nat)
  | [] => []
  | t :: l => match readSrc ops i t with
    | some s => (t, s) :: readsL ops i l
    | none => readsL ops i l
def readsOf (ops : Array Oper) (i : Nat) : List (Nat × Option Nat) := match ops[i]? with
  | some o => readsL ops i (guardT ops o ++ tmpsO o.op.operands.toList)
  | none => []
def lookP : List (Nat × Value) → Nat → Option Value
  | [], _ => none
  | (i, v) :: l, j => bif Nat.beq i j then some v else lookP l j
def envR (ce : Env) (Pl : List (Nat × Value)) : List (Nat × Option Nat) → Env
  | [] => []
  | (t, none) :: r => match geto ce t with
    | some v => (t, v) :: envR ce Pl r
    | none => envR ce Pl r
  | (t, some j) :: r => match lookP Pl j with
    | some v => (t, v) :: envR ce Pl r
    | none => envR ce Pl r
def envS (ops : Array Oper) (ce : Env) (i : Nat) (Pl : List (Nat × Value)) : Env := envR ce Pl (readsOf ops i)
theorem writerL_ok {ops : Array Oper} {t j : Nat} : ∀ {l : List Nat}, writerL ops t l = some j → dstOf ops j = some t
  | k :: l, h => by
    simp only [writerL] at h
    cases hb : isDst ops k t with
    | true =>
      rw [hb] at h; simp only [cond_true, Option.some.injEq] at h; subst h
      unfold isDst at hb
      split at hb
      · rename_i d hd; rw [hd, Nat.eq_of_beq_eq_true hb]
      · cases hb
    | false => rw [hb] at h; exact writerL_ok h
theorem readSrc_ok {ops : Array Oper} {i t : Nat} {s : Option Nat} (h : readSrc ops i t = some s) : (∃ j, s = some j ∧ j ∈ depsOf ops i ∧ dstOf ops j = some t) ∨ (s = none ∧ hideB ops t = false) := by
  have hh : (bif hideB ops t then none else some none) = some s → s = none ∧ hideB ops t = false := by
    intro h
    cases hb : hideB ops t with
    | true => rw [hb] at h; cases h
    | false => rw [hb] at h; simp only [cond_false, Option.some.injEq] at h; exact ⟨h.symm, rfl⟩
  unfold readSrc at h
  split at h
  · rename_i j hj
    cases hm : memB j (depsOf ops i) with
    | true =>
      rw [hm] at h; simp only [cond_true, Option.some.injEq] at h
      exact .inl ⟨j, h.symm, memB_iff.1 hm, writerL_ok hj⟩
    | false => rw [hm] at h; exact .inr (hh h)
  · exact .inr (hh h)
def ReadOK (ops : Array Oper) (i : Nat) (x : Nat × Option Nat) : Prop := (∃ j, x.2 = some j ∧ j ∈ depsOf ops i ∧ dstOf ops j = some x.1) ∨ (x.2 = none ∧ hideB ops x.1 = false)
theorem readsL_ok {ops : Array Oper} {i : Nat} : ∀ {l : List Nat}, ∀ x ∈ readsL ops i l, ReadOK ops i x
  | t :: l, x, h => by
    simp only [readsL] at h
    split at h
    · rename_i s hs
      rcases List.mem_cons.1 h with rfl | h
      · exact readSrc_ok hs
      · exact readsL_ok x h
    · exact readsL_ok x h
theorem readsOf_ok {ops : Array Oper} {i : Nat} : ∀ x ∈ readsOf ops i, ReadOK ops i x := by
  intro x h
  unfold readsOf at h
  split at h
  · exact readsL_ok x h
  · cases h
theorem lookP_mem : ∀ {l : List (Nat × Value)} {j : Nat} {v : Value}, lookP l j = some v → (j, v) ∈ l
  | (i, u) :: l, j, v, h => by
    simp only [lookP] at h
    cases hb : Nat.beq i j with
    | true => rw [hb] at h; simp only [cond_true, Option.some.injEq] at h; subst h; rw [Nat.eq_of_beq_eq_true hb]; simp
    | false => rw [hb] at h; exact List.mem_cons_of_mem _ (lookP_mem h)
theorem envS_more {ops : Array Oper} {ce : Env} {k i : Nat} {v : Value} {Pl : List (Nat × Value)} (h : i ∉ depsOf ops k) : envS ops ce k ((i, v) :: Pl) = envS ops ce k Pl := by
  have key : ∀ l : List (Nat × Option Nat), (∀ x ∈ l, ReadOK ops k x) → envR ce ((i, v) :: Pl) l = envR ce Pl l := by
    intro l
    induction l with
    | nil => intro _; rfl
    | cons x l ih =>
      intro hl
      have h1 := ih fun x hx => hl x (List.mem_cons_of_mem _ hx)
      rcases x with ⟨t, _ | j⟩
      · simp only [envR, h1]
      · have hne : Nat.beq i j = false := by
          rcases hl _ (List.mem_cons_self) with ⟨j', e, hj, _⟩ | ⟨e, _⟩
          · cases e
            exact beq_false fun e => h (e ▸ hj)
          · cases e
        simp only [envR, lookP, hne, cond_false, h1]
  exact key _ readsOf_ok
theorem get_over {e env : Env} {t : Nat} (h : ∀ v, geto e t = some v → get env t = v) : get (e ++ env) t = get env t := by
  induction e with
  | nil => rfl
  | cons x e ih =>
    rcases x with ⟨k, u⟩
    simp only [List.cons_append, get_cons]
    by_cases hk : k = t
    · rw [if_pos hk]
      exact (h u (by simp [geto, hk])).symm
    · rw [if_neg hk]
      exact ih fun v hv => h v (by simp only [geto, beq_false hk, cond_false]; exact hv)
theorem A_over {n : Nat} {e env : Env} {D : List Deferred} (h : ∀ t v, geto e t = some v → get env t = v) : A n env D = A n (e ++ env) D := by
  simp only [A, Act.mk.injEq, and_true]
  congr 1
  funext i
  exact (get_over (h i.val)).symm
theorem envAll_er {ρ : Ren} {ops : Array Oper} {ce e : Env} (he : ER ρ ce e) : ∀ {l l' : List (Nat × Value)}, PL ρ l l' → ER ρ (envAll ops ce l) (envAll ops e l')
  | _, _, .nil => he
  | _, _, .cons i v v' l l' h1 h2 => (envAll_er he h2).upd _ h1

theorem allIn_cons {l ks : List Nat} {i : Nat} (h : allIn l ks = true) : allIn l (i :: ks) = true :=
  allIn_iff.2 fun j hj => List.mem_cons_of_mem _ (allIn_iff.1 h j hj)
theorem keysOk_cons {ops : Array Oper} {ks : List Nat} {i : Nat} (h : keysOk ops ks = true) (hi : allIn (depsOf ops i) ks = true) : keysOk ops (i :: ks) = true := by
  simp only [keysOk, List.all_eq_true] at h ⊢
  intro j hj
  rcases List.mem_cons.1 hj with rfl | hj
  · exact allIn_cons hi
  · exact allIn_cons (h j hj)

end Go.L
namespace Go.L
open Go Go.Conc

/-! ### Allocations, of which only the block's number is open -/
def allocO (P : Program) (n : Nat) (ce : Env) (op : Op) (id : Nat) : Option (Value × CObj) :=
  match op with
  | .alloc T => match tinfo P T with
    | some ti => bif flatAll flat ti.zero then some (.pointer (some ⟨id, 0, none⟩), .cells ti.zero T) else none
    | none => none
  | .box T x => match evc n ce x with
    | some v => some (.pointer (some ⟨id, 0, none⟩), .cells (cellsL v) T)
    | none => none
  | .buildSlice T len ps => match tinfo P T with
    | some ⟨.slice E, _, _, _⟩ => match tinfo P E with
      | some te => match evcp n ce ps.toList with
        | some pv => match fillL (fun i => some (i * te.size, te.size)) (zerosL te.zero len) pv with
          | some l => bif flatAll flat te.zero && (Nat.beq te.zero.length te.size && (Nat.ble (len * te.size) 16777216 && Nat.ble len capL)) then some (.slice (some ⟨id, 0, none⟩) len len, .cells l E) else none
          | none => none
        | none => none
      | none => none
    | _ => none
  | _ => none

section allocs
variable {P : Program} {ρ : Ren} {n id : Nat} {ce e : Env} {o : Oper} {v : Value} {ob : CObj}
/-- what is known of an allocation -/
def AllocAt (P : Program) (ρ : Ren) (n id : Nat) (e : Env) (o : Oper) (v : Value) (ob : CObj) : Prop :=
  ∃ (o' : Obj) (vf : Nat → Value), OR ρ ob o' ∧ Room P 0 ob o' ∧ (∀ b (ρ' : Ren), ρ' id = some (b, 0) → VR ρ' v (vf b)) ∧
    ∀ (s : St) f, Ev n e f → ∀ (K : Next → St → Prop) (E : Halt → St → Prop), (∀ b, ¬ s.knows b → K (.value (vf b)) ⟨s.ro, (b, o') :: s.rw⟩) → tri P (execOp f o) s K E
theorem allocO_ok (he : ER ρ ce e) (h : allocO P n ce o.op id = some (v, ob)) : AllocAt P ρ n id e o v ob := by
  unfold allocO at h
  split at h
  · rename_i T heq
    split at h <;> try (cases h; done)
    rename_i ti hti
    obtain ⟨by_, tf⟩ := tf_tinfo hti
    cases hc : flatAll flat ti.zero with
    | false => rw [hc] at h; cases h
    | true =>
      rw [hc] at h; simp only [cond_true, Option.some.injEq, Prod.mk.injEq] at h
      obtain ⟨rfl, rfl⟩ := h
      have hor := OR.cells (ρ := ρ) ti.zero ti.zero [] T (flatAll_vr hc)
      rw [List.append_nil] at hor
      refine ⟨_, fun b => .pointer (some ⟨b, 0, none⟩), hor, room0, fun b ρ' hb => .ptr _ b 0 0 hb, fun s f hf K E hK => ?_⟩
      simp only [execOp, heq, Instr.alloc, t_bind, t_zero tf, t_newVar, t_pure, zval_cells tf]
      exact hK
  · rename_i T x heq
    split at h <;> try (cases h; done)
    rename_i u hu
    simp only [Option.some.injEq, Prod.mk.injEq] at h
    obtain ⟨rfl, rfl⟩ := h
    obtain ⟨u', k1, k2⟩ := he.evc hu
    have hor := OR.cells (ρ := ρ) (cellsL u) (cellsL u') [] T (cells_vr k2)
    rw [List.append_nil] at hor
    refine ⟨_, fun b => .pointer (some ⟨b, 0, none⟩), hor, room0, fun b ρ' hb => .ptr _ b 0 0 hb, fun s f hf K E hK => ?_⟩
    simp only [execOp, heq, Instr.box, t_bind, t_newVar, t_pure, hf _ _ k1]
    rw [show u'.cells = ⟨cellsL u'⟩ from by rw [cellsL_eq]]
    exact hK
  · rename_i T len ps heq
    split at h <;> try (cases h; done)
    rename_i E _ _ _ hti
    split at h <;> try (cases h; done)
    rename_i te hte
    split at h <;> try (cases h; done)
    rename_i pv hpv
    split at h <;> try (cases h; done)
    rename_i l hl
    obtain ⟨by_, tf⟩ := tf_tinfo hti
    obtain ⟨by2, tf'⟩ := tf_tinfo hte
    cases hc : (flatAll flat te.zero && (Nat.beq te.zero.length te.size && (Nat.ble (len * te.size) 16777216 && Nat.ble len capL))) with
    | false => rw [hc] at h; cases h
    | true =>
      rw [hc] at h; simp only [cond_true, Option.some.injEq, Prod.mk.injEq] at h
      obtain ⟨rfl, rfl⟩ := h
      simp only [Bool.and_eq_true, Nat.beq_eq, Nat.ble_eq] at hc
      obtain ⟨hz, hz', hle, hcap⟩ := hc
      obtain ⟨pv', k1, k2⟩ := evcp_ok he hpv
      obtain ⟨l', k3, k4⟩ := fillL_vr _ k2 (zeros_vr hz len) hl
      have hor := OR.cells (ρ := ρ) l l' [] E k4
      rw [List.append_nil] at hor
      refine ⟨_, fun b => .slice (some ⟨b, 0, none⟩) len len, hor, room0, fun b ρ' hb => .slice _ b 0 0 len len hb hcap, fun s f hf K Q hK => ?_⟩
      have hle' : ¬ len * te.size > 2 ^ 24 := by omega
      rw [partsL_eq] at k3
      have h1 := fill_eq _ _ _ _ k3
      simp only [execOp, heq, Instr.buildSlice, t_bind, t_und tf, t_size tf', hle', if_false]
      by_cases h0 : len * te.size = 0
      · rw [if_pos h0]
        have hzz : ((Array.range (len * te.size)).map fun i => (#[] : Array Value)[i % (#[] : Array Value).size]!) = ⟨zerosL te.zero len⟩ := by
          rw [h0]
          have : zerosL te.zero len = [] := List.eq_nil_of_length_eq_zero (by rw [zerosL_len, hz', h0])
          rw [this]; simp
        simp only [t_bind, t_pure]
        rw [hzz, hf.partsA k1, h1]
        simp only [t_bind, t_newRow, t_pure]
        exact hK
      · rw [if_neg h0]
        have hzz : ((Array.range (len * te.size)).map fun i => (⟨te.zero⟩ : Array Value)[i % (⟨te.zero⟩ : Array Value).size]!) = ⟨zerosL te.zero len⟩ := by rw [← hz']; exact zeros_eq te.zero len
        simp only [t_bind, t_zero tf', t_pure, zval_cells tf', hzz, hf.partsA k1, h1, t_newRow]
        exact hK
  · cases h
end allocs

/-! ### Pending allocations: operation, number, object -/
structure AL where
  i : Nat
  id : Nat
  ob : CObj
def memS (m : Mem) (S : Nat → Bool) : List AL → Mem
  | [] => m
  | a :: r => bif S a.i then (memS m S r).addAt a.id a.ob else memS m S r
theorem memS_next (m : Mem) (S : Nat → Bool) : ∀ l, (memS m S l).next = m.next
  | [] => rfl
  | a :: r => by
    simp only [memS]
    cases S a.i with
    | true => exact memS_next m S r
    | false => exact memS_next m S r
/-- numbers apart, free, and set aside -/
def alOk (m : Mem) : List AL → Bool
  | [] => true
  | a :: r => (r.all fun x => !Nat.beq x.id a.id && !Nat.beq x.i a.i) && ((m.t.get a.id).isNone && (Nat.blt a.id m.next && alOk m r))
theorem alOk_mem {m : Mem} : ∀ {l : List AL}, alOk m l = true → ∀ a ∈ l, m.t.get a.id = none ∧ a.id < m.next
  | x :: l, h, a, ha => by
    simp only [alOk, Bool.and_eq_true] at h
    rcases List.mem_cons.1 ha with rfl | ha
    · exact ⟨by simpa using h.2.1, by simpa [Nat.blt_eq] using h.2.2.1⟩
    · exact alOk_mem h.2.2.2 a ha
theorem alOk_id {m : Mem} : ∀ {l : List AL}, alOk m l = true → ∀ a ∈ l, ∀ b ∈ l, a.id = b.id → a = b
  | x :: l, h, a, ha, b, hb, e => by
    simp only [alOk, Bool.and_eq_true, List.all_eq_true, Bool.not_eq_true'] at h
    rcases List.mem_cons.1 ha with ha' | ha' <;> rcases List.mem_cons.1 hb with hb' | hb'
    · rw [ha', hb']
    · subst ha'; have := (h.1 b hb').1; rw [← e, Nat.beq_refl] at this; cases this
    · subst hb'; have := (h.1 a ha').1; rw [e, Nat.beq_refl] at this; cases this
    · exact alOk_id h.2.2.2 a ha' b hb' e
theorem alOk_op {m : Mem} : ∀ {l : List AL}, alOk m l = true → ∀ a ∈ l, ∀ b ∈ l, a.i = b.i → a = b
  | x :: l, h, a, ha, b, hb, e => by
    simp only [alOk, Bool.and_eq_true, List.all_eq_true, Bool.not_eq_true'] at h
    rcases List.mem_cons.1 ha with ha' | ha' <;> rcases List.mem_cons.1 hb with hb' | hb'
    · rw [ha', hb']
    · subst ha'; have := (h.1 b hb').2; rw [← e, Nat.beq_refl] at this; cases this
    · subst hb'; have := (h.1 a ha').2; rw [e, Nat.beq_refl] at this; cases this
    · exact alOk_op h.2.2.2 a ha' b hb' e
/-- what such a memory holds -/
theorem memS_get {m : Mem} (hf : m.next < 2 ^ depthT) {S : Nat → Bool} : ∀ {l : List AL}, alOk m l = true → ∀ j, (∃ a ∈ l, S a.i = true ∧ a.id = j ∧ (memS m S l).t.get j = some ⟨false, a.ob⟩) ∨ ((∀ a ∈ l, S a.i = true → a.id ≠ j) ∧ (memS m S l).t.get j = m.t.get j)
  | [], _, j => .inr ⟨by simp, rfl⟩
  | a :: r, h, j => by
    have h' := h
    simp only [alOk, Bool.and_eq_true] at h
    have hlt : a.id < m.next := by simpa [Nat.blt_eq] using h.2.2.1
    simp only [memS]
    cases hs : S a.i with
    | false =>
      simp only [cond_false]
      rcases memS_get hf h.2.2.2 j with ⟨b, hb, h1, h2, h3⟩ | ⟨h1, h2⟩
      · exact .inl ⟨b, List.mem_cons_of_mem _ hb, h1, h2, h3⟩
      · refine .inr ⟨fun b hb hsb => ?_, h2⟩
        rcases List.mem_cons.1 hb with rfl | hb
        · rw [hs] at hsb; cases hsb
        · exact h1 b hb hsb
    | true =>
      simp only [cond_true]
      have hg : ((memS m S r).addAt a.id a.ob).t.get j = if j = a.id then some ⟨false, a.ob⟩ else (memS m S r).t.get j := Tr.get_put _ _ _ _ (Nat.lt_trans hlt hf) j
      by_cases e : j = a.id
      · exact .inl ⟨a, by simp, hs, e.symm, by rw [hg, if_pos e]⟩
      · rw [hg, if_neg e]
        rcases memS_get hf h.2.2.2 j with ⟨b, hb, h1, h2, h3⟩ | ⟨h1, h2⟩
        · exact .inl ⟨b, List.mem_cons_of_mem _ hb, h1, h2, h3⟩
        · refine .inr ⟨fun b hb hsb => ?_, h2⟩
          rcases List.mem_cons.1 hb with rfl | hb
          · exact fun h => e h.symm
          · exact h1 b hb hsb

section rel
variable {P : Program} {ρ : Ren} {m m' : Mem} {F : Nat × Obj → Prop} {R : Nat → Option Obj} {s : St} {S S' : Nat → Bool} {l : List AL}
/-- less is known -/
theorem Rel.less (h : Rel P ρ m F R s) (hn : m'.next = m.next) (hg : ∀ i c, m'.t.get i = some c → m.t.get i = some c) : Rel P ρ m' F R s :=
  ⟨fun i hi => h.len i (hn ▸ hi), by rw [hn]; exact h.fits, fun i hi => (by
    cases hc : m'.t.get i with
    | none => rfl
    | some c => have := h.out i (hn ▸ hi); rw [hg i c hc] at this; exact (by cases this)), fun i c hc => h.blk i c (hg i c hc), fun i j ci cj b k k' h1 h2 => h.inj i j ci cj b k k' (hg _ _ h1) (hg _ _ h2), h.frame, fun i c b k o hc => h.apart i c b k o (hg _ _ hc), h.ro⟩
theorem memS_less (hf : m.next < 2 ^ depthT) (hok : alOk m l = true) (hS : ∀ a ∈ l, S a.i = true → S' a.i = true) : ∀ i c, (memS m S l).t.get i = some c → (memS m S' l).t.get i = some c := by
  intro i c hc
  rcases memS_get hf (S := S) hok i with ⟨a, ha, h1, h2, h3⟩ | ⟨h1, h2⟩
  · rw [h3] at hc
    rcases memS_get hf (S := S') hok i with ⟨b, hb, k1, k2, k3⟩ | ⟨k1, k2⟩
    · have := alOk_id hok a ha b hb (h2.trans k2.symm)
      subst this; rw [k3]; exact hc
    · exact absurd h2 (k1 a ha (hS a ha h1))
  · rw [h2] at hc
    rcases memS_get hf (S := S') hok i with ⟨b, hb, k1, k2, k3⟩ | ⟨k1, k2⟩
    · have := (alOk_mem hok b hb).1
      rw [k2, hc] at this; cases this
    · rw [k2]; exact hc
end rel
end Go.L
namespace Go.L
open Go Go.Conc

/-! ### Which numbers a value names -/
def idsL (f : Value → List Nat) : List Value → List Nat
  | [] => []
  | v :: l => f v ++ idsL f l
def idsN : Nat → Value → List Nat
  | 0, _ => []
  | _ + 1, .pointer (some a) => [a.block]
  | _ + 1, .slice (some a) _ _ => [a.block]
  | _ + 1, .map (some r) => [r]
  | n + 1, .func _ x y => idsL (idsN n) x.toList ++ idsL (idsN n) y.toList
  | n + 1, .iface _ v => idsN n v
  | n + 1, .agg l => idsL (idsN n) l.toList
  | n + 1, .tuple l => idsL (idsN n) l.toList
  | _, _ => []
def ids (v : Value) : List Nat := idsN 12 v
def idsO : CObj → List Nat
  | .cells l _ => idsL ids l
  | _ => []
theorem idsL_vr {ρ : Ren} {f : Value → List Nat} (hf : ∀ v v', VR ρ v v' → ∀ i ∈ f v, ρ i ≠ none) : ∀ {l l' : List Value}, VRs ρ l l' → ∀ i ∈ idsL f l, ρ i ≠ none
  | _, _, .nil, i, h => by cases h
  | _, _, .cons v v' l l' h1 h2, i, h => by
    simp only [idsL, List.mem_append] at h
    exact h.elim (hf v v' h1 i) (idsL_vr hf h2 i)
theorem idsN_vr {ρ : Ren} : ∀ {n : Nat} {v v' : Value}, VR ρ v v' → ∀ i ∈ idsN n v, ρ i ≠ none := by
  intro n
  induction n with
  | zero => intro v v' h i hi; cases hi
  | succ n ih =>
    intro v v' h i hi
    cases h with
    | ptr j b c o hb => simp only [idsN, List.mem_singleton] at hi; subst hi; rw [hb]; simp
    | slice j b c o l k hb => simp only [idsN, List.mem_singleton] at hi; subst hi; rw [hb]; simp
    | sliceU j b c o l k hb => simp only [idsN, List.mem_singleton] at hi; subst hi; rw [hb]; simp
    | map j b c hb => simp only [idsN, List.mem_singleton] at hi; subst hi; rw [hb]; simp
    | func f x y x' y' hf h1 h2 =>
      simp only [idsN, List.mem_append] at hi
      exact hi.elim (idsL_vr (fun _ _ h => ih h) h1 i) (idsL_vr (fun _ _ h => ih h) h2 i)
    | iface t w w' h1 => exact ih h1 i (by simpa only [idsN] using hi)
    | agg l l' h1 => exact idsL_vr (fun _ _ h => ih h) h1 i (by simpa only [idsN] using hi)
    | tuple l l' h1 => exact idsL_vr (fun _ _ h => ih h) h1 i (by simpa only [idsN] using hi)
    | _ => simp [idsN] at hi <;> (try (rcases hi with hi | hi <;> cases hi))
theorem idsO_vr {ρ : Ren} {o : CObj} {o' : Obj} (h : OR ρ o o') : ∀ i ∈ idsO o, ρ i ≠ none := by
  intro i hi
  cases h with
  | cells l l' x t h1 => exact idsL_vr (f := ids) (fun _ _ h => idsN_vr h) h1 i (by simpa only [idsO] using hi)
  | _ => simp [idsO] at hi
def opIds (n : Nat) (ce : Env) : List Operand → List Nat
  | [] => []
  | x :: l => (match evc n ce x with | some v => ids v | none => []) ++ opIds n ce l
theorem opIds_vr {ρ : Ren} {n : Nat} {ce e : Env} (he : ER ρ ce e) : ∀ {l : List Operand}, ∀ i ∈ opIds n ce l, ρ i ≠ none
  | x :: l, i, h => by
    simp only [opIds, List.mem_append] at h
    rcases h with h | h
    · cases hx : evc n ce x with
      | none => rw [hx] at h; cases h
      | some v => rw [hx] at h; obtain ⟨v', _, k2⟩ := he.evc hx; exact idsN_vr k2 i h
    · exact opIds_vr he i h
/-- the allocations whose blocks are named, at once or by way of others -/
def needs : List Nat → List AL → List Nat
  | _, [] => []
  | S, a :: r => bif memB a.id S then a.i :: needs (idsO a.ob ++ S) r else needs S r
theorem needs_sub : ∀ {l : List AL} {S : List Nat}, ∀ j ∈ needs S l, ∃ a ∈ l, a.i = j
  | a :: r, S, j, h => by
    simp only [needs] at h
    cases hm : memB a.id S with
    | true =>
      rw [hm] at h
      rcases List.mem_cons.1 h with rfl | h
      · exact ⟨a, by simp, rfl⟩
      · obtain ⟨b, hb, e⟩ := needs_sub j h; exact ⟨b, by simp [hb], e⟩
    | false => rw [hm] at h; obtain ⟨b, hb, e⟩ := needs_sub j h; exact ⟨b, by simp [hb], e⟩
/-- what a state between says of pending allocations -/
def HoleOK (ρ : Ren) (X : List Nat) (Al : List AL) : Prop := ∀ a ∈ Al, (a.i ∈ X → ∃ o', OR ρ a.ob o') ∧ (a.i ∉ X → ρ a.id = none)
theorem needs_ok {ρ : Ren} {X : List Nat} : ∀ {l : List AL} {S : List Nat}, HoleOK ρ X l → (∀ i ∈ S, ρ i ≠ none) → ∀ j ∈ needs S l, j ∈ X
  | a :: r, S, hh, hS, j, h => by
    have hr : HoleOK ρ X r := fun b hb => hh b (List.mem_cons_of_mem _ hb)
    simp only [needs] at h
    cases hm : memB a.id S with
    | true =>
      rw [hm] at h
      have hx : a.i ∈ X := Classical.byContradiction fun hn => hS _ (memB_iff.1 hm) ((hh a (by simp)).2 hn)
      rcases List.mem_cons.1 h with rfl | h
      · exact hx
      · obtain ⟨o', ho⟩ := (hh a (by simp)).1 hx
        exact needs_ok hr (fun i hi => (List.mem_append.1 hi).elim (idsO_vr ho i) (hS i)) j h
    | false => rw [hm] at h; exact needs_ok hr hS j h

/-- J: whoever can carry out an operation in this environment has carried out these. -/
def Just (ed : Env) (need : List Nat) (Al : List AL) : Prop := ∀ (ρ : Ren) (e : Env) (X : List Nat), ER ρ ed e → HoleOK ρ X Al → ∀ j ∈ need, j ∈ X
theorem just_needs {n : Nat} {ed : Env} {xs : List Operand} {Al : List AL} : Just ed (needs (opIds n ed xs) Al) Al :=
  fun _ _ _ he hh => needs_ok hh (opIds_vr he)

def needOf (n : Nat) (ed : Env) (o : Oper) (Al : List AL) : List Nat := needs (opIds n ed o.op.operands.toList) Al
def gvalW (P : Program) (ops : Array Oper) (n : Nat) (ed : Env) (m : Mem) (Al : List AL) (o : Oper) : Option Value :=
  gval P ops n ed (memS m (fun i => memB i (needOf n ed o Al)) Al) o

inductive Pk where
  | al (i : Nat) (v : Value) (ob : CObj)
  | st (i : Nat) (v : Value)
def pickS (P : Program) (ops : Array Oper) (n : Nat) (ce : Env) (m : Mem) (Al : List AL) (Pl : List (Nat × Value)) (ks : List Nat) : List Nat → Option Pk
  | [] => none
  | i :: l => bif memB i ks || !allIn (depsOf ops i) ks then pickS P ops n ce m Al Pl ks l else
    match ops[i]? with
    | some o => match (bif notDefer o.op then (match guardS ops n (envS ops ce i Pl) o.guard with | some true => allocO P n (envS ops ce i Pl) o.op m.next | _ => none) else none) with
      | some (v, ob) => some (.al i v ob)
      | none => match gvalW P ops n (envS ops ce i Pl) m Al o with
        | some v => some (.st i v)
        | none => pickS P ops n ce m Al Pl ks l
    | none => pickS P ops n ce m Al Pl ks l
def pickLoud (ops : Array Oper) (ks : List Nat) : List Nat → Option Nat
  | [] => none
  | i :: l => bif memB i ks || !allIn (depsOf ops i) ks then pickLoud ops ks l else some i
def recheck (P : Program) (ops : Array Oper) (n : Nat) (ce : Env) (m : Mem) (Al : List AL) (Pl : List (Nat × Value)) : List (Nat × Value) → Bool
  | [] => true
  | (j, w) :: l => (match ops[j]? with
    | some o => match gvalW P ops n (envS ops ce j Pl) m Al o with
      | some v => beqV v w
      | none => false
    | none => false) && recheck P ops n ce m Al Pl l
/-- in which order a region that draws is gone through: what acts on nothing first -/
def quietO : Op → Bool
  | .call ⟨.builtin .append, _, _⟩ => false
  | .call ⟨.builtin _, _, _⟩ => true
  | .call _ => false
  | .store .. | .makeMap .. | .makeSlice .. | .mapUpdate .. | .insert .. | .mapEntry .. | .entryStore .. | .range .. | .next .. | .panic _ | .defer _ | .go _ | .send .. | .recv .. | .select .. | .makeChan .. => false
  | _ => true
def quietI (ops : Array Oper) (i : Nat) : Bool := match ops[i]? with
  | some o => quietO o.op
  | none => false
def nextI (ops : Array Oper) (ks : List Nat) (q : Bool) : List Nat → Option Nat
  | [] => none
  | i :: l => bif memB i ks || (!allIn (depsOf ops i) ks || (q && !quietI ops i)) then nextI ops ks q l else some i
def planG (ops : Array Oper) : Nat → List Nat → List Nat
  | 0, _ => []
  | f + 1, ks => match nextI ops ks true (List.range ops.size) with
    | some i => i :: planG ops f (i :: ks)
    | none => match nextI ops ks false (List.range ops.size) with
      | some i => i :: planG ops f (i :: ks)
      | none => []
def planOf (ops : Array Oper) : List Nat := planG ops ops.size []
def runAny (P : Program) (call : CallT) (ops : Array Oper) (n : Nat) (ce : Env) : List Nat → List Nat → List (Nat × Value) → List (Nat × Value) → List AL → Mem → Option RO
  | [], ks, Pl, _, Al, m => bif allIn (List.range ops.size) ks then some (.done (envAll ops ce Pl) (memS m (fun _ => true) Al)) else none
  | i0 :: pl, ks, Pl, Sl, Al, m =>
    match pickS P ops n ce m Al Pl ks [i0] with
    | some (.al i v ob) => bif m.more && alOk m.skip (⟨i, m.next, ob⟩ :: Al) then runAny P call ops n ce pl (i :: ks) ((i, v) :: Pl) Sl (⟨i, m.next, ob⟩ :: Al) m.skip else none
    | some (.st i v) => runAny P call ops n ce pl (i :: ks) ((i, v) :: Pl) ((i, v) :: Sl) Al m
    | none => match pickLoud ops ks [i0] with
      | some i => bif onlyB ops ks i then
          match ops[i]? with
          | some o =>
            match stepOp P call ops n (envS ops ce i Pl) (memS m (fun j => memB j (needOf n (envS ops ce i Pl) o Al)) Al) o with
            | some (.go v m') =>
              bif alOk m' (Al.filter fun a => !memB a.i (needOf n (envS ops ce i Pl) o Al)) && recheck P ops n ce m' (Al.filter fun a => !memB a.i (needOf n (envS ops ce i Pl) o Al)) ((i, v) :: Pl) (pending ops i Sl) then
                runAny P call ops n ce pl (i :: ks) ((i, v) :: Pl) (pending ops i Sl) (Al.filter fun a => !memB a.i (needOf n (envS ops ce i Pl) o Al)) m' else none
            | some (.panic v m') => some (.panic v [] m')
            | none => none
          | none => none
        else none
      | none => none
end Go.L
namespace Go.L
open Go Go.Conc

section any
variable {P : Program} {C : Class} {fn : FuncId} {rnd : Option Nat} {Q : Post} {n : Nat} {D : List Deferred} {ops : Array Oper} {R : Nat → Option Obj} {call : CallT} {ce : Env}

/-- A state between, as it really is: X has been carried out. -/
structure Mid (P : Program) (ops : Array Oper) (ρ0 : Ren) (m0 : Mem) (ce : Env) (F : Nat × Obj → Prop) (R : Nat → Option Obj) (Pl Sl : List (Nat × Value)) (Al : List AL) (m : Mem) (ρ : Ren) (base env : Env) (X : List Nat) (s : St) : Prop where
  grow : Grow ρ0 m0 ρ m
  sub : ∀ i ∈ X, i ∈ keysOf Pl
  rest : ∀ i v, (i, v) ∈ Pl → i ∉ X → (i, v) ∈ Sl ∨ ∃ a ∈ Al, a.i = i
  slots : ∀ i v, (i, v) ∈ Pl → i ∈ X → ∀ d, dstOf ops i = some d → VR ρ v (get env d)
  old : ∀ t, (∀ i ∈ X, dstOf ops i ≠ some t) → get env t = get base t
  shut : ∀ i ∈ X, ∀ k ∈ depsOf ops i, k ∈ X
  er : ER ρ ce base
  rel : Rel P ρ (memS m (fun i => memB i X) Al) F R s
  hole : ∀ a ∈ Al, a.i ∉ X → ρ a.id = none

theorem Mid.holeOK {ρ0 : Ren} {m0 : Mem} {F : Nat × Obj → Prop} {Pl Sl : List (Nat × Value)} {Al : List AL} {m : Mem} {ρ : Ren} {base env : Env} {X : List Nat} {s : St} (h : Mid P ops ρ0 m0 ce F R Pl Sl Al m ρ base env X s) (hok : alOk m Al = true) : HoleOK ρ X Al := by
  intro a ha
  refine ⟨fun hx => ?_, h.hole a ha⟩
  have hf : m.next < 2 ^ depthT := by have := h.rel.fits; rwa [memS_next] at this
  rcases memS_get hf (S := fun i => memB i X) hok a.id with ⟨b, hb, h1, h2, h3⟩ | ⟨h1, _⟩
  · have := alOk_id hok b hb a ha h2
    subst this
    obtain ⟨b', k, o', _, h5, _⟩ := h.rel.blk _ _ h3
    exact ⟨o', h5⟩
  · exact absurd rfl (h1 a ha (memB_iff.2 hx))

/-- the slots that an operation may look at -/
theorem slots_dep {Pl : List (Nat × Value)} {X : List Nat} {env base : Env} {ρ : Ren} (hs : ∀ i v, (i, v) ∈ Pl → i ∈ X → ∀ d, dstOf ops i = some d → VR ρ v (get env d)) (ho : ∀ t, (∀ i ∈ X, dstOf ops i ≠ some t) → get env t = get base t) (he : ER ρ ce base) (k : Nat) (hds : ∀ j ∈ depsOf ops k, j ∈ X) (hlate : ∀ i ∈ X, lateB ops i = false) :
    ∃ e rest, ER ρ (envS ops ce k Pl) e ∧ A n env D = A n (e ++ rest) D := by
  have key : ∀ l : List (Nat × Option Nat), (∀ x ∈ l, ReadOK ops k x) → ∃ e, ER ρ (envR ce Pl l) e ∧ ∀ t v, geto e t = some v → get env t = v := by
    intro l
    induction l with
    | nil => intro _; exact ⟨[], .nil, fun t v h => by cases h⟩
    | cons x l ih =>
      intro hl
      obtain ⟨e, h1, h2⟩ := ih fun x hx => hl x (List.mem_cons_of_mem _ hx)
      have hcons : ∀ t v v', VR ρ v v' → get env t = v' → ∃ e, ER ρ ((t, v) :: envR ce Pl l) e ∧ ∀ t v, geto e t = some v → get env t = v := by
        intro t v v' hv hg
        refine ⟨(t, v') :: e, .cons _ _ _ _ _ hv h1, fun t2 v2 h => ?_⟩
        simp only [geto] at h
        cases hb : Nat.beq t t2 with
        | true => rw [hb] at h; simp only [cond_true, Option.some.injEq] at h; subst h; rw [← Nat.eq_of_beq_eq_true hb]; exact hg
        | false => rw [hb] at h; exact h2 t2 v2 h
      rcases x with ⟨t, _ | j⟩
      · simp only [envR]
        have hh : hideB ops t = false := by
          rcases hl _ (List.mem_cons_self) with ⟨j', e, _⟩ | ⟨_, e⟩
          · cases e
          · exact e
        cases hg : geto ce t with
        | none => exact ⟨e, h1, h2⟩
        | some v =>
          obtain ⟨v', g1, g2⟩ := he.geto hg
          refine hcons t v v' g2 ?_
          rw [ho t fun i hi hd => ?_]
          · exact geto_get g1
          · have : hideB ops t = true := List.any_eq_true.2 ⟨i, List.mem_range.2 (dst_lt hd), by rw [hd, hlate i hi]; simp⟩
            rw [this] at hh; cases hh
      · simp only [envR]
        cases hp : lookP Pl j with
        | none => exact ⟨e, h1, h2⟩
        | some v =>
          rcases hl _ (List.mem_cons_self) with ⟨j', ej, hj, hd⟩ | ⟨ej, _⟩
          · cases ej
            exact hcons t v (get env t) (hs j v (lookP_mem hp) (hds j hj) t hd) rfl
          · cases ej
  obtain ⟨e, h1, h2⟩ := key _ readsOf_ok
  exact ⟨e, env, h1, A_over h2⟩
/-- whoever waits for all others has not been carried out while one is left -/
theorem late_of {X : List Nat} {j : Nat} (hj : j < ops.size) (hjX : j ∉ X) (hs : ∀ i ∈ X, ∀ k ∈ depsOf ops i, k ∈ X) : ∀ i ∈ X, lateB ops i = false := by
  intro i hi
  cases hl : lateB ops i with
  | false => rfl
  | true =>
    have := List.all_eq_true.1 hl j (List.mem_range.2 hj)
    simp only [Bool.or_eq_true] at this
    rcases this with h | h
    · have := Nat.eq_of_beq_eq_true h
      subst this; exact absurd hi hjX
    · exact absurd (hs i hi j (memB_iff.1 h)) hjX

/-- What is known of what has been processed. -/
structure PInv (P : Program) (ops : Array Oper) (n : Nat) (ce : Env) (m0 : Mem) (Pl Sl : List (Nat × Value)) (Al : List AL) (m : Mem) : Prop where
  keys : keysOk ops (keysOf Pl) = true
  nodup : nodupB (keysOf Pl) = true
  lt : ∀ j ∈ keysOf Pl, j < ops.size
  ok : alOk m Al = true
  sl : ∀ k v, (k, v) ∈ Sl → (k, v) ∈ Pl ∧ ∃ o need, ops[k]? = some o ∧ gval P ops n (envS ops ce k Pl) (memS m (fun j => memB j need) Al) o = some v ∧ Just (envS ops ce k Pl) need Al ∧ ∀ j ∈ need, j ∈ keysOf Pl
  apart : ∀ k v, (k, v) ∈ Sl → ∀ a ∈ Al, a.i ≠ k
  next : m0.next ≤ m.next
  al : ∀ a ∈ Al, m0.next ≤ a.id ∧ ∃ v o, (a.i, v) ∈ Pl ∧ ops[a.i]? = some o ∧ notDefer o.op = true ∧ guardS ops n (envS ops ce a.i Pl) o.guard = some true ∧ allocO P n (envS ops ce a.i Pl) o.op a.id = some (v, a.ob)

theorem uniqP : ∀ {l : List (Nat × Value)}, nodupB (keysOf l) = true → ∀ j v w, (j, v) ∈ l → (j, w) ∈ l → w = v := by
  intro l
  induction l with
  | nil => intro _ j v w h; cases h
  | cons x l ih =>
    rcases x with ⟨k, u⟩
    intro hb j v w h1 h2
    simp only [keysOf, nodupB, Bool.and_eq_true, Bool.not_eq_true'] at hb
    have hk : k ∉ keysOf l := fun hm => by rw [memB_iff.2 hm] at hb; cases hb.1
    rcases List.mem_cons.1 h1 with h1 | h1 <;> rcases List.mem_cons.1 h2 with h2 | h2
    · cases h1; cases h2; rfl
    · cases h1; exact absurd (mem_keysOf.2 ⟨_, h2⟩) hk
    · cases h2; exact absurd (mem_keysOf.2 ⟨_, h1⟩) hk
    · exact ih hb.2 j v w h1 h2

theorem memS_congr {m : Mem} {S S' : Nat → Bool} : ∀ {l : List AL}, (∀ a ∈ l, S a.i = S' a.i) → memS m S l = memS m S' l
  | [], _ => rfl
  | a :: r, h => by simp only [memS, h a (by simp), memS_congr (l := r) fun b hb => h b (by simp [hb])]

/-- one that has been processed is carried out -/
theorem exec_pending (hC : ∀ main T, C main T → Closed P main T) (hap : dstsApart ops = true) {ρ0 : Ren} {m0 : Mem} {F : Nat × Obj → Prop} {Pl Sl : List (Nat × Value)} {Al : List AL} {m : Mem} (hI : PInv P ops n ce m0 Pl Sl Al m) {ρ : Ren} {base env : Env} {X : List Nat} {s : St}
    (h : Mid P ops ρ0 m0 ce F R Pl Sl Al m ρ base env X s) {j : Nat} (hj : j < ops.size) (hjP : j ∈ keysOf Pl) (hjX : j ∉ X) (hdep : ∀ k ∈ depsOf ops j, k ∈ X) {l : List Nat}
    (hk : ∀ ρ' env' s', Mid P ops ρ0 m0 ce F R Pl Sl Al m ρ' base env' (j :: X) s' → OpsWp C fn rnd ops l Q (A n env' D) s') : OpsWp C fn rnd ops (j :: l) Q (A n env D) s := by
  obtain ⟨w, hw⟩ := mem_keysOf.1 hjP
  obtain ⟨e, rest, he, hA⟩ := slots_dep (n := n) (D := D) h.slots h.old h.er j hdep (late_of hj hjX h.shut)
  have hf : m.next < 2 ^ depthT := by have := h.rel.fits; rwa [memS_next] at this
  -- the slots behind it
  have hslots : ∀ (ρ' : Ren) (w' : Value), ρ.le ρ' → VR ρ' w w' → (∀ i v, (i, v) ∈ Pl → i ∈ j :: X → ∀ d, dstOf ops i = some d → VR ρ' v (get (upd (dstOf ops j) w' env) d)) ∧ (∀ t, (∀ i ∈ j :: X, dstOf ops i ≠ some t) → get (upd (dstOf ops j) w' env) t = get base t) := by
    intro ρ' w' hle hv
    refine ⟨fun i v hi hix d hd => ?_, fun t ht => ?_⟩
    · by_cases e : i = j
      · subst e
        rw [hd]; simp only [upd, get_cons, if_true]
        rw [uniqP hI.nodup i w v hw hi]; exact hv
      · have hix : i ∈ X := (List.mem_cons.1 hix).resolve_left e
        have := (h.slots i v hi hix d hd).up hle
        cases hdj : dstOf ops j with
        | none => exact this
        | some d' => simp only [upd, get_cons, if_neg (apart_of hap hj (dst_lt hd) (fun h => e h.symm) hdj hd)]; exact this
    · cases hdj : dstOf ops j with
      | none => exact h.old t fun i hi => ht i (List.mem_cons_of_mem _ hi)
      | some d' =>
        have hne : d' ≠ t := fun e => ht j (by simp) (by rw [hdj, e])
        simp only [upd, get_cons, if_neg hne]; exact h.old t fun i hi => ht i (List.mem_cons_of_mem _ hi)
  have hshut : ∀ i ∈ j :: X, ∀ k ∈ depsOf ops i, k ∈ j :: X := by
    intro i hi k hk2
    rcases List.mem_cons.1 hi with rfl | hi
    · exact List.mem_cons_of_mem _ (hdep k hk2)
    · exact List.mem_cons_of_mem _ (h.shut i hi k hk2)
  rcases h.rest j w hw hjX with hS | ⟨a, ha, rfl⟩
  · -- a value
    obtain ⟨_, o, need, ho, hg, hjust, hneed⟩ := hI.sl j w hS
    have hnX := hjust ρ e X he (h.holeOK hI.ok)
    have hrel : Rel P ρ (memS m (fun k => memB k need) Al) F R s := h.rel.less (by rw [memS_next, memS_next]) (memS_less hf hI.ok fun a ha hm => memB_iff.2 (hnX _ (memB_iff.1 hm)))
    obtain ⟨w', k1, k2⟩ := gval_ok (D := D) (fn := fn) (rnd := rnd) hC ho he hrel hg
    rw [hA]
    refine k2 s (Ext.refl s) rest l Q ?_
    obtain ⟨hs1, hs2⟩ := hslots ρ w' (Ren.le_refl _) k1
    have hdst : dstOf ops j = o.dst := by simp [dstOf, ho]
    rw [← upd_A hA, ← hdst]
    have hnal := hI.apart j w hS
    refine hk ρ _ s ⟨h.grow, fun i hi => ?_, fun i v hi hix => h.rest i v hi fun hh => hix (List.mem_cons_of_mem _ hh), hs1, hs2, hshut, h.er, ?_, fun a ha hax => h.hole a ha fun hh => hax (List.mem_cons_of_mem _ hh)⟩
    · rcases List.mem_cons.1 hi with rfl | hi
      · exact hjP
      · exact h.sub i hi
    · rw [memS_congr (S' := fun i => memB i X) fun a ha => ?_]
      · exact h.rel
      · simp only [memB, beq_false (hnal a ha), Bool.false_or]
  · -- an allocation
    obtain ⟨hid, v, o, hv, ho, hnd, hg, hal⟩ := hI.al a ha
    have hvw := uniqP hI.nodup a.i w v hw hv
    subst hvw
    obtain ⟨o', vf, hor, hroom, hvf, htri⟩ := allocO_ok he hal
    have hnone := h.hole a ha hjX
    obtain ⟨hget, hlt⟩ := alOk_mem hI.ok a ha
    have hdst : dstOf ops a.i = o.dst := by simp [dstOf, ho]
    rw [hA]
    refine o_step hC ho (guard_true he hg rest) (notDefer_ne hnd) (htri s _ (Ev.of_app rest) _ _ fun b hb => ?_)
    show OpsWp _ _ _ _ _ _ _ _
    rw [A_put, ← upd_A hA, ← hdst]
    have hle : ρ.le (ρ.put a.id (b, 0)) := Ren.le_put _ hnone
    obtain ⟨hs1, hs2⟩ := hslots (ρ.put a.id (b, 0)) (vf b) hle (hvf b _ (Ren.put_same _ _ _))
    refine hk (ρ.put a.id (b, 0)) _ _ ⟨⟨Ren.le_trans h.grow.le hle, fun i hi hn => by rw [Ren.put_ne _ _ (by omega)]; exact h.grow.hole i hi hn, h.grow.next⟩, fun i hi => ?_, fun i v hi hix => h.rest i v hi fun hh => hix (List.mem_cons_of_mem _ hh), hs1, hs2, hshut, h.er.up hle, ?_, fun a' ha' hax => ?_⟩
    · rcases List.mem_cons.1 hi with rfl | hi
      · exact hjP
      · exact h.sub i hi
    · have hadd := h.rel.addAt (i := a.id) (by rw [memS_next]; exact hlt) hnone hb (hor.up hle) hroom
      refine hadd.less (by rw [memS_next]; exact (memS_next _ _ _).symm) fun i c hc => ?_
      have hg1 : ((memS m (fun i => memB i X) Al).addAt a.id a.ob).t.get i = if i = a.id then some ⟨false, a.ob⟩ else (memS m (fun i => memB i X) Al).t.get i := Tr.get_put _ _ _ _ (Nat.lt_trans hlt hf) i
      rw [hg1]
      rcases memS_get hf (S := fun i => memB i (a.i :: X)) hI.ok i with ⟨x, hx, g1, g2, g3⟩ | ⟨g1, g2⟩
      · rw [g3] at hc; cases hc
        by_cases e : i = a.id
        · rw [if_pos e, alOk_id hI.ok x hx a ha (g2.trans e)]
        · rw [if_neg e]
          rcases memS_get hf (S := fun i => memB i X) hI.ok i with ⟨y, hy, f1, f2, f3⟩ | ⟨f1, f2⟩
          · rw [f3, alOk_id hI.ok y hy x hx (f2.trans g2.symm)]
          · refine absurd g2 (f1 x hx ?_)
            simp only [memB] at g1 ⊢
            cases hb2 : Nat.beq x.i a.i with
            | false => rw [hb2] at g1; simpa using g1
            | true =>
              have := alOk_op hI.ok x hx a ha (Nat.eq_of_beq_eq_true hb2)
              subst this; exact absurd g2.symm e
      · rw [g2] at hc
        by_cases e : i = a.id
        · subst e; rw [hget] at hc; cases hc
        · rw [if_neg e]
          rcases memS_get hf (S := fun i => memB i X) hI.ok i with ⟨y, hy, f1, f2, f3⟩ | ⟨f1, f2⟩
          · refine absurd f2 (g1 y hy ?_)
            simp only [memB, f1, Bool.or_true]
          · rw [f2]; exact hc
    · rw [Ren.put_ne _ _ (fun e => ?_)]
      · exact h.hole a' ha' fun hh => hax (List.mem_cons_of_mem _ hh)
      · have := alOk_id hI.ok a' ha' a ha e
        subst this; exact hax (by simp)
end any
end Go.L
namespace Go.L
open Go Go.Conc

theorem gval_t {P : Program} {ops : Array Oper} {n : Nat} {ce : Env} {o : Oper} {m m' : Mem} (h : m.t = m'.t) : gval P ops n ce m o = gval P ops n ce m' o := by
  simp only [gval, valV, loadV, lenV, lookup2V, entryV, h]
theorem memS_t {m m' : Mem} (h : m.t = m'.t) {S : Nat → Bool} : ∀ {l : List AL}, (memS m S l).t = (memS m' S l).t
  | [] => h
  | a :: r => by
    simp only [memS]
    cases S a.i with
    | true => simp only [cond_true, Mem.addAt, memS_t h (l := r)]
    | false => exact memS_t h
theorem envAll_get {ops : Array Oper} {base : Env} (hap : dstsApart ops = true) : ∀ (l : List (Nat × Value)), (∀ j ∈ keysOf l, j < ops.size) → nodupB (keysOf l) = true → (∀ i v, (i, v) ∈ l → ∀ d, dstOf ops i = some d → get (envAll ops base l) d = v) ∧ (∀ t, (∀ i ∈ keysOf l, dstOf ops i ≠ some t) → get (envAll ops base l) t = get base t) := by
  intro l
  induction l with
  | nil => intro _ _; exact ⟨fun _ _ h => ((by cases h)), fun _ _ => rfl⟩
  | cons x l ih =>
    rcases x with ⟨k, u⟩
    intro hlt hb
    simp only [keysOf, nodupB, Bool.and_eq_true, Bool.not_eq_true'] at hb
    have hk : k ∉ keysOf l := fun hm => by rw [memB_iff.2 hm] at hb; cases hb.1
    obtain ⟨i1, i2⟩ := ih (fun j hj => hlt j (by simp [keysOf, hj])) hb.2
    have hk1 : k < ops.size := hlt k (by simp [keysOf])
    refine ⟨fun i v hi d hd => ?_, fun t ht => ?_⟩
    · simp only [envAll]
      rcases List.mem_cons.1 hi with hi | hi
      · cases hi; rw [hd]; simp only [upd, get_cons, if_true]
      · have hne : k ≠ i := fun e => hk (e ▸ mem_keysOf.2 ⟨_, hi⟩)
        cases hdk : dstOf ops k with
        | none => simp only [upd]; exact i1 i v hi d hd
        | some d' => simp only [upd, get_cons, if_neg (apart_of hap hk1 (dst_lt hd) hne hdk hd)]; exact i1 i v hi d hd
    · simp only [envAll]
      cases hdk : dstOf ops k with
      | none => simp only [upd]; exact i2 t fun i hi => ht i (by simp [keysOf, hi])
      | some d' =>
        have hne : d' ≠ t := fun e => ht k (by simp [keysOf]) (by rw [hdk, e])
        simp only [upd, get_cons, if_neg hne]; exact i2 t fun i hi => ht i (by simp [keysOf, hi])

section any
variable {P : Program} {C : Class} {fn : FuncId} {rnd : Option Nat} {Q : Post} {n : Nat} {D : List Deferred} {ops : Array Oper} {R : Nat → Option Obj} {call : CallT} {ce : Env}
variable {ρ0 : Ren} {m0 : Mem} {F : Nat × Obj → Prop} {Pl Sl : List (Nat × Value)} {Al : List AL} {m : Mem} {ρ : Ren} {base env : Env} {X : List Nat} {s : St}

/-- all has been carried out -/
theorem slots_all (hap : dstsApart ops = true) (hlt : ∀ j ∈ keysOf Pl, j < ops.size) (hnd : nodupB (keysOf Pl) = true) (hall : ∀ i, i < ops.size → i ∈ keysOf Pl) (hs : ∀ i v, (i, v) ∈ Pl → i ∈ X → ∀ d, dstOf ops i = some d → VR ρ v (get env d)) (hX : ∀ i ∈ keysOf Pl, i ∈ X) (ho : ∀ t, (∀ i ∈ X, dstOf ops i ≠ some t) → get env t = get base t) (he : ER ρ ce base) :
    ∃ e, ER ρ (envAll ops ce Pl) e ∧ A n env D = A n e D := by
  let rp : List (Nat × Value) → List (Nat × Value) := fun l => l.map fun x => (x.1, match dstOf ops x.1 with | some d => get env d | none => undef)
  have hkeys : ∀ l, keysOf (rp l) = keysOf l := by
    intro l
    induction l with
    | nil => rfl
    | cons x l ih => rcases x with ⟨i, v⟩; simp only [rp, List.map_cons, keysOf]; rw [← ih]
  have her : ∀ l, (∀ x ∈ l, x ∈ Pl) → ER ρ (envAll ops ce l) (envAll ops base (rp l)) := by
    intro l
    induction l with
    | nil => intro _; exact he
    | cons x l ih =>
      rcases x with ⟨i, v⟩
      intro hl
      simp only [rp, List.map_cons, envAll]
      cases hd : dstOf ops i with
      | none => exact ih fun x hx => hl x (by simp [hx])
      | some d => exact .cons _ _ _ _ _ (hs i v (hl _ (by simp)) (hX i (mem_keysOf.2 ⟨v, hl _ (by simp)⟩)) d hd) (ih fun x hx => hl x (by simp [hx]))
  obtain ⟨a1, a2⟩ := envAll_get (base := base) hap (rp Pl) (by rw [hkeys]; exact hlt) (by rw [hkeys]; exact hnd)
  refine ⟨_, her Pl (fun _ h => h), ?_⟩
  simp only [A, Act.mk.injEq, and_true]
  congr 1
  funext t
  by_cases hh : ∃ j, j < ops.size ∧ dstOf ops j = some t.val
  · obtain ⟨j, hj, hd⟩ := hh
    obtain ⟨v, hv⟩ := mem_keysOf.1 (hall j hj)
    have : (j, get env t.val) ∈ rp Pl := List.mem_map.2 ⟨(j, v), hv, by simp [hd]⟩
    exact (a1 j _ this _ hd).symm
  · have hno : ∀ i, i < ops.size → dstOf ops i ≠ some t.val := fun i hi hd => hh ⟨i, hi, hd⟩
    rw [ho _ (fun i _ hd => hno i (dst_lt hd) hd), a2 _ fun i hi => hno i (hlt i (by rw [hkeys] at hi; exact hi))]

theorem slots_put (hap : dstsApart ops = true) {j : Nat} (hj : j < ops.size) {w w' : Value} {ρ' : Ren} (hle : ρ.le ρ') (hv : VR ρ' w w') (hs : ∀ i v, (i, v) ∈ Pl → i ∈ X → ∀ d, dstOf ops i = some d → VR ρ v (get env d)) (ho : ∀ t, (∀ i ∈ X, dstOf ops i ≠ some t) → get env t = get base t) (hn : j ∉ keysOf Pl) :
    (∀ i v, (i, v) ∈ (j, w) :: Pl → i ∈ j :: X → ∀ d, dstOf ops i = some d → VR ρ' v (get (upd (dstOf ops j) w' env) d)) ∧ (∀ t, (∀ i ∈ j :: X, dstOf ops i ≠ some t) → get (upd (dstOf ops j) w' env) t = get base t) := by
  refine ⟨fun i v hi hix d hd => ?_, fun t ht => ?_⟩
  · rcases List.mem_cons.1 hi with hi | hi
    · cases hi; rw [hd]; simp only [upd, get_cons, if_true]; exact hv
    · have e : i ≠ j := fun e => hn (e ▸ mem_keysOf.2 ⟨_, hi⟩)
      have hix : i ∈ X := (List.mem_cons.1 hix).resolve_left e
      have := (hs i v hi hix d hd).up hle
      cases hdj : dstOf ops j with
      | none => exact this
      | some d' => simp only [upd, get_cons, if_neg (apart_of hap hj (dst_lt hd) (fun h => e h.symm) hdj hd)]; exact this
  · cases hdj : dstOf ops j with
    | none => exact ho t fun i hi => ht i (List.mem_cons_of_mem _ hi)
    | some d' =>
      have hne : d' ≠ t := fun e => ht j (by simp) (by rw [hdj, e])
      simp only [upd, get_cons, if_neg hne]; exact ho t fun i hi => ht i (List.mem_cons_of_mem _ hi)

/-- what a loud operation leaves alone -/
def Framed (P : Program) (F : Nat × Obj → Prop) (ρ : Ren) (s : St) (X need : List Nat) (Al : List AL) (x : Nat × Obj) : Prop :=
  F x ∨ ∃ a ∈ Al, a.i ∈ X ∧ a.i ∉ need ∧ ∃ k, ρ a.id = some (x.1, k) ∧ OR ρ a.ob x.2 ∧ Room P k a.ob x.2 ∧ x ∈ s.rw
theorem frame_out (hok : alOk m Al = true) (h : Rel P ρ (memS m (fun i => memB i X) Al) F R s) {need : List Nat} (hn : ∀ j ∈ need, j ∈ X) : Rel P ρ (memS m (fun i => memB i need) Al) (Framed P F ρ s X need Al) R s := by
  have hf : m.next < 2 ^ depthT := by have := h.fits; rwa [memS_next] at this
  have hless := memS_less (S := fun i => memB i need) (S' := fun i => memB i X) hf hok fun a ha hm => memB_iff.2 (hn _ (memB_iff.1 hm))
  have h1 := h.less (m' := memS m (fun i => memB i need) Al) (by rw [memS_next, memS_next]) hless
  refine ⟨h1.len, h1.fits, h1.out, h1.blk, h1.inj, fun x hx => ?_, fun j c b k o hj hc hb hF => ?_, h1.ro⟩
  · rcases hx with hx | ⟨a, _, _, _, k, _, _, _, hx⟩
    · exact h.frame x hx
    · exact hx
  · rcases hF with hF | ⟨a, ha, haX, han, k', hb', _, _, _⟩
    · exact h1.apart j c b k o hj hc hb hF
    · have hga : (memS m (fun i => memB i X) Al).t.get a.id = some ⟨false, a.ob⟩ := by
        rcases memS_get hf (S := fun i => memB i X) hok a.id with ⟨y, hy, f1, f2, f3⟩ | ⟨f1, f2⟩
        · have := alOk_id hok y hy a ha f2
          subst this; exact f3
        · exact absurd rfl (f1 a ha (memB_iff.2 haX))
      have hid := h.inj j a.id c _ b k k' (hless _ _ hj) hga hc rfl hb hb'
      subst hid
      rcases memS_get hf (S := fun i => memB i need) hok a.id with ⟨y, hy, f1, f2, f3⟩ | ⟨f1, f2⟩
      · have := alOk_id hok y hy a ha f2
        subst this; exact han (memB_iff.1 f1)
      · rw [f2, (alOk_mem hok a ha).1] at hj; cases hj
theorem frame_in (hok : alOk m Al = true) (h : Rel P ρ (memS m (fun i => memB i X) Al) F R s) {need X' : List Nat} {ρ' : Ren} {m' : Mem} {s' : St} (hle : ρ.le ρ') (h' : Rel P ρ' m' (Framed P F ρ s X need Al) R s') (hok' : alOk m' (Al.filter fun a => !memB a.i need) = true)
    (hX : ∀ a ∈ Al, a.i ∈ X' → a.i ∈ X) : Rel P ρ' (memS m' (fun i => memB i X') (Al.filter fun a => !memB a.i need)) F R s' := by
  have hf : m.next < 2 ^ depthT := by have := h.fits; rwa [memS_next] at this
  have hf' := h'.fits
  -- what the allocations hold
  have hal : ∀ a ∈ Al.filter (fun a => !memB a.i need), a.i ∈ X' → ∃ b k o', ρ a.id = some (b, k) ∧ OR ρ a.ob o' ∧ Room P k a.ob o' ∧ (b, o') ∈ s.rw ∧ (memS m (fun i => memB i X) Al).t.get a.id = some ⟨false, a.ob⟩ ∧ Framed P F ρ s X need Al (b, o') := by
    intro a ha hax
    obtain ⟨ha, hn⟩ := List.mem_filter.1 ha
    have hn : a.i ∉ need := fun hm => by rw [memB_iff.2 hm] at hn; cases hn
    have haX := hX a ha hax
    have hga : (memS m (fun i => memB i X) Al).t.get a.id = some ⟨false, a.ob⟩ := by
      rcases memS_get hf (S := fun i => memB i X) hok a.id with ⟨y, hy, f1, f2, f3⟩ | ⟨f1, f2⟩
      · have := alOk_id hok y hy a ha f2
        subst this; exact f3
      · exact absurd rfl (f1 a ha (memB_iff.2 haX))
    obtain ⟨b, k, o', h1, h2, h3, h4⟩ := h.blk _ _ hga
    simp only [Bool.false_eq_true, if_false] at h4
    exact ⟨b, k, o', h1, h2, h3, h4, hga, .inr ⟨a, ha, haX, hn, k, h1, h2, h3, h4⟩⟩
  have hget : ∀ j, (∃ a ∈ Al.filter (fun a => !memB a.i need), a.i ∈ X' ∧ a.id = j ∧ (memS m' (fun i => memB i X') (Al.filter fun a => !memB a.i need)).t.get j = some ⟨false, a.ob⟩) ∨ (memS m' (fun i => memB i X') (Al.filter fun a => !memB a.i need)).t.get j = m'.t.get j := by
    intro j
    rcases memS_get hf' (S := fun i => memB i X') hok' j with ⟨a, ha, f1, f2, f3⟩ | ⟨_, f2⟩
    · exact .inl ⟨a, ha, memB_iff.1 f1, f2, f3⟩
    · exact .inr f2
  refine ⟨fun i hi => h'.len i (by rw [memS_next] at hi; exact hi), by rw [memS_next]; exact hf', fun j hj => ?_, fun j c hj => ?_, fun i j ci cj b k k' hi hj hci hcj h1 h2 => ?_, fun x hx => h'.frame x (.inl hx), fun j c b k o hj hc hb hF => ?_, h'.ro⟩
  · rw [memS_next] at hj
    rcases hget j with ⟨a, ha, _, rfl, _⟩ | hg
    · have := (alOk_mem hok' a ha).2; omega
    · rw [hg]; exact h'.out j hj
  · rcases hget j with ⟨a, ha, hax, rfl, hg⟩ | hg
    · rw [hg] at hj; cases hj
      obtain ⟨b, k, o', g1, g2, g3, g4, g5, g6⟩ := hal a ha hax
      exact ⟨b, k, o', hle _ _ g1, g2.up hle, g3, by simpa using h'.frame _ g6⟩
    · rw [hg] at hj; exact h'.blk j c hj
  · have hsp : ∀ j c b k, (memS m' (fun i => memB i X') (Al.filter fun a => !memB a.i need)).t.get j = some c → c.ro = false → ρ' j = some (b, k) → (∃ (a : AL) (o' : Obj), a.id = j ∧ (memS m (fun i => memB i X) Al).t.get j = some ⟨false, a.ob⟩ ∧ ρ j = some (b, k) ∧ Framed P F ρ s X need Al (b, o')) ∨ m'.t.get j = some c := by
      intro j c b k hj hc hb
      rcases hget j with ⟨a, ha, hax, rfl, hg⟩ | hg
      · obtain ⟨b', k', o', g1, g2, g3, g4, g5, g6⟩ := hal a ha hax
        have := hle _ _ g1
        rw [hb] at this; cases this
        exact .inl ⟨a, o', rfl, g5, g1, g6⟩
      · rw [hg] at hj; exact .inr hj
    rcases hsp i ci b k hi hci h1 with ⟨a, o1, _, p1, p2, p3⟩ | p1 <;> rcases hsp j cj b k' hj hcj h2 with ⟨a2, o2, _, q1, q2, q3⟩ | q1
    · exact h.inj i j _ _ b k k' p1 q1 rfl rfl p2 q2
    · exact absurd p3 (h'.apart j cj b k' o1 q1 hcj h2)
    · exact absurd q3 (h'.apart i ci b k o2 p1 hci h1)
    · exact h'.inj i j ci cj b k k' p1 q1 hci hcj h1 h2
  · rcases hget j with ⟨a, ha, hax, rfl, hg⟩ | hg
    · obtain ⟨b', k', o', g1, g2, g3, g4, g5, g6⟩ := hal a ha hax
      have := hle _ _ g1
      rw [hb] at this; cases this
      exact h.apart a.id _ b k o g5 rfl g1 hF
    · rw [hg] at hj; exact h'.apart j c b k o hj hc hb (.inl hF)
end any
end Go.L
namespace Go.L
open Go Go.Conc

theorem pickS_ok {P : Program} {ops : Array Oper} {n : Nat} {ce : Env} {m : Mem} {Al : List AL} {Pl : List (Nat × Value)} {ks : List Nat} {r : Pk} : ∀ {l : List Nat}, pickS P ops n ce m Al Pl ks l = some r →
    ∃ i, i ∈ l ∧ memB i ks = false ∧ allIn (depsOf ops i) ks = true ∧ ∃ o, ops[i]? = some o ∧
      ((∃ v ob, r = .al i v ob ∧ notDefer o.op = true ∧ guardS ops n (envS ops ce i Pl) o.guard = some true ∧ allocO P n (envS ops ce i Pl) o.op m.next = some (v, ob)) ∨
        ∃ v, r = .st i v ∧ gvalW P ops n (envS ops ce i Pl) m Al o = some v)
  | [], h => by cases h
  | j :: l, h => by
    simp only [pickS] at h
    have rec' : pickS P ops n ce m Al Pl ks l = some r → ∃ i, i ∈ j :: l ∧ memB i ks = false ∧ allIn (depsOf ops i) ks = true ∧ ∃ o, ops[i]? = some o ∧
      ((∃ v ob, r = .al i v ob ∧ notDefer o.op = true ∧ guardS ops n (envS ops ce i Pl) o.guard = some true ∧ allocO P n (envS ops ce i Pl) o.op m.next = some (v, ob)) ∨
        ∃ v, r = .st i v ∧ gvalW P ops n (envS ops ce i Pl) m Al o = some v) := by
      intro h
      obtain ⟨i, h1, h2⟩ := pickS_ok h
      exact ⟨i, List.mem_cons_of_mem _ h1, h2⟩
    cases hb : (memB j ks || !allIn (depsOf ops j) ks) with
    | true => rw [hb] at h; exact rec' h
    | false =>
      rw [hb] at h; simp only [cond_false] at h
      simp only [Bool.or_eq_false_iff, Bool.not_eq_false'] at hb
      split at h
      · rename_i o ho
        split at h
        · rename_i v ob hal
          simp only [Option.some.injEq] at h; subst h
          cases hnd : notDefer o.op with
          | false => rw [hnd] at hal; cases hal
          | true =>
            rw [hnd] at hal; simp only [cond_true] at hal
            split at hal
            · rename_i hg
              exact ⟨j, by simp, hb.1, hb.2, o, ho, .inl ⟨v, ob, rfl, hnd, hg, hal⟩⟩
            · cases hal
        · split at h
          · rename_i u hu
            simp only [Option.some.injEq] at h; subst h
            exact ⟨j, by simp, hb.1, hb.2, o, ho, .inr ⟨u, rfl, hu⟩⟩
          · exact rec' h
      · exact rec' h
theorem pickLoud_ok {ops : Array Oper} {ks : List Nat} {i : Nat} : ∀ {l : List Nat}, pickLoud ops ks l = some i → i ∈ l ∧ memB i ks = false ∧ allIn (depsOf ops i) ks = true
  | [], h => by cases h
  | j :: l, h => by
    simp only [pickLoud] at h
    cases hb : (memB j ks || !allIn (depsOf ops j) ks) with
    | true =>
      rw [hb] at h
      obtain ⟨h1, h2⟩ := pickLoud_ok h
      exact ⟨List.mem_cons_of_mem _ h1, h2⟩
    | false =>
      rw [hb] at h; simp only [cond_false, Option.some.injEq] at h; subst h
      simp only [Bool.or_eq_false_iff, Bool.not_eq_false'] at hb
      exact ⟨by simp, hb.1, hb.2⟩
theorem recheck_ok {P : Program} {ops : Array Oper} {n : Nat} {ce : Env} {m : Mem} {Al : List AL} {Pl : List (Nat × Value)} : ∀ {l : List (Nat × Value)}, recheck P ops n ce m Al Pl l = true → ∀ j w, (j, w) ∈ l → ∃ o, ops[j]? = some o ∧ gvalW P ops n (envS ops ce j Pl) m Al o = some w
  | [], _, j, w, h => by cases h
  | (k, u) :: l, hb, j, w, h => by
    simp only [recheck, Bool.and_eq_true] at hb
    rcases List.mem_cons.1 h with h | h
    · cases h
      have h1 := hb.1
      split at h1 <;> try (cases h1; done)
      rename_i o ho
      split at h1 <;> try (cases h1; done)
      rename_i v hv
      have := beqV_eq h1
      subst this
      exact ⟨o, ho, hv⟩
    · exact recheck_ok hb.2 j w h

section any
variable {P : Program} {C : Class} {fn : FuncId} {rnd : Option Nat} {Q : Post} {n : Nat} {D : List Deferred} {ops : Array Oper} {R : Nat → Option Obj} {call : CallT} {ce : Env}
variable {ρ0 : Ren} {m0 : Mem} {F : Nat × Obj → Prop}

theorem Post'.lessF {F' : Nat × Obj → Prop} {ρ : Ren} {m : Mem} {s : St} (h : Rel P ρ m F' R s) (hF : ∀ x, F x → F' x) : Rel P ρ m F R s :=
  ⟨h.len, h.fits, h.out, h.blk, h.inj, fun x hx => h.frame x (hF x hx), fun i c b k o h1 h2 h3 hx => h.apart i c b k o h1 h2 h3 (hF _ hx), h.ro⟩

theorem runAny_ok (hC : ∀ main T, C main T → Closed P main T) (hcall : CallOK C P call) (hap : dstsApart ops = true) : ∀ (plan : List Nat) {ks : List Nat} {Pl Sl : List (Nat × Value)} {Al : List AL} {m : Mem} {r : RO}, runAny P call ops n ce plan ks Pl Sl Al m = some r → ks = keysOf Pl → PInv P ops n ce m0 Pl Sl Al m → Post' P n D F R ρ0 m0 r Q →
    ∀ (l X : List Nat) (ρ : Ren) (base env : Env) (s : St), Mid P ops ρ0 m0 ce F R Pl Sl Al m ρ base env X s → Lin ops X l → OpsWp C fn rnd ops l Q (A n env D) s := by
  intro plan
  induction plan with
  | nil =>
    intro ks Pl Sl Al m r h hks hI hQ
    subst hks
    simp only [runAny] at h
    have halk : ∀ a ∈ Al, a.i ∈ keysOf Pl := fun a ha => by obtain ⟨_, v, o, hv, _⟩ := hI.al a ha; exact mem_keysOf.2 ⟨v, hv⟩
    cases hall : allIn (List.range ops.size) (keysOf Pl) with
    | true =>
      rw [hall] at h; simp only [cond_true, Option.some.injEq] at h; subst h
      have hall' : ∀ i, i < ops.size → i ∈ keysOf Pl := fun i hi => allIn_iff.1 hall i (List.mem_range.2 hi)
      intro l
      induction l with
      | nil =>
        intro X ρ base env s hM hlin
        have hX : ∀ i ∈ keysOf Pl, i ∈ X := fun i hi => hlin i (hI.lt i hi)
        obtain ⟨e, he, hA⟩ := slots_all (n := n) (D := D) hap hI.lt hI.nodup hall' hM.slots hX hM.old hM.er
        have hf : m.next < 2 ^ depthT := by have := hM.rel.fits; rwa [memS_next] at this
        refine ops_nil hC ?_
        rw [hA]
        refine hQ.done _ _ rfl ρ e s ⟨hM.grow.le, hM.grow.hole, by rw [memS_next]; exact hM.grow.next⟩ he ?_
        exact hM.rel.less (by rw [memS_next, memS_next]) (memS_less hf hI.ok fun a ha _ => memB_iff.2 (hX _ (halk a ha)))
      | cons j l il =>
        intro X ρ base env s hM hlin
        obtain ⟨h1, h2, h3, h4⟩ := hlin
        exact exec_pending hC hap hI hM h1 (hall' j h1) h2 h3 fun ρ' env' s' hM' => il _ _ _ _ _ hM' h4
    | false => rw [hall] at h; cases h
  | cons i0 fuel ih =>
      intro ks Pl Sl Al m r h hks hI hQ
      subst hks
      simp only [runAny] at h
      have halk : ∀ a ∈ Al, a.i ∈ keysOf Pl := fun a ha => by obtain ⟨_, v, o, hv, _⟩ := hI.al a ha; exact mem_keysOf.2 ⟨v, hv⟩
      have hlt : ∀ {i : Nat} {o : Oper}, ops[i]? = some o → i < ops.size := fun h => (Array.getElem?_eq_some_iff.1 h).1
      have hdn : ∀ {i}, memB i (keysOf Pl) = false → ∀ k ∈ keysOf Pl, i ∉ depsOf ops k := by
        intro i hn k hk hm
        have h1 := (List.all_eq_true.1 hI.keys) k hk
        have h2 := allIn_iff.1 h1 i hm
        rw [memB_iff.2 h2] at hn; cases hn
      split at h
      · -- an allocation more
        rename_i i v ob hpick
        obtain ⟨i', hmem, hnm, hdep, o, ho, hr | ⟨_, hr, _⟩⟩ := pickS_ok hpick
        · obtain ⟨v', ob', hr, hnd, hg, hal⟩ := hr
          cases hr
          have hni : i ∉ keysOf Pl := fun hm => by rw [memB_iff.2 hm] at hnm; cases hnm
          cases hc : (m.more && alOk m.skip (⟨i, m.next, ob⟩ :: Al)) with
          | false => rw [hc] at h; cases h
          | true =>
          rw [hc] at h; simp only [cond_true] at h
          simp only [Bool.and_eq_true] at hc
          have hnd' : i ∉ depsOf ops i := fun hm => hni (allIn_iff.1 hdep i hm)
          have hI' : PInv P ops n ce m0 ((i, v) :: Pl) Sl (⟨i, m.next, ob⟩ :: Al) m.skip := by
            refine ⟨keysOk_cons hI.keys hdep, by simp only [keysOf, nodupB, hnm, hI.nodup]; rfl, fun j hj => ?_, hc.2, fun k w hk => ?_, fun k w hk a ha => ?_, Nat.le_succ_of_le hI.next, fun a ha => ?_⟩
            · rcases List.mem_cons.1 hj with rfl | hj
              · exact hlt ho
              · exact hI.lt j hj
            · obtain ⟨g1, o2, need, g2, g3, g4, g5⟩ := hI.sl k w hk
              have hkk : k ∈ keysOf Pl := mem_keysOf.2 ⟨w, g1⟩
              refine ⟨List.mem_cons_of_mem _ g1, o2, need, g2, ?_, ?_, fun j hj => List.mem_cons_of_mem _ (g5 j hj)⟩
              · rw [envS_more (hdn hnm k hkk), ← g3]
                refine gval_t ?_
                have hin : memB i need = false := by
                  cases hb : memB i need with
                  | false => rfl
                  | true => exact absurd (g5 i (memB_iff.1 hb)) hni
                simp only [memS, hin, cond_false]
                exact memS_t (m := m.skip) (m' := m) rfl
              · rw [envS_more (hdn hnm k hkk)]
                exact fun ρ e X he hh => g4 ρ e X he fun a ha => hh a (List.mem_cons_of_mem _ ha)
            · rcases List.mem_cons.1 ha with rfl | ha
              · intro e
                have e : i = k := e
                exact hni (e ▸ mem_keysOf.2 ⟨w, (hI.sl k w hk).1⟩)
              · exact hI.apart k w hk a ha
            · rcases List.mem_cons.1 ha with rfl | ha
              · exact ⟨hI.next, v, o, List.mem_cons_self, ho, hnd, by rw [envS_more hnd']; exact hg, by rw [envS_more hnd']; exact hal⟩
              · obtain ⟨g0, u, o2, g1, g2, g3, g4, g5⟩ := hI.al a ha
                have := hdn hnm a.i (halk a ha)
                exact ⟨g0, u, o2, List.mem_cons_of_mem _ g1, g2, g3, by rw [envS_more this]; exact g4, by rw [envS_more this]; exact g5⟩
          intro l X ρ base env s hM hlin
          have hix : i ∉ X := fun hm => hni (hM.sub i hm)
          refine ih h rfl hI' hQ l X ρ base env s ⟨⟨hM.grow.le, hM.grow.hole, Nat.le_succ_of_le hM.grow.next⟩, fun j hj => List.mem_cons_of_mem _ (hM.sub j hj), fun k w hk hkx => ?_, fun k w hk hkx => ?_, hM.old, hM.shut, hM.er, ?_, fun a ha hax => ?_⟩ hlin
          · rcases List.mem_cons.1 hk with hk | hk
            · cases hk; exact .inr ⟨⟨i, m.next, ob⟩, List.mem_cons_self, rfl⟩
            · rcases hM.rest k w hk hkx with h1 | ⟨a, ha, h1⟩
              · exact .inl h1
              · exact .inr ⟨a, List.mem_cons_of_mem _ ha, h1⟩
          · rcases List.mem_cons.1 hk with hk | hk
            · cases hk; exact absurd hkx hix
            · exact hM.slots k w hk hkx
          · have hin : memB i X = false := by
              cases hb : memB i X with
              | false => rfl
              | true => exact absurd (memB_iff.1 hb) hix
            simp only [memS, hin, cond_false]
            have hmore : (memS m (fun i => memB i X) Al).more = true := by unfold Mem.more; rw [memS_next]; exact hc.1
            have h1 := hM.rel.skip hmore
            refine h1.less ?_ fun j c hj => ?_
            · rw [memS_next]; simp only [Mem.skip, memS_next]
            · have ht : (memS m.skip (fun i => memB i X) Al).t = (memS m (fun i => memB i X) Al).t := memS_t (m := m.skip) (m' := m) rfl
              rw [ht] at hj; exact hj
          · rcases List.mem_cons.1 ha with rfl | ha
            · exact hM.rel.len _ (by rw [memS_next]; exact Nat.le_refl _)
            · exact hM.hole a ha hax
        · cases hr
      · -- a value more
        rename_i i v hpick
        obtain ⟨i', hmem, hnm, hdep, o, ho, ⟨_, _, hr, _⟩ | ⟨v', hr, hv⟩⟩ := pickS_ok hpick
        · cases hr
        · cases hr
          have hni : i ∉ keysOf Pl := fun hm => by rw [memB_iff.2 hm] at hnm; cases hnm
          have hnd' : i ∉ depsOf ops i := fun hm => hni (allIn_iff.1 hdep i hm)
          have hI' : PInv P ops n ce m0 ((i, v) :: Pl) ((i, v) :: Sl) Al m := by
            refine ⟨keysOk_cons hI.keys hdep, by simp only [keysOf, nodupB, hnm, hI.nodup]; rfl, fun j hj => ?_, hI.ok, fun k w hk => ?_, fun k w hk a ha => ?_, hI.next, fun a ha => ?_⟩
            · rcases List.mem_cons.1 hj with rfl | hj
              · exact hlt ho
              · exact hI.lt j hj
            · rcases List.mem_cons.1 hk with hk | hk
              · cases hk
                refine ⟨by simp, o, needOf n (envS ops ce i Pl) o Al, ho, ?_, ?_, fun j hj => ?_⟩
                · rw [envS_more hnd']; exact hv
                · rw [envS_more hnd']; exact just_needs
                · obtain ⟨a, ha, e⟩ := needs_sub j hj
                  subst e; exact List.mem_cons_of_mem _ (halk a ha)
              · obtain ⟨g1, o2, need, g2, g3, g4, g5⟩ := hI.sl k w hk
                have hkk : k ∈ keysOf Pl := mem_keysOf.2 ⟨w, g1⟩
                refine ⟨List.mem_cons_of_mem _ g1, o2, need, g2, ?_, ?_, fun j hj => List.mem_cons_of_mem _ (g5 j hj)⟩
                · rw [envS_more (hdn hnm k hkk)]; exact g3
                · rw [envS_more (hdn hnm k hkk)]; exact g4
            · rcases List.mem_cons.1 hk with hk | hk
              · cases hk
                intro e; exact hni (e ▸ halk a ha)
              · exact hI.apart k w hk a ha
            · obtain ⟨g0, u, o2, g1, g2, g3, g4, g5⟩ := hI.al a ha
              have := hdn hnm a.i (halk a ha)
              exact ⟨g0, u, o2, List.mem_cons_of_mem _ g1, g2, g3, by rw [envS_more this]; exact g4, by rw [envS_more this]; exact g5⟩
          intro l X ρ base env s hM hlin
          have hix : i ∉ X := fun hm => hni (hM.sub i hm)
          refine ih h rfl hI' hQ l X ρ base env s ⟨hM.grow, fun j hj => List.mem_cons_of_mem _ (hM.sub j hj), fun k w hk hkx => ?_, fun k w hk hkx => ?_, hM.old, hM.shut, hM.er, hM.rel, hM.hole⟩ hlin
          · rcases List.mem_cons.1 hk with hk | hk
            · cases hk; exact .inl (by simp)
            · rcases hM.rest k w hk hkx with h1 | h1
              · exact .inl (List.mem_cons_of_mem _ h1)
              · exact .inr h1
          · rcases List.mem_cons.1 hk with hk | hk
            · cases hk; exact absurd hkx hix
            · exact hM.slots k w hk hkx
      · -- one that acts
        split at h <;> try (cases h; done)
        rename_i i hpick
        obtain ⟨hmem, hnm, hdep⟩ := pickLoud_ok hpick
        have hni : i ∉ keysOf Pl := fun hm => by rw [memB_iff.2 hm] at hnm; cases hnm
        have hnd' : i ∉ depsOf ops i := fun hm => hni (allIn_iff.1 hdep i hm)
        cases honly : onlyB ops (keysOf Pl) i with
        | false => rw [honly] at h; cases h
        | true =>
        rw [honly] at h; simp only [cond_true] at h
        split at h <;> try (cases h; done)
        rename_i o ho
        have hil : i < ops.size := hlt ho
        have hdst : dstOf ops i = o.dst := by simp [dstOf, ho]
        generalize hneed : needOf n (envS ops ce i Pl) o Al = need at h
        intro l
        induction l with
        | nil =>
          intro X ρ base env s hM hlin
          exact absurd (hM.sub i (hlin i hil)) hni
        | cons j l il =>
          intro X ρ base env s hM hlin
          obtain ⟨h1, h2, h3, h4⟩ := hlin
          by_cases hj : j ∈ keysOf Pl
          · exact exec_pending hC hap hI hM h1 hj h2 h3 fun ρ' env' s' hM' => il _ _ _ _ _ hM' h4
          · by_cases hji : j = i
            · subst hji
              obtain ⟨e, rest, he, hA⟩ := slots_dep (n := n) (D := D) hM.slots hM.old hM.er j h3 (late_of h1 h2 hM.shut)
              have hneedX : ∀ k ∈ need, k ∈ X := by rw [← hneed]; exact just_needs ρ e X he (hM.holeOK hI.ok)
              have hrel1 := frame_out hI.ok hM.rel hneedX
              have key : ∀ r0, stepOp P call ops n (envS ops ce j Pl) (memS m (fun k => memB k need) Al) o = some r0 →
                  (match r0 with
                    | .go v m' => bif alOk m' (Al.filter fun a => !memB a.i need) && recheck P ops n ce m' (Al.filter fun a => !memB a.i need) ((j, v) :: Pl) (pending ops j Sl) then runAny P call ops n ce fuel (j :: keysOf Pl) ((j, v) :: Pl) (pending ops j Sl) (Al.filter fun a => !memB a.i need) m' else none
                    | .panic v m' => some (.panic v [] m')) = some r → OpsWp C fn rnd ops (j :: l) Q (A n (e ++ rest) D) s := by
                intro r0 hs0 h
                refine stepOp_ok hC hcall ho rest he hrel1 hs0 (fun v m' v' ρ' s' hr0 hgr hv hr' => ?_) (fun v m' v' ρ' s' hr0 hgr hv hr' => ?_)
                · subst hr0
                  simp only at h
                  cases hre : (alOk m' (Al.filter fun a => !memB a.i need) && recheck P ops n ce m' (Al.filter fun a => !memB a.i need) ((j, v) :: Pl) (pending ops j Sl)) with
                  | false => rw [hre] at h; cases h
                  | true =>
                  rw [hre] at h; simp only [cond_true] at h
                  simp only [Bool.and_eq_true] at hre
                  have hgr' : Grow ρ m ρ' m' := ⟨hgr.le, fun k hk hn => hgr.hole k (by rw [memS_next]; exact hk) hn, by have := hgr.next; rwa [memS_next] at this⟩
                  have hfil : ∀ a ∈ Al.filter (fun a => !memB a.i need), a ∈ Al ∧ a.i ∉ need := fun a ha => by
                    obtain ⟨g1, g2⟩ := List.mem_filter.1 ha
                    exact ⟨g1, fun hm => by rw [memB_iff.2 hm] at g2; cases g2⟩
                  have hI' : PInv P ops n ce m0 ((j, v) :: Pl) (pending ops j Sl) (Al.filter fun a => !memB a.i need) m' := by
                    refine ⟨keysOk_cons hI.keys hdep, by simp only [keysOf, nodupB, hnm, hI.nodup]; rfl, fun k hk => ?_, hre.1, fun k w hk => ?_, fun k w hk a ha => ?_, Nat.le_trans hI.next hgr'.next, fun a ha => ?_⟩
                    · rcases List.mem_cons.1 hk with rfl | hk
                      · exact h1
                      · exact hI.lt k hk
                    · obtain ⟨o2, g2, g3⟩ := recheck_ok hre.2 k w hk
                      have hkS := (List.mem_filter.1 hk).1
                      refine ⟨List.mem_cons_of_mem _ (hI.sl k w hkS).1, o2, _, g2, g3, just_needs, fun q hq => ?_⟩
                      obtain ⟨a, ha, e⟩ := needs_sub q hq
                      subst e; exact List.mem_cons_of_mem _ (halk a (hfil a ha).1)
                    · exact hI.apart k w (List.mem_filter.1 hk).1 a (hfil a ha).1
                    · obtain ⟨g0, u, o2, g1, g2, g3, g4, g5⟩ := hI.al a (hfil a ha).1
                      have := hdn hnm a.i (halk a (hfil a ha).1)
                      exact ⟨g0, u, o2, List.mem_cons_of_mem _ g1, g2, g3, by rw [envS_more this]; exact g4, by rw [envS_more this]; exact g5⟩
                  obtain ⟨hs1, hs2⟩ := slots_put (env := env) (base := base) hap h1 hgr.le hv hM.slots hM.old hni
                  rw [← hdst, ← upd_A hA]
                  refine ih h rfl hI' hQ l (j :: X) ρ' base _ s' ⟨hM.grow.trans hgr', fun k hk => ?_, fun k w hk hkx => ?_, hs1, hs2, (fun i hi k hk2 => by
                    rcases List.mem_cons.1 hi with rfl | hi
                    · exact List.mem_cons_of_mem _ (h3 k hk2)
                    · exact List.mem_cons_of_mem _ (hM.shut i hi k hk2)), hM.er.up hgr.le, ?_, fun a ha hax => ?_⟩ h4
                  · rcases List.mem_cons.1 hk with rfl | hk
                    · simp [keysOf]
                    · exact List.mem_cons_of_mem _ (hM.sub k hk)
                  · rcases List.mem_cons.1 hk with hk | hk
                    · cases hk; exact absurd (by simp) hkx
                    · have hkx' : k ∉ X := fun h => hkx (List.mem_cons_of_mem _ h)
                      rcases hM.rest k w hk hkx' with g1 | ⟨a, ha, rfl⟩
                      · refine .inl (List.mem_filter.2 ⟨g1, ?_⟩)
                        cases hm : memB k (depsOf ops j) with
                        | false => rfl
                        | true => exact absurd (h3 k (memB_iff.1 hm)) hkx'
                      · refine .inr ⟨a, List.mem_filter.2 ⟨ha, ?_⟩, rfl⟩
                        cases hm : memB a.i need with
                        | false => rfl
                        | true => exact absurd (hneedX a.i (memB_iff.1 hm)) hkx'
                  · refine frame_in hI.ok hM.rel hgr.le hr' hre.1 fun a ha hax => ?_
                    rcases List.mem_cons.1 hax with e | hax
                    · exact absurd (e ▸ halk a ha) hni
                    · exact hax
                  · obtain ⟨ha1, _⟩ := hfil a ha
                    exact hgr'.hole a.id (alOk_mem hI.ok a ha1).2 (hM.hole a ha1 fun h => hax (List.mem_cons_of_mem _ h))
                · subst hr0
                  simp only [Option.some.injEq] at h; subst h
                  have hgr' : Grow ρ m ρ' m' := ⟨hgr.le, fun k hk hn => hgr.hole k (by rw [memS_next]; exact hk) hn, by have := hgr.next; rwa [memS_next] at this⟩
                  exact hQ.panic _ _ _ rfl ρ' v' [] _ s' (hM.grow.trans hgr') hv .nil (Post'.lessF hr' fun x hx => .inl hx)
              rw [hA]
              split at h <;> try (cases h; done)
              · rename_i v m' hs0; exact key _ hs0 h
              · rename_i v m' hs0; exact key _ hs0 h
            · exfalso
              have := (List.all_eq_true.1 honly) j (List.mem_range.2 h1)
              have e1 : memB j (keysOf Pl) = false := by
                cases hm : memB j (keysOf Pl) with
                | false => rfl
                | true => exact absurd (memB_iff.1 hm) hj
              rw [e1, beq_false hji] at this
              simp only [Bool.false_or, List.any_eq_true, Bool.not_eq_true'] at this
              obtain ⟨k, hk, hkn⟩ := this
              have := hM.sub k (h3 k hk)
              rw [memB_iff.2 this] at hkn; cases hkn
end any
end Go.L
