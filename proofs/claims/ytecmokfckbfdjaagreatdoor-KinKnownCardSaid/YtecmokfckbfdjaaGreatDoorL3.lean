/- The library of this proof, part 3: a program logic, an executor with its soundness, a theorem on goroutines. -/
import Derived.Test.YtecmokfckbfdjaaGreatDoorL2
import Derived.Conc.CrowdBase
import Derived.Conc.CrowdComm
import Derived.Conc.CrowdTrace
import Derived.Conc.Know
import Derived.Conc.QuitsD
import Derived.Conc.WrBase2
import Derived.Conc.WrWorld
set_option linter.all false
namespace Go.L
open Go Go.Conc

/-! ### The same values and blocks, numbered anew -/
def mapO {α β : Type} (f : α → Option β) : List α → Option (List β)
  | [] => some []
  | v :: l => match f v with
    | some w => match mapO f l with
      | some r => some (w :: r)
      | none => none
    | none => none
def renN (ψ : Nat → Option Nat) : Nat → Value → Option Value
  | 0, _ => none
  | _ + 1, .bool b => some (.bool b)
  | _ + 1, .int k n => some (.int k n)
  | _ + 1, .string b => some (.string b)
  | _ + 1, .pointer none => some (.pointer none)
  | _ + 1, .pointer (some ⟨i, o, none⟩) => match ψ i with
    | some j => some (.pointer (some ⟨j, o, none⟩))
    | none => none
  | _ + 1, .slice none l c => some (.slice none l c)
  | _ + 1, .slice (some ⟨i, o, none⟩) l c => match ψ i with
    | some j => some (.slice (some ⟨j, o, none⟩) l c)
    | none => none
  | _ + 1, .map none => some (.map none)
  | _ + 1, .map (some i) => match ψ i with
    | some j => some (.map (some j))
    | none => none
  | _ + 1, .chan none => some (.chan none)
  | _ + 1, .chan (some i) => match ψ i with
    | some j => some (.chan (some j))
    | none => none
  | _ + 1, .nilFunc => some .nilFunc
  | _ + 1, .nilIface => some .nilIface
  | _ + 1, .func (.yield i) ⟨[]⟩ ⟨[]⟩ => match ψ i with
    | some j => some (.func (.yield j) #[] #[])
    | none => none
  | n + 1, .func f x y => bif plainFn f then (match mapO (renN ψ n) x.toList with
    | some a => match mapO (renN ψ n) y.toList with
      | some b => some (.func f ⟨a⟩ ⟨b⟩)
      | none => none
    | none => none) else none
  | n + 1, .iface t v => match renN ψ n v with
    | some w => some (.iface t w)
    | none => none
  | n + 1, .agg l => match mapO (renN ψ n) l.toList with
    | some a => some (.agg ⟨a⟩)
    | none => none
  | n + 1, .tuple l => match mapO (renN ψ n) l.toList with
    | some a => some (.tuple ⟨a⟩)
    | none => none
  | _, _ => none
def RenTo (ψ : Nat → Option Nat) (ρ σ : Ren) : Prop := ∀ i j, ψ i = some j → ∀ x, ρ i = some x → σ j = some x
theorem mapO_vrs {ρ σ : Ren} {f : Value → Option Value} (hf : ∀ v v', f v = some v' → ∀ w, VR ρ v w → VR σ v' w) : ∀ {l l' : List Value}, mapO f l = some l' → ∀ {w}, VRs ρ l w → VRs σ l' w
  | [], l', h, w, hw => by simp only [mapO, Option.some.injEq] at h; subst h; cases hw; exact .nil
  | v :: l, l', h, w, hw => by
    simp only [mapO] at h
    split at h <;> try (cases h; done)
    rename_i v1 h1
    split at h <;> try (cases h; done)
    rename_i r h2
    simp only [Option.some.injEq] at h; subst h
    cases hw
    rename_i w1 w2 k1 k2
    exact .cons _ _ _ _ (hf _ _ h1 _ k1) (mapO_vrs hf h2 k2)
theorem renN_vr {ψ : Nat → Option Nat} {ρ σ : Ren} (hψ : RenTo ψ ρ σ) : ∀ (n : Nat) (v v' : Value), renN ψ n v = some v' → ∀ w, VR ρ v w → VR σ v' w := by
  intro n
  induction n with
  | zero => intro v v' h; cases h
  | succ n ih =>
    intro v v' h w hw
    cases hw with
    | bool b => simp only [renN, Option.some.injEq] at h; subst h; exact .bool b
    | int k n => simp only [renN, Option.some.injEq] at h; subst h; exact .int k n
    | string b => simp only [renN, Option.some.injEq] at h; subst h; exact .string b
    | ptr0 => simp only [renN, Option.some.injEq] at h; subst h; exact .ptr0
    | ptr i b c o hr =>
      simp only [renN] at h
      split at h <;> try (cases h; done)
      rename_i j hj
      simp only [Option.some.injEq] at h; subst h
      exact .ptr _ _ c _ (hψ _ _ hj _ hr)
    | slice0 l c => simp only [renN, Option.some.injEq] at h; subst h; exact .slice0 l c
    | slice i b c o l k hr hk =>
      simp only [renN] at h
      split at h <;> try (cases h; done)
      rename_i j hj
      simp only [Option.some.injEq] at h; subst h
      exact .slice _ _ c _ _ _ (hψ _ _ hj _ hr) hk
    | sliceU i b c o l k hr h1 h2 h3 =>
      simp only [renN] at h
      split at h <;> try (cases h; done)
      rename_i j hj
      simp only [Option.some.injEq] at h; subst h
      exact .sliceU _ _ c _ _ _ (hψ _ _ hj _ hr) h1 h2 h3
    | map0 => simp only [renN, Option.some.injEq] at h; subst h; exact .map0
    | map i b c hr =>
      simp only [renN] at h
      split at h <;> try (cases h; done)
      rename_i j hj
      simp only [Option.some.injEq] at h; subst h
      exact .map _ _ c (hψ _ _ hj _ hr)
    | chan0 => simp only [renN, Option.some.injEq] at h; subst h; exact .chan0
    | chan i b c hr =>
      simp only [renN] at h
      split at h <;> try (cases h; done)
      rename_i j hj
      simp only [Option.some.injEq] at h; subst h
      exact .chan _ _ c (hψ _ _ hj _ hr)
    | func f x y x' y' hf h1 h2 =>
      rw [renN] at h
      · rw [hf] at h; simp only [cond_true] at h
        split at h <;> try (cases h; done)
        rename_i a ha
        split at h <;> try (cases h; done)
        rename_i b hb
        simp only [Option.some.injEq] at h; subst h
        exact .func f _ _ _ _ hf (mapO_vrs ih ha h1) (mapO_vrs ih hb h2)
      · intro i e; subst e; cases hf
    | yield i b c hr =>
      simp only [renN] at h
      split at h <;> try (cases h; done)
      rename_i j hj
      simp only [Option.some.injEq] at h; subst h
      exact .yield _ _ c (hψ _ _ hj _ hr)
    | nilFunc => simp only [renN, Option.some.injEq] at h; subst h; exact .nilFunc
    | iface t v v2 hv =>
      simp only [renN] at h
      split at h <;> try (cases h; done)
      rename_i a ha
      simp only [Option.some.injEq] at h; subst h
      exact .iface t _ _ (ih _ _ ha _ hv)
    | nilIface => simp only [renN, Option.some.injEq] at h; subst h; exact .nilIface
    | agg l l2 hl =>
      simp only [renN] at h
      split at h <;> try (cases h; done)
      rename_i a ha
      simp only [Option.some.injEq] at h; subst h
      exact .agg _ _ (mapO_vrs ih ha hl)
    | tuple l l2 hl =>
      simp only [renN] at h
      split at h <;> try (cases h; done)
      rename_i a ha
      simp only [Option.some.injEq] at h; subst h
      exact .tuple _ _ (mapO_vrs ih ha hl)
def renV (ψ : Nat → Option Nat) (v : Value) : Option Value := renN ψ 12 v
def renVs (ψ : Nat → Option Nat) (l : List Value) : Option (List Value) := mapO (renN ψ 12) l
theorem renV_vr {ψ : Nat → Option Nat} {ρ σ : Ren} (hψ : RenTo ψ ρ σ) {v v' w : Value} (h : renV ψ v = some v') (hw : VR ρ v w) : VR σ v' w := renN_vr hψ _ _ _ h _ hw
theorem renVs_vrs {ψ : Nat → Option Nat} {ρ σ : Ren} (hψ : RenTo ψ ρ σ) {l l' w : List Value} (h : renVs ψ l = some l') (hw : VRs ρ l w) : VRs σ l' w := mapO_vrs (renN_vr hψ _) h hw
def renE (ψ : Nat → Option Nat) : Env → Option Env
  | [] => some []
  | (t, v) :: l => match renV ψ v with
    | some w => match renE ψ l with
      | some r => some ((t, w) :: r)
      | none => none
    | none => none
theorem renE_er {ψ : Nat → Option Nat} {ρ σ : Ren} (hψ : RenTo ψ ρ σ) : ∀ {l l' : Env}, renE ψ l = some l' → ∀ {w}, ER ρ l w → ER σ l' w
  | [], l', h, w, hw => by simp only [renE, Option.some.injEq] at h; subst h; cases hw; exact .nil
  | (t, v) :: l, l', h, w, hw => by
    simp only [renE] at h
    split at h <;> try (cases h; done)
    rename_i v1 h1
    split at h <;> try (cases h; done)
    rename_i r h2
    simp only [Option.some.injEq] at h; subst h
    cases hw
    rename_i w1 w2 k1 k2
    exact .cons _ _ _ _ _ (renV_vr hψ h1 k1) (renE_er hψ h2 k2)
def renM (ψ : Nat → Option Nat) : List MEnt → Option (List MEnt)
  | [] => some []
  | ⟨k, v, b⟩ :: l => match renV ψ k with
    | some k' => match renV ψ v with
      | some v' => match renM ψ l with
        | some r => some (⟨k', v', b⟩ :: r)
        | none => none
      | none => none
    | none => none
theorem renM_mrs {ψ : Nat → Option Nat} {ρ σ : Ren} (hψ : RenTo ψ ρ σ) : ∀ {l l' : List MEnt}, renM ψ l = some l' → ∀ {w}, MRs ρ l w → MRs σ l' w
  | [], l', h, w, hw => by simp only [renM, Option.some.injEq] at h; subst h; cases hw; exact .nil
  | ⟨k, v, b⟩ :: l, l', h, w, hw => by
    simp only [renM] at h
    split at h <;> try (cases h; done)
    rename_i k1 h1
    split at h <;> try (cases h; done)
    rename_i v1 h2
    split at h <;> try (cases h; done)
    rename_i r h3
    simp only [Option.some.injEq] at h; subst h
    cases hw
    rename_i k1 k2 k3
    exact .cons _ _ _ _ _ _ _ (renV_vr hψ h1 k1) (renV_vr hψ h2 k2) (renM_mrs hψ h3 k3)
def renC (ψ : Nat → Option Nat) : CObj → Option CObj
  | .cells l t => match renVs ψ l with
    | some l' => some (.cells l' t)
    | none => none
  | .map es k => match renM ψ es with
    | some es' => some (.map es' k)
    | none => none
  | .strIter s p => some (.strIter s p)
  | .mapIter none a b c => some (.mapIter none a b c)
  | .mapIter (some i) a b c => match ψ i with
    | some j => some (.mapIter (some j) a b c)
    | none => none
  | .loop st pend fn n env params assign body d => match renE ψ env with
    | some env' => match ψ d with
      | some d' => some (.loop st pend fn n env' params assign body d')
      | none => none
    | none => none
  | .defer t => some (.defer t)
  | .bag es => match renM ψ es with
    | some es' => some (.bag es')
    | none => none
theorem renM_perm {ψ : Nat → Option Nat} {l l2 : List MEnt} (h : l.Perm l2) : ∀ {r}, renM ψ l = some r → ∃ r2, renM ψ l2 = some r2 ∧ r.Perm r2 := by
  induction h with
  | nil => intro r hr; exact ⟨r, hr, .refl _⟩
  | cons x _ ih =>
    intro r hr
    rcases x with ⟨k, v, b⟩
    simp only [renM] at hr ⊢
    split at hr <;> try (cases hr; done)
    split at hr <;> try (cases hr; done)
    split at hr <;> try (cases hr; done)
    rename_i k1 _ v1 _ r1 h3
    simp only [Option.some.injEq] at hr; subst hr
    obtain ⟨r2, g1, g2⟩ := ih h3
    exact ⟨_, by rw [g1], g2.cons _⟩
  | swap x y l =>
    intro r hr
    rcases x with ⟨k, v, b⟩
    rcases y with ⟨k2, v2, b2⟩
    simp only [renM] at hr ⊢
    split at hr <;> try (cases hr; done)
    rename_i a1 h1
    split at hr <;> try (cases hr; done)
    rename_i a2 h2
    split at hr <;> try (cases hr; done)
    rename_i a3 h3
    simp only [Option.some.injEq] at hr; subst hr
    split at h3 <;> try (cases h3; done)
    rename_i c1 g1
    split at h3 <;> try (cases h3; done)
    rename_i c2 g2
    split at h3 <;> try (cases h3; done)
    rename_i c3 g3
    simp only [Option.some.injEq] at h3; subst h3
    exact ⟨_, rfl, .swap _ _ _⟩
  | trans _ _ ih1 ih2 =>
    intro r hr
    obtain ⟨r1, g1, g2⟩ := ih1 hr
    obtain ⟨r2, g3, g4⟩ := ih2 g1
    exact ⟨r2, g3, g2.trans g4⟩
theorem renM_brs {ψ : Nat → Option Nat} {ρ σ : Ren} (hψ : RenTo ψ ρ σ) : ∀ {l l' : List MEnt}, renM ψ l = some l' → ∀ {w}, BRs ρ l w → BRs σ l' w
  | [], l', h, w, hw => by simp only [renM, Option.some.injEq] at h; subst h; cases hw; exact .nil
  | ⟨k, v, b⟩ :: l, l', h, w, hw => by
    simp only [renM] at h
    split at h <;> try (cases h; done)
    rename_i k1 h1
    split at h <;> try (cases h; done)
    rename_i v1 h2
    split at h <;> try (cases h; done)
    rename_i r h3
    simp only [Option.some.injEq] at h; subst h
    cases hw
    rename_i k1 k2 k3
    exact .cons _ _ _ _ _ _ _ _ (renV_vr hψ h1 k1) (renV_vr hψ h2 k2) (renM_brs hψ h3 k3)
theorem renC_or {ψ : Nat → Option Nat} {ρ σ : Ren} (hψ : RenTo ψ ρ σ) {c c' : CObj} (h : renC ψ c = some c') {o : Obj} (ho : OR ρ c o) : OR σ c' o := by
  cases ho with
  | cells l l' x t hl =>
    simp only [renC] at h
    split at h <;> try (cases h; done)
    rename_i a ha
    simp only [Option.some.injEq] at h; subst h
    exact .cells _ _ _ _ (renVs_vrs hψ ha hl)
  | map es es' k hl =>
    simp only [renC] at h
    split at h <;> try (cases h; done)
    rename_i a ha
    simp only [Option.some.injEq] at h; subst h
    exact .map _ _ _ (renM_mrs hψ ha hl)
  | strIter s p => simp only [renC, Option.some.injEq] at h; subst h; exact .strIter s p
  | mapIter0 a b c => simp only [renC, Option.some.injEq] at h; subst h; exact .mapIter0 a b c
  | mapIter i b c d e f hr =>
    simp only [renC] at h
    split at h <;> try (cases h; done)
    rename_i j hj
    simp only [Option.some.injEq] at h; subst h
    exact .mapIter _ b c _ _ _ (hψ _ _ hj _ hr)
  | loop st pend fn n ce e params assign body i b c h1 h2 =>
    simp only [renC] at h
    split at h <;> try (cases h; done)
    rename_i a ha
    split at h <;> try (cases h; done)
    rename_i j hj
    simp only [Option.some.injEq] at h; subst h
    exact .loop st pend fn n _ e params assign body _ b c (renE_er hψ ha h1) (hψ _ _ hj _ h2)
  | defer t => simp only [renC, Option.some.injEq] at h; subst h; exact .defer t
  | bag es es1 es' k h1 h2 =>
    simp only [renC] at h
    split at h <;> try (cases h; done)
    rename_i a ha
    simp only [Option.some.injEq] at h; subst h
    obtain ⟨r2, g1, g2⟩ := renM_perm h1 ha
    exact .bag _ r2 _ _ g2 (renM_brs hψ g1 h2)
theorem renC_room {P : Program} {ψ : Nat → Option Nat} {k : Nat} {c c' : CObj} (h : renC ψ c = some c') {o : Obj} (ho : Room P k c o) : Room P k c' o := by
  cases c with
  | cells l t =>
    simp only [renC] at h
    split at h <;> try (cases h; done)
    simp only [Option.some.injEq] at h; subst h
    cases o <;> exact ho
  | map es k =>
    simp only [renC] at h
    split at h <;> try (cases h; done)
    simp only [Option.some.injEq] at h; subst h
    exact True.intro
  | strIter s p => simp only [renC, Option.some.injEq] at h; subst h; exact True.intro
  | mapIter i b c d =>
    cases i with
    | none => simp only [renC, Option.some.injEq] at h; subst h; exact True.intro
    | some i =>
      simp only [renC] at h
      split at h <;> try (cases h; done)
      simp only [Option.some.injEq] at h; subst h
      exact True.intro
  | loop st pend fn n ce params assign body i =>
    simp only [renC] at h
    split at h <;> try (cases h; done)
    split at h <;> try (cases h; done)
    simp only [Option.some.injEq] at h; subst h
    exact True.intro
  | defer t => simp only [renC, Option.some.injEq] at h; subst h; exact True.intro
  | bag es =>
    simp only [renC] at h
    split at h <;> try (cases h; done)
    simp only [Option.some.injEq] at h; subst h
    exact True.intro

/-! ### Some blocks of the memory, numbered anew -/
def numb : Nat → List Nat → Tr Nat → Tr Nat
  | _, [], t => t
  | k, i :: l, t => numb (k + 1) l (t.put depthT i (some k))
theorem numb_ok : ∀ (l : List Nat) (k : Nat) (t : Tr Nat), (∀ i ∈ l, i < 2 ^ depthT) → ∀ i j, (numb k l t).get i = some j → t.get i = some j ∨ (k ≤ j ∧ l[j - k]? = some i)
  | [], k, t, _, i, j, h => .inl h
  | x :: l, k, t, hl, i, j, h => by
    rcases numb_ok l (k + 1) _ (fun i hi => hl i (List.mem_cons_of_mem _ hi)) i j h with h1 | ⟨h1, h2⟩
    · rw [Tr.get_put _ _ _ _ (hl x (by simp))] at h1
      split at h1
      · rename_i e; cases h1; subst e; exact .inr ⟨Nat.le_refl _, by simp⟩
      · exact .inl h1
    · refine .inr ⟨by omega, ?_⟩
      rw [show j - k = (j - (k + 1)) + 1 from by omega]; simpa using h2
def okIds (next : Nat) (ψ : Nat → Option Nat) : List Nat → Nat → Bool
  | [], _ => true
  | i :: l, k => bif Nat.blt i next then (match ψ i with
    | some j => bif Nat.beq j k then okIds next ψ l (k + 1) else false
    | none => false) else false
theorem okIds_ok {next : Nat} {ψ : Nat → Option Nat} : ∀ {l : List Nat} {k : Nat}, okIds next ψ l k = true → ∀ j i, l[j]? = some i → i < next ∧ ψ i = some (k + j)
  | [], k, h, j, i, hj => by simp at hj
  | x :: l, k, h, j, i, hj => by
    simp only [okIds] at h
    cases hb : Nat.blt x next with
    | false => rw [hb] at h; cases h
    | true =>
      rw [hb] at h; simp only [cond_true] at h
      split at h <;> try (cases h; done)
      rename_i j2 hj2
      cases hb2 : Nat.beq j2 k with
      | false => rw [hb2] at h; cases h
      | true =>
        rw [hb2] at h; simp only [cond_true] at h
        have := Nat.eq_of_beq_eq_true hb2
        subst this
        cases j with
        | zero => simp at hj; subst hj; exact ⟨by simpa [Nat.blt_eq] using hb, by simpa using hj2⟩
        | succ j =>
          obtain ⟨h1, h2⟩ := okIds_ok h j i (by simpa using hj)
          exact ⟨h1, by rw [h2]; congr 1; omega⟩
def pullB (m : Mem) (ψ : Nat → Option Nat) : List Nat → Nat → Tr CB → Option (Tr CB)
  | [], _, t => some t
  | i :: l, k, t => match m.t.get i with
    | some c => match renC ψ c.o with
      | some o => pullB m ψ l (k + 1) (t.put depthT k (some ⟨c.ro, o⟩))
      | none => none
    | none => pullB m ψ l (k + 1) t
theorem pullB_ok {m : Mem} {ψ : Nat → Option Nat} : ∀ {l : List Nat} {k : Nat} {t t' : Tr CB}, pullB m ψ l k t = some t' → k + l.length < 2 ^ depthT →
    (∀ j, j < k → t'.get j = t.get j) ∧ (∀ j, k + l.length ≤ j → t'.get j = t.get j) ∧ ∀ j i, l[j]? = some i → (t'.get (k + j) = t.get (k + j)) ∨ ∃ c o, m.t.get i = some c ∧ renC ψ c.o = some o ∧ t'.get (k + j) = some ⟨c.ro, o⟩
  | [], k, t, t', h, _ => by
    simp only [pullB, Option.some.injEq] at h; subst h
    exact ⟨fun _ _ => rfl, fun _ _ => rfl, fun j i hj => by simp at hj⟩
  | x :: l, k, t, t', h, hk => by
    simp only [pullB] at h
    simp only [List.length_cons] at hk
    split at h
    · rename_i c hc
      split at h <;> try (cases h; done)
      rename_i o ho
      obtain ⟨h1, h2, h3⟩ := pullB_ok h (by omega)
      have hg : ∀ j, (t.put depthT k (some ⟨c.ro, o⟩)).get j = if j = k then some ⟨c.ro, o⟩ else t.get j := fun j => Tr.get_put _ _ _ _ (by omega) j
      refine ⟨fun j hj => ?_, fun j hj => ?_, fun j i hj => ?_⟩
      · rw [h1 j (by omega), hg, if_neg (by omega)]
      · simp only [List.length_cons] at hj
        rw [h2 j (by omega), hg, if_neg (by omega)]
      · cases j with
        | zero =>
          simp at hj; subst hj
          exact .inr ⟨c, o, hc, ho, by rw [Nat.add_zero, h1 k (by omega), hg, if_pos rfl]⟩
        | succ j =>
          have he : k + (j + 1) = k + 1 + j := by omega
          rw [he]
          rcases h3 j i (by simpa using hj) with k0 | ⟨c', o', k1, k2, k3⟩
          · exact .inl (by rw [k0, hg, if_neg (by omega)])
          · exact .inr ⟨c', o', k1, k2, k3⟩
    · obtain ⟨h1, h2, h3⟩ := pullB_ok h (by omega)
      refine ⟨fun j hj => h1 j (by omega), fun j hj => h2 j (by simp only [List.length_cons] at hj; omega), fun j i hj => ?_⟩
      cases j with
      | zero => exact .inl (h1 k (by omega))
      | succ j =>
        have he : k + (j + 1) = k + 1 + j := by omega
        rw [he]
        exact h3 j i (by simpa using hj)
def pull (m : Mem) (ids : List Nat) : Option (Mem × (Nat → Option Nat)) :=
  bif okIds m.next (numb 0 ids .nil).get ids 0 && Nat.blt ids.length (2 ^ depthT) then (match pullB m (numb 0 ids .nil).get ids 0 .nil with
    | some t => some (⟨t, ids.length⟩, (numb 0 ids .nil).get)
    | none => none) else none
def pullF (m : Mem) (ρ : Ren) (ψ : Nat → Option Nat) (F : Nat × Obj → Prop) (s : St) : Nat × Obj → Prop :=
  fun x => F x ∨ (x ∈ s.rw ∧ ∃ i c k, m.t.get i = some c ∧ c.ro = false ∧ ρ i = some (x.1, k) ∧ ψ i = none)
def pullR (ρ : Ren) (ids : List Nat) : Ren := fun j => match ids[j]? with
  | some i => ρ i
  | none => none
theorem Tr.get_nil {α : Type} (i : Nat) : (Tr.nil : Tr α).get i = none := rfl
theorem pull_ok {P : Program} {ρ : Ren} {m m' : Mem} {F : Nat × Obj → Prop} {R : Nat → Option Obj} {s : St} {ids : List Nat} {ψ : Nat → Option Nat} (hr : Rel P ρ m F R s) (h : pull m ids = some (m', ψ)) :
    RenTo ψ ρ (pullR ρ ids) ∧ Rel P (pullR ρ ids) m' (pullF m ρ ψ F s) R s ∧ m'.next = ids.length ∧ (∀ j i, ids[j]? = some i → i < m.next ∧ ψ i = some j) ∧ (∀ i j, ψ i = some j → ids[j]? = some i) := by
  unfold pull at h
  cases hb : (okIds m.next (numb 0 ids .nil).get ids 0 && Nat.blt ids.length (2 ^ depthT)) with
  | false => rw [hb] at h; cases h
  | true =>
    rw [hb] at h; simp only [cond_true] at h
    split at h <;> try (cases h; done)
    rename_i t ht
    simp only [Option.some.injEq, Prod.mk.injEq] at h
    obtain ⟨rfl, rfl⟩ := h
    simp only [Bool.and_eq_true] at hb
    have hlen : ids.length < 2 ^ depthT := by simpa [Nat.blt_eq] using hb.2
    have hok : ∀ j i, ids[j]? = some i → i < m.next ∧ (numb 0 ids .nil).get i = some j := by
      intro j i hj; have := okIds_ok hb.1 j i hj; simpa using this
    have hinv : ∀ i j, (numb 0 ids .nil).get i = some j → ids[j]? = some i := by
      intro i j hij
      rcases numb_ok ids 0 .nil (fun i hi => by
        obtain ⟨j, hj⟩ := List.mem_iff_getElem?.1 hi
        exact Nat.lt_trans (hok j i hj).1 hr.fits) i j hij with h1 | h1
      · rw [Tr.get_nil] at h1; cases h1
      · simpa using h1.2
    obtain ⟨g1, g2, g3⟩ := pullB_ok ht (by simpa using hlen)
    simp only [Nat.zero_add] at g2 g3
    have hto : RenTo (numb 0 ids .nil).get ρ (pullR ρ ids) := by
      intro i j hij x hx
      simp only [pullR, hinv i j hij]; exact hx
    have hout : ∀ j, ids.length ≤ j → t.get j = none := fun j hj => by rw [g2 j hj]; rfl
    have hmem : ∀ j c', t.get j = some c' → ∃ i c, ids[j]? = some i ∧ m.t.get i = some c ∧ c'.ro = c.ro ∧ renC (numb 0 ids .nil).get c.o = some c'.o := by
      intro j c' hj
      rcases Nat.lt_or_ge j ids.length with hlt | hge
      · have hi : ids[j]? = some ids[j] := List.getElem?_eq_getElem hlt
        rcases g3 j _ hi with k0 | ⟨c, o, k1, k2, k3⟩
        · rw [hj, Tr.get_nil] at k0; cases k0
        · rw [hj] at k3; cases k3
          exact ⟨_, c, hi, k1, rfl, k2⟩
      · rw [hout j hge] at hj; cases hj
    refine ⟨hto, ⟨fun j hj => ?_, hlen, hout, fun j c' hj => ?_, fun j1 j2 c1 c2 b k1 k2 h1 h2 r1 r2 e1 e2 => ?_, fun x hx => ?_, fun j c' b k o hj hro hρ hF => ?_, hr.ro⟩, rfl, hok, hinv⟩
    · simp only [pullR]; rw [List.getElem?_eq_none hj]
    · obtain ⟨i, c, h1, h2, h3, h4⟩ := hmem j c' hj
      obtain ⟨b, k, o', k1, k2, k3, k4⟩ := hr.blk i c h2
      exact ⟨b, k, o', by simp only [pullR, h1]; exact k1, renC_or hto h4 k2, renC_room h4 k3, by rw [h3]; exact k4⟩
    · obtain ⟨i1, d1, a1, a2, a3, _⟩ := hmem j1 c1 h1
      obtain ⟨i2, d2, b1, b2, b3, _⟩ := hmem j2 c2 h2
      simp only [pullR, a1] at e1
      simp only [pullR, b1] at e2
      have := hr.inj i1 i2 d1 d2 b k1 k2 a2 b2 (a3 ▸ r1) (b3 ▸ r2) e1 e2
      subst this
      have x1 := (hok j1 i1 a1).2
      rw [(hok j2 i1 b1).2] at x1
      cases x1; rfl
    · rcases hx with hx | hx
      · exact hr.frame x hx
      · exact hx.1
    · obtain ⟨i, c, h1, h2, h3, _⟩ := hmem j c' hj
      simp only [pullR, h1] at hρ
      rcases hF with hF | ⟨_, i2, c2, k2, g5, g6, g7, g8⟩
      · exact hr.apart i c b k o h2 (h3 ▸ hro) hρ hF
      · have := hr.inj i i2 c c2 b k k2 h2 g5 (h3 ▸ hro) g6 hρ g7
        subst this
        rw [(hok j i h1).2] at g8; cases g8
end Go.L
namespace Go.L
open Go Go.Conc

/-! ### Back into the whole memory -/
def backF (ids : List Nat) (len next : Nat) : Nat → Option Nat := fun j => bif Nat.blt j len then ids[j]? else some (next + (j - len))
def mergeB (ml : Mem) (φ : Nat → Option Nat) : Nat → Nat → Tr CB → Option (Tr CB)
  | 0, _, t => some t
  | c + 1, j, t => match φ j with
    | some i => match ml.t.get j with
      | some b => match renC φ b.o with
        | some o => mergeB ml φ c (j + 1) (t.put depthT i (some ⟨b.ro, o⟩))
        | none => none
      | none => mergeB ml φ c (j + 1) (t.put depthT i none)
    | none => none
def merge (m ml : Mem) (ids : List Nat) : Option Mem :=
  bif Nat.blt (m.next + (ml.next - ids.length)) (2 ^ depthT) && Nat.ble ids.length ml.next then (match mergeB ml (backF ids ids.length m.next) ml.next 0 m.t with
    | some t => some ⟨t, m.next + (ml.next - ids.length)⟩
    | none => none) else none

theorem mergeB_ok {ml : Mem} {φ : Nat → Option Nat} {N : Nat} (hinj : ∀ j j' i, φ j = some i → φ j' = some i → j = j') (hlt : ∀ j i, j < N → φ j = some i → i < 2 ^ depthT) : ∀ (c j : Nat) (t t' : Tr CB), j + c ≤ N → mergeB ml φ c j t = some t' →
    (∀ i, (∀ j', j ≤ j' → j' < j + c → φ j' ≠ some i) → t'.get i = t.get i) ∧
    (∀ j', j ≤ j' → j' < j + c → ∃ i, φ j' = some i ∧ ((ml.t.get j' = none ∧ t'.get i = none) ∨ ∃ b o, ml.t.get j' = some b ∧ renC φ b.o = some o ∧ t'.get i = some ⟨b.ro, o⟩))
  | 0, j, t, t', _, h => by
    simp only [mergeB, Option.some.injEq] at h; subst h
    exact ⟨fun _ _ => rfl, fun j' h1 h2 => by omega⟩
  | c + 1, j, t, t', hN, h => by
    simp only [mergeB] at h
    split at h <;> try (cases h; done)
    rename_i i hi
    have hil := hlt j i (by omega) hi
    have key : ∀ x, mergeB ml φ c (j + 1) (t.put depthT i x) = some t' → ((ml.t.get j = none ∧ x = none) ∨ ∃ b o, ml.t.get j = some b ∧ renC φ b.o = some o ∧ x = some ⟨b.ro, o⟩) →
        (∀ i, (∀ j', j ≤ j' → j' < j + (c + 1) → φ j' ≠ some i) → t'.get i = t.get i) ∧
        (∀ j', j ≤ j' → j' < j + (c + 1) → ∃ i, φ j' = some i ∧ ((ml.t.get j' = none ∧ t'.get i = none) ∨ ∃ b o, ml.t.get j' = some b ∧ renC φ b.o = some o ∧ t'.get i = some ⟨b.ro, o⟩)) := by
      intro x hx hxx
      obtain ⟨h1, h2⟩ := mergeB_ok hinj hlt c (j + 1) _ t' (by omega) hx
      have hg : ∀ q, (t.put depthT i x).get q = if q = i then x else t.get q := fun q => Tr.get_put _ _ _ _ hil q
      refine ⟨fun q hq => ?_, fun j' k1 k2 => ?_⟩
      · rw [h1 q (fun j' k1 k2 => hq j' (by omega) (by omega)), hg, if_neg]
        intro e; subst e
        exact hq j (Nat.le_refl _) (by omega) hi
      · rcases Nat.lt_or_ge j j' with hlt' | hge
        · exact h2 j' (by omega) (by omega)
        · have : j' = j := by omega
          subst this
          refine ⟨i, hi, ?_⟩
          have hti : t'.get i = x := by
            rw [h1 i (fun j2 k3 k4 e => by have := hinj _ _ _ hi e; omega), hg, if_pos rfl]
          rw [hti]
          exact hxx
    split at h
    · rename_i b hb
      split at h <;> try (cases h; done)
      rename_i o ho
      exact key _ h (.inr ⟨b, o, hb, ho, rfl⟩)
    · rename_i hb
      exact key _ h (.inl ⟨hb, rfl⟩)

theorem merge_ok {P : Program} {ρ ρ1 : Ren} {m ml0 ml m' : Mem} {F : Nat × Obj → Prop} {R : Nat → Option Obj} {s s' : St} {ids : List Nat} {ψ : Nat → Option Nat} (hr : Rel P ρ m F R s) (hp : pull m ids = some (ml0, ψ))
    (hg : Grow (pullR ρ ids) ml0 ρ1 ml) (hr1 : Rel P ρ1 ml (pullF m ρ ψ F s) R s') (h : merge m ml ids = some m') :
    ∃ ρ', Grow ρ m ρ' m' ∧ Rel P ρ' m' F R s' ∧ RenTo (backF ids ids.length m.next) ρ1 ρ' := by
  obtain ⟨_, _, hnext, hok, hinv⟩ := pull_ok hr hp
  unfold merge at h
  cases hb : (Nat.blt (m.next + (ml.next - ids.length)) (2 ^ depthT) && Nat.ble ids.length ml.next) with
  | false => rw [hb] at h; cases h
  | true =>
  rw [hb] at h; simp only [cond_true] at h
  split at h <;> try (cases h; done)
  rename_i t ht
  simp only [Option.some.injEq] at h; subst h
  simp only [Bool.and_eq_true] at hb
  have hfit : m.next + (ml.next - ids.length) < 2 ^ depthT := by simpa [Nat.blt_eq] using hb.1
  have hle : ids.length ≤ ml.next := Nat.le_of_ble_eq_true hb.2
  have φlo : ∀ j, j < ids.length → backF ids ids.length m.next j = ids[j]? := by
    intro j hj; simp only [backF, show Nat.blt j ids.length = true from by simpa [Nat.blt_eq] using hj, cond_true]
  have φhi : ∀ j, ids.length ≤ j → backF ids ids.length m.next j = some (m.next + (j - ids.length)) := by
    intro j hj; simp only [backF, show Nat.blt j ids.length = false from by simpa [Nat.blt_eq, ← Bool.not_eq_true] using hj, cond_false]
  have hinj : ∀ j j' i, backF ids ids.length m.next j = some i → backF ids ids.length m.next j' = some i → j = j' := by
    intro j j' i h1 h2
    rcases Nat.lt_or_ge j ids.length with a | a <;> rcases Nat.lt_or_ge j' ids.length with b | b
    · rw [φlo j a] at h1; rw [φlo j' b] at h2
      have x := (hok j i h1).2; rw [(hok j' i h2).2] at x; cases x; rfl
    · rw [φlo j a] at h1; rw [φhi j' b] at h2; cases h2
      have := (hok j _ h1).1; omega
    · rw [φhi j a] at h1; rw [φlo j' b] at h2; cases h1
      have := (hok j' _ h2).1; omega
    · rw [φhi j a] at h1; rw [φhi j' b] at h2; rw [← h1] at h2; have := Option.some.inj h2; omega
  have hbd : ∀ j i, j < ml.next → backF ids ids.length m.next j = some i → i < 2 ^ depthT := by
    intro j i hj hi
    rcases Nat.lt_or_ge j ids.length with a | a
    · rw [φlo j a] at hi; exact Nat.lt_trans (hok j i hi).1 hr.fits
    · rw [φhi j a] at hi; cases hi; omega
  obtain ⟨g1, g2⟩ := mergeB_ok (N := ml.next) hinj hbd ml.next 0 m.t t (by omega) ht
  simp only [Nat.zero_add, Nat.zero_le, true_implies] at g1 g2
  let ρ' : Ren := fun i => if i < m.next then ρ i else ρ1 (ids.length + (i - m.next))
  have ρlo : ∀ i, i < m.next → ρ' i = ρ i := fun i hi => if_pos hi
  have ρhi : ∀ i, m.next ≤ i → ρ' i = ρ1 (ids.length + (i - m.next)) := fun i hi => if_neg (by omega)
  have hlt : ∀ i x, ρ i = some x → i < m.next := by
    intro i x hx
    rcases Nat.lt_or_ge i m.next with a | a
    · exact a
    · rw [hr.len i a] at hx; cases hx
  have hle' : ρ.le ρ' := fun i x hx => by rw [ρlo i (hlt i x hx)]; exact hx
  have hto : RenTo (backF ids ids.length m.next) ρ1 ρ' := by
    intro j i hj x hx
    rcases Nat.lt_or_ge j ids.length with a | a
    · rw [φlo j a] at hj
      have hs : pullR ρ ids j = ρ i := by simp only [pullR, hj]
      rw [ρlo i (hok j i hj).1]
      cases hρi : ρ i with
      | none =>
        have := hg.hole j (by rw [hnext]; exact a) (by rw [hs]; exact hρi)
        rw [hx] at this; cases this
      | some y =>
        have : ρ1 j = some y := hg.le j _ (by rw [hs]; exact hρi)
        rw [hx] at this; cases this; rfl
    · rw [φhi j a] at hj; cases hj
      rw [ρhi _ (by omega), show ids.length + (m.next + (j - ids.length) - m.next) = j from by omega]; exact hx
  -- what stands under a number of the new memory
  have hcase : ∀ i c, t.get i = some c → (∃ j b, j < ml.next ∧ backF ids ids.length m.next j = some i ∧ ml.t.get j = some b ∧ renC (backF ids ids.length m.next) b.o = some c.o ∧ c.ro = b.ro) ∨ (m.t.get i = some c ∧ ψ i = none) := by
    intro i c hi
    by_cases hh : ∃ j, j < ml.next ∧ backF ids ids.length m.next j = some i
    · obtain ⟨j, hj, hji⟩ := hh
      obtain ⟨i2, h1, h2⟩ := g2 j hj
      rw [hji] at h1; cases h1
      rcases h2 with ⟨_, h3⟩ | ⟨b, o, h3, h4, h5⟩
      · rw [hi] at h3; cases h3
      · rw [hi] at h5; cases h5
        exact .inl ⟨j, b, hj, hji, h3, h4, rfl⟩
    · refine .inr ⟨by rw [← g1 i (fun j hj e => hh ⟨j, hj, e⟩)]; exact hi, ?_⟩
      cases hψ : ψ i with
      | none => rfl
      | some j =>
        have h1 := hinv i j hψ
        have hjl : j < ids.length := (List.getElem?_eq_some_iff.1 h1).1
        exact absurd ⟨j, by omega, by rw [φlo j hjl]; exact h1⟩ hh
  refine ⟨ρ', ⟨hle', fun i hi hn => by rw [ρlo i hi]; exact hn, Nat.le_add_right _ _⟩, ⟨fun i hi => ?_, hfit, fun i hi => ?_, fun i c hi => ?_, fun i1 i2 c1 c2 b k1 k2 h1 h2 r1 r2 e1 e2 => ?_, fun x hx => hr1.frame x (.inl hx), fun i c b k o hi hro hρ hF => ?_, hr1.ro⟩, hto⟩
  · have hi : m.next + (ml.next - ids.length) ≤ i := hi
    rw [ρhi i (by omega)]; exact hr1.len _ (by omega)
  · have hi : m.next + (ml.next - ids.length) ≤ i := hi
    show t.get i = none
    rw [g1 i (fun j hj e => ?_)]
    · exact hr.out i (by omega)
    · rcases Nat.lt_or_ge j ids.length with a | a
      · rw [φlo j a] at e; have := (hok j i e).1; omega
      · rw [φhi j a] at e; cases e; omega
  · rcases hcase i c hi with ⟨j, b, hj, hji, hb1, hb2, hb3⟩ | ⟨h1, h2⟩
    · obtain ⟨bb, k, o', k1, k2, k3, k4⟩ := hr1.blk j b hb1
      exact ⟨bb, k, o', hto j i hji _ k1, renC_or hto hb2 k2, renC_room hb2 k3, by rw [hb3]; exact k4⟩
    · obtain ⟨bb, k, o', k1, k2, k3, k4⟩ := hr.blk i c h1
      refine ⟨bb, k, o', hle' _ _ k1, k2.up hle', k3, ?_⟩
      cases hc : c.ro with
      | true =>
        rw [hc, if_pos rfl] at k4
        rw [if_pos rfl, hr1.ro, ← hr.ro]; exact k4
      | false =>
        rw [hc, if_neg (by simp)] at k4
        rw [if_neg (by simp)]
        exact hr1.frame _ (.inr ⟨k4, i, c, k, h1, hc, k1, h2⟩)
  · rcases hcase i1 c1 h1 with ⟨j1, d1, a1, a2, a3, _, a5⟩ | ⟨a1, a2⟩ <;> rcases hcase i2 c2 h2 with ⟨j2, d2, b1, b2, b3, _, b5⟩ | ⟨b1, b2⟩
    · obtain ⟨bb1, q1, o1, x1, _⟩ := hr1.blk j1 d1 a3
      obtain ⟨bb2, q2, o2, x2, _⟩ := hr1.blk j2 d2 b3
      have y1 := hto j1 i1 a2 _ x1; rw [e1] at y1; cases y1
      have y2 := hto j2 i2 b2 _ x2; rw [e2] at y2; cases y2
      have := hr1.inj j1 j2 d1 d2 _ _ _ a3 b3 (a5 ▸ r1) (b5 ▸ r2) x1 x2
      subst this
      rw [a2] at b2; cases b2; rfl
    · exfalso
      obtain ⟨bb1, q1, o1, x1, _⟩ := hr1.blk j1 d1 a3
      have y1 := hto j1 i1 a2 _ x1; rw [e1] at y1; cases y1
      obtain ⟨bb2, q2, o2, x2, _, _, x4⟩ := hr.blk i2 c2 b1
      rw [r2, if_neg (by simp)] at x4
      have y2 := hle' _ _ x2; rw [e2] at y2; cases y2
      exact hr1.apart j1 d1 _ _ o2 a3 (a5 ▸ r1) x1 (.inr ⟨x4, i2, c2, _, b1, r2, x2, b2⟩)
    · exfalso
      obtain ⟨bb1, q1, o1, x1, _⟩ := hr1.blk j2 d2 b3
      have y1 := hto j2 i2 b2 _ x1; rw [e2] at y1; cases y1
      obtain ⟨bb2, q2, o2, x2, _, _, x4⟩ := hr.blk i1 c1 a1
      rw [r1, if_neg (by simp)] at x4
      have y2 := hle' _ _ x2; rw [e1] at y2; cases y2
      exact hr1.apart j2 d2 _ _ o2 b3 (b5 ▸ r2) x1 (.inr ⟨x4, i1, c1, _, a1, r1, x2, a2⟩)
    · obtain ⟨bb1, q1, o1, x1, _⟩ := hr.blk i1 c1 a1
      obtain ⟨bb2, q2, o2, x2, _⟩ := hr.blk i2 c2 b1
      have y1 := hle' _ _ x1; rw [e1] at y1; cases y1
      have y2 := hle' _ _ x2; rw [e2] at y2; cases y2
      exact hr.inj i1 i2 c1 c2 _ _ _ a1 b1 r1 r2 x1 x2
  · rcases hcase i c hi with ⟨j, d, a1, a2, a3, _, a5⟩ | ⟨a1, a2⟩
    · obtain ⟨bb1, q1, o1, x1, _⟩ := hr1.blk j d a3
      have y1 := hto j i a2 _ x1; rw [hρ] at y1; cases y1
      exact hr1.apart j d _ _ o a3 (a5 ▸ hro) x1 (.inl hF)
    · obtain ⟨bb1, q1, o1, x1, _⟩ := hr.blk i c a1
      have y1 := hle' _ _ x1; rw [hρ] at y1; cases y1
      exact hr.apart i c _ _ o a1 hro x1 hF

/-! ### A call on the part of the memory that its arguments reach -/
def renCR (φ : Nat → Option Nat) : CR → Option CR
  | .ret v => match renV φ v with
    | some w => some (.ret w)
    | none => none
  | .panic v => match renV φ v with
    | some w => some (.panic w)
    | none => none
theorem renCR_crr {φ : Nat → Option Nat} {ρ σ : Ren} (hφ : RenTo φ ρ σ) {r r' : CR} {en : Ending} (h : renCR φ r = some r') (hr : CRR ρ r en) : CRR σ r' en := by
  cases hr with
  | ret v v' hv =>
    simp only [renCR] at h
    split at h <;> try (cases h; done)
    rename_i w hw
    simp only [Option.some.injEq] at h; subst h
    exact .ret _ _ (renV_vr hφ hw hv)
  | panic v v' hv =>
    simp only [renCR] at h
    split at h <;> try (cases h; done)
    rename_i w hw
    simp only [Option.some.injEq] at h; subst h
    exact .panic _ _ (renV_vr hφ hw hv)
def localC (reach : List Value → Mem → List Nat) (call : CallT) : CallT
  | .yield l, args, m => call (.yield l) args m
  | .fn f, args, m => match pull m (reach args m) with
    | some (ml, ψ) => match renVs ψ args with
      | some as => match call (.fn f) as ml with
        | some (r, ml') => match merge m ml' (reach args m) with
          | some m' => match renCR (backF (reach args m) (reach args m).length m.next) r with
            | some r' => some (r', m')
            | none => none
          | none => none
        | none => none
      | none => none
    | none => none
theorem Follows.mono {C : Class} {P : Program} {post post' : Ending → St → Prop} (hp : ∀ en s, post en s → post' en s) : ∀ {nx : Next} {s : St}, Follows C P post nx s → Follows C P post' nx s := by
  intro nx s h
  cases nx with
  | enter f2 a2 => exact Fn.mono (show Fn C P f2 a2 s post from h) hp
  | round l f2 tm as bd =>
    intro main T hT c cs k1 k2
    exact h main T hT c cs (fun v s' hv => k1 v s' (hp _ _ hv)) (fun ch s' hv => k2 ch s' (hp _ _ hv))
  | _ => exact h.elim
theorem local_ok {C : Class} {P : Program} {reach : List Value → Mem → List Nat} {call : CallT} (hcall : CallOK C P call) : CallOK C P (localC reach call) := by
  intro t args m r m' h ρ args' s F R hargs hr g hg1 hg2
  cases t with
  | yield l => exact hcall _ _ _ _ _ h ρ args' s F R hargs hr g hg1 hg2
  | fn f =>
    simp only [localC] at h
    split at h <;> try (cases h; done)
    rename_i ml ψ hp
    split at h <;> try (cases h; done)
    rename_i as has
    split at h <;> try (cases h; done)
    rename_i r0 ml' hc
    split at h <;> try (cases h; done)
    rename_i m2 hm2
    split at h <;> try (cases h; done)
    rename_i r2 hr2
    simp only [Option.some.injEq, Prod.mk.injEq] at h
    obtain ⟨rfl, rfl⟩ := h
    obtain ⟨h1, h2, _⟩ := pull_ok hr hp
    refine tri_mono _ _ _ _ _ _ (fun nx s1 hf => ?_) (fun _ _ hh => hh) (hcall _ _ _ _ _ hc _ args' s _ R (renVs_vrs h1 has hargs) h2 g (fun i hi => ((by cases hi))) hg2)
    refine Follows.mono (fun en s' hen => ?_) hf
    obtain ⟨ρ1, k1, k2, k3⟩ := hen
    obtain ⟨ρ', j1, j2, j3⟩ := merge_ok hr hp k1 k2 hm2
    exact ⟨ρ', j1, j2, renCR_crr j3 hr2 k3⟩

/-! ### .. and only what its result reaches is kept -/
def compactC (reach : CR → Mem → Nat → List Nat) (call : CallT) : CallT := fun t args m => match call t args m with
  | some (r, m') => match pull m' (List.range m.next ++ reach r m' m.next) with
    | some (mc, ψ) => match renCR ψ r with
      | some r' => some (r', mc)
      | none => none
    | none => none
  | none => none
theorem compact_ok {C : Class} {P : Program} {reach : CR → Mem → Nat → List Nat} {call : CallT} (hcall : CallOK C P call) : CallOK C P (compactC reach call) := by
  intro t args m r m' h ρ args' s F R hargs hr g hg1 hg2
  simp only [compactC] at h
  split at h <;> try (cases h; done)
  rename_i r0 m0 hc
  split at h <;> try (cases h; done)
  rename_i mc ψ hp
  split at h <;> try (cases h; done)
  rename_i r' hr'
  simp only [Option.some.injEq, Prod.mk.injEq] at h
  obtain ⟨rfl, rfl⟩ := h
  refine tri_mono _ _ _ _ _ _ (fun nx s1 hf => ?_) (fun _ _ hh => hh) (hcall _ _ _ _ _ hc ρ args' s F R hargs hr g hg1 hg2)
  refine Follows.mono (fun en s' hen => ?_) hf
  obtain ⟨ρ1, k1, k2, k3⟩ := hen
  obtain ⟨h1, h2, h3, h4, _⟩ := pull_ok k2 hp
  have hlo : ∀ i, i < m.next → pullR ρ1 (List.range m.next ++ reach r0 m0 m.next) i = ρ1 i := by
    intro i hi
    simp only [pullR]
    rw [List.getElem?_append_left (by simpa using hi), List.getElem?_range hi]
  refine ⟨_, ⟨fun i x hx => ?_, fun i hi hn => ?_, ?_⟩, ⟨h2.len, h2.fits, h2.out, h2.blk, h2.inj, fun x hx => h2.frame x (.inl hx), fun i c b k o h5 h6 h7 h8 => h2.apart i c b k o h5 h6 h7 (.inl h8), h2.ro⟩, renCR_crr h1 hr' k3⟩
  · have hi : i < m.next := by
      rcases Nat.lt_or_ge i m.next with a | a
      · exact a
      · rw [hr.len i a] at hx; cases hx
    rw [hlo i hi]; exact k1.le i x hx
  · rw [hlo i hi]; exact k1.hole i hi hn
  · rw [h3]; simp
end Go.L
namespace Go.L
open Go Go.Conc
section rounds
variable {P : Program} {C : Class} {s : St}

/-- the loop of a range over a function, that one owns -/
def LoopAt (s : St) (l : Nat) (K : Loop → (Loop → St) → Prop) : Prop := ∃ L r Rr, s.rw = L ++ (l, .loop r) :: Rr ∧ K r fun r' => ⟨s.ro, L ++ (l, .loop r') :: Rr⟩
def endR (R : Ending → St → Prop) (l : Nat) (jump : Option Code) (s : St) : Prop :=
  LoopAt s l fun r up => R (.returned (.bool jump.isNone)) (up { r with state := if jump.isNone then .ready else .done, pending := jump })
def roundQ (R : Ending → St → Prop) (l : Nat) : Post
  | .normal, _, s => endR R l none s
  | .ret, _, s => endR R l (some .ret) s
  | .exit id, _, s => endR R l (some (.exit id)) s
  | .panic ch, a, s => a.defers = [] ∧ R (.panicked ch) s
  | _, _, _ => False
def beginQ (C : Class) (R : Ending → St → Prop) (l : Nat) (f : FuncId) (body : Code) : Post
  | .normal, a, s => LoopAt s l fun r up => r.state = .ready ∧ Wp C f (some l) body (roundQ R l) a (up { r with state := .busy })
  | .panic ch, a, s => a.defers = [] ∧ R (.panicked ch) s
  | _, _, _ => False

theorem t_getLoop {α : Type} {l : Nat} {L Rr : List (Nat × Obj)} {r : Loop} (hs : s.rw = L ++ (l, .loop r) :: Rr) {k : Loop → Sem α} {Q : α → St → Prop} {E : Halt → St → Prop} (hk : tri P (k r) s Q E) : tri P (Instr.getLoop l >>= k) s Q E := by
  simp only [Instr.getLoop, t_bind]
  exact t_getObj (o := .loop r) (.inr (by rw [hs]; exact mem_mid)) rfl rfl hk

theorem round_leave (hC : ∀ main T, C main T → Closed P main T) {main : Bool} {T : Goroutine → St → Prop} (hT : C main T) {fr c : Frame} {cs : List Frame} {l : Nat} {jump : Option Code} {R : Ending → St → Prop} (h1 : fr.kind = .normal)
    (hstep : ∀ w, stepG P main (G fr (c :: cs)) w = (let (r, es) := (Instr.endRound l jump).runT P w #[]; GStep.after (seen P fr.fn es) <| match r with
        | .ok v w => doReturn P main fr (c :: cs) none v w
        | .halt _ w => .ended (.stuck "range over a function: no such loop" (fr.pos P)) w))
    (hr : endR R l jump s) (hk : ∀ v s', R (.returned v) s' → T (G (c.finish v) cs) s') : T (G fr (c :: cs)) s := by
  obtain ⟨L, r, Rr, hs, hR⟩ := hr
  have htri : tri P (Instr.endRound l jump) s (fun v s' => R (.returned v) s') (fun _ _ => False) := by
    simp only [Instr.endRound]
    refine t_getLoop hs ?_
    exact t_setObj rfl hs rfl hR
  refine (hC main T hT).step _ _ rfl fun w hag => ?_
  obtain ⟨res, es, hrun, hl⟩ := tri_sound _ _ _ _ w #[] htri hag
  rw [Array.empty_append] at hrun
  cases res with
  | ok v w' =>
    obtain ⟨s', ht, hu⟩ := hl
    refine ⟨G (c.finish v) cs, w', seen P fr.fn es, s', ?_, rfl, ht.sub (seen_sub _ _ _), hk _ _ hu⟩
    rw [hstep, hrun]
    simp only [doReturn, h1, GStep.after, Array.append_empty, G]
  | halt _ _ => obtain ⟨_, _, hu⟩ := hl; exact hu.elim

theorem round_of_wp (hC : ∀ main T, C main T → Closed P main T) {l : Nat} {f : FuncId} {fn : Func} (hf : P.funcs[f]? = some fn) {tmps : Array Value} {assign body : Code} {R : Ending → St → Prop}
    (h : Wp C f (some l) assign (beginQ C R l f body) ⟨tmps, []⟩ s) : Round C l f tmps assign body s R := by
  intro main T hT cl cs k1 k2
  let b : Frame := { (default : Frame) with fn := f, kind := .normal, roundOf := some l }
  have henter : Frame.round l f tmps assign body .normal = fat b ⟨tmps, []⟩ [.code assign, .beginRound, .code body] := by simp [Frame.round, fat, b]
  rw [henter]
  have hpanic : ∀ ch a' s' todo, a'.defers = [] ∧ R (.panicked ch) s' → T (G { fat b a' todo with mode := .panicking ch } (cl :: cs)) s' := by
    intro ch a' s' todo q
    refine (hC main T hT).go rfl rfl (g' := G (cl.raise ch) cs) (fun w => ?_) (k2 _ _ q.2)
    have hnc : ∀ fr : Frame, fr.fn = f → fr.catches P = false := by
      intro fr hfr; simp [Frame.catches, hfr, hf]
    have := hnc { fat b a' todo with mode := .panicking ch } rfl
    simp only [fat, q.1] at this
    simp [G, stepG, unwind, fat, b, q.1, this]
  refine h main T hT b [.beginRound, .code body] (cl :: cs) rfl (by simp [b]) rfl fun e a' s' q => ?_
  cases e with
  | normal =>
    obtain ⟨L, r, Rr, hs, hst, hw⟩ := q
    have htri : tri P (do Instr.beginRound l; pure Next.skip : Sem Next) s' (fun nx s2 => nx = .skip ∧ s2 = ⟨s'.ro, L ++ (l, .loop { r with state := .busy }) :: Rr⟩) (fun _ _ => False) := by
      simp only [Instr.beginRound, t_bind]
      refine t_getLoop hs ?_
      simp only [t_bind]
      refine t_setObj rfl hs rfl ?_
      simp only [hst, t_pure]
      exact ⟨rfl, rfl⟩
    have hbody : T (G (fat b a' [.code body]) (cl :: cs)) ⟨s'.ro, L ++ (l, .loop { r with state := .busy }) :: Rr⟩ := by
      refine hw main T hT b [] (cl :: cs) rfl (by simp [b]) rfl fun e2 a2 s2 q2 => ?_
      cases e2 with
      | normal => exact round_leave hC hT (l := l) (jump := none) rfl (fun w => by simp [G, stepG, stepG.exec, fat, b]; rfl) q2 k1
      | ret => exact fun todo => round_leave hC hT (l := l) (jump := some .ret) rfl (fun w => by simp [G, stepG, stepG.exec, fat, b]; rfl) q2 k1
      | exit id => exact fun todo hto => round_leave hC hT (l := l) (jump := some (.exit id)) rfl (fun w => by simp [G, stepG, stepG.exec, fat, b, hto]; rfl) q2 k1
      | panic ch => exact fun todo => hpanic ch a2 s2 todo q2
      | goto l' => exact q2.elim
      | outgrown => exact q2.elim
    refine (hC main T hT).step _ _ rfl fun w hag => ?_
    obtain ⟨res, es, hrun, hl⟩ := tri_sound _ _ _ _ w #[] htri hag
    rw [Array.empty_append] at hrun
    cases res with
    | ok nx w' =>
      obtain ⟨s2, ht, rfl, rfl⟩ := hl
      refine ⟨G (fat b a' [.code body]) (cl :: cs), w', seen P f es, _, ?_, rfl, ht.sub (seen_sub _ _ _), hbody⟩
      have hstep : stepG P main (G (fat b a' [.beginRound, .code body]) (cl :: cs)) w = stepG.apply P true (fat b a' [.beginRound, .code body]) (cl :: cs) none (do Instr.beginRound l; pure Next.skip : Sem Next) w := rfl
      rw [hstep]
      simp only [stepG.apply, if_true, hrun]
      simp [GStep.after, Frame.finish, fat, b, G]
    | halt _ _ => obtain ⟨_, _, hu⟩ := hl; exact hu.elim
  | panic ch => exact fun todo => hpanic ch a' s' todo q
  | ret => exact q.elim
  | exit id => exact q.elim
  | goto l => exact q.elim
  | outgrown => exact q.elim
end rounds
end Go.L
namespace Go.L
open Go Go.Conc
section rounds
variable {P : Program} {C : Class} {s : St}

def markOf (bd : Nat) : Deferred := { target := .collected bd, args := #[] }
def newLoop (fn : FuncId) (tmps : Array Value) (params : Array Tmp) (assign body : Code) (bd : Nat) : Loop := { state := .ready, pending := none, fn, tmps, params, assign, body, defers := bd }
/-- how it goes on behind the iterator -/
def afterIter (Q : Post) (a : Act) (l : Nat) : Ending → St → Prop
  | .returned _, s => LoopAt s l fun r up => r.state ≠ .busy ∧ (match r.pending with
      | none => Q .normal a (up { r with state := .exhausted })
      | some .ret => Q .ret a (up { r with state := .exhausted })
      | some (.exit id) => Q (.exit id) a (up { r with state := .exhausted })
      | _ => False)
  | .panicked ch, s => Q (.panic ch) a s
  | .outgrown, _ => False

theorem wp_rangeFunc (hC : ∀ main T, C main T → Closed P main T) {fn : FuncId} {x : Operand} {params : Array Tmp} {assign body : Code} {Q : Post} {a : Act} {g : FuncId} {fi ca : Array Value} (hx : a.eval x = .func (.func g) fi ca) (ff : FF P g)
    (h : ∀ bd bl, ¬ s.knows bd → ¬ (⟨s.ro, (bd, .deferred (some [])) :: s.rw⟩ : St).knows bl →
      Fn C P g (fi ++ #[.func (.yield bl) #[] #[]] ++ ca) ⟨s.ro, (bl, .loop (newLoop fn a.tmps params assign body bd)) :: (bd, .deferred (some [])) :: s.rw⟩ (afterIter Q { a with defers := markOf bd :: a.defers } bl)) :
    Wp C fn none (.rangeFunc x params assign body) Q a s := by
  intro main T hT b k cs h1 h2 h3 h4
  have hcl := hC main T hT
  have hk : (b.kind == CallKind.early) = false := by simpa using h2
  -- the one step: the loop is made, the iterator is entered
  have htri : tri P (Instr.enterLoop fn a.tmps params assign body none) s (fun r s' => ∃ bd bl, ¬ s.knows bd ∧ ¬ (⟨s.ro, (bd, .deferred (some [])) :: s.rw⟩ : St).knows bl ∧ r = (bl, [markOf bd]) ∧ s' = ⟨s.ro, (bl, .loop (newLoop fn a.tmps params assign body bd)) :: (bd, .deferred (some [])) :: s.rw⟩) (fun _ _ => False) := by
    simp only [Instr.enterLoop, t_bind, t_newObj, t_pure]
    intro bd hbd
    intro bl hbl
    exact ⟨bd, bl, hbd, hbl, rfl, rfl⟩
  refine hcl.step _ _ rfl fun w hag => ?_
  obtain ⟨res, es, hrun, hl⟩ := tri_sound _ _ _ _ w #[] htri hag
  rw [Array.empty_append] at hrun
  cases res with
  | halt _ _ => obtain ⟨_, _, hu⟩ := hl; exact hu.elim
  | ok r w1 =>
    obtain ⟨s1, ht1, bd, bl, hbd, hbl, rfl, rfl⟩ := hl
    have htri2 : tri P (callFunc g (fi ++ #[.func (.yield bl) #[] #[]] ++ ca)) ⟨s.ro, (bl, .loop (newLoop fn a.tmps params assign body bd)) :: (bd, .deferred (some [])) :: s.rw⟩ (fun nx s2 => nx = .enter g (fi ++ #[.func (.yield bl) #[] #[]] ++ ca) ∧ s2 = ⟨s.ro, (bl, .loop (newLoop fn a.tmps params assign body bd)) :: (bd, .deferred (some [])) :: s.rw⟩) (fun _ _ => False) := t_callFunc ff ⟨rfl, rfl⟩
    obtain ⟨res2, es2, hrun2, hl2⟩ := tri_sound _ _ _ _ w1 #[] htri2 ht1.agr
    rw [Array.empty_append] at hrun2
    cases res2 with
    | halt _ _ => obtain ⟨_, _, hu⟩ := hl2; exact hu.elim
    | ok nx w2 =>
      obtain ⟨s2, ht2, rfl, rfl⟩ := hl2
      let fr' : Frame := fat b { a with defers := markOf bd :: a.defers } (.inRangeFunc bl :: k)
      refine ⟨G (Frame.enter P g (fi ++ #[.func (.yield bl) #[] #[]] ++ ca) .normal) (fr' :: cs), w2, seen P b.fn es ++ seen P b.fn es2, _, ?_, rfl, (ht1.sub (seen_sub _ _ _)).trans (ht2.sub (seen_sub _ _ _)), ?_⟩
      · have hev : (fat b { a with defers := markOf bd :: a.defers } (.inRangeFunc bl :: k)).eval x = .func (.func g) fi ca := by rw [fat_eval]; exact hx
        have hdo : (do let d ← resolve (fat b { a with defers := markOf bd :: a.defers } (.inRangeFunc bl :: k)).eval { callee := .value x, args := #[.const (.func (.yield bl) #[] #[])], argTypes := #[] } 0; invoke d.target d.args : Sem Next) = callFunc g (fi ++ #[.func (.yield bl) #[] #[]] ++ ca) := by
          have hm : Array.map (fat b { a with defers := markOf bd :: a.defers } (.inRangeFunc bl :: k)).eval #[Operand.const (.func (.yield bl) #[] #[])] = #[.func (.yield bl) #[] #[]] := by simp [Frame.eval]
          simp only [resolve, hev, Deferred.ofValue]
          rw [hm]
          rfl
        have hst : stepG P main (G (fat b a (.code (.rangeFunc x params assign body) :: k)) cs) w =
            (let (r, es) := (Instr.enterLoop b.fn a.tmps params assign body b.roundOf).runT P w #[]
             GStep.after (seen P b.fn es) <| match r with
              | .ok (l, mark) w =>
                stepG.apply P true (fat b { a with defers := mark ++ a.defers } (.inRangeFunc l :: k)) cs none (do let d ← resolve (fat b { a with defers := mark ++ a.defers } (.inRangeFunc l :: k)).eval { callee := .value x, args := #[.const (.func (.yield l) #[] #[])], argTypes := #[] } 0; invoke d.target d.args) w
              | .halt _ w => .ended (.stuck "range over a function: no such loop" ((fat b a (.code (.rangeFunc x params assign body) :: k)).pos P)) w) := rfl
        rw [hst, h1, h3, hrun]
        simp only [List.singleton_append]
        rw [hdo]
        simp only [stepG.apply, if_true, hrun2]
        simp only [fat, hk, Bool.false_eq_true, if_false, GStep.after, h1]
        simp [G, fr', fat, h1]
      · refine h bd bl hbd hbl main T hT fr' cs (fun v s' hv => ?_) (fun ch s' hv => h4 _ _ _ hv _)
        obtain ⟨L, r, Rr, hs, hnb, hq⟩ := hv
        have hend : ∀ (jump : Option Code), r.pending = jump → T (G (fat b { a with defers := markOf bd :: a.defers } ((jump.map Item.code).toList ++ k)) cs) ⟨s'.ro, L ++ (bl, .loop { r with state := .exhausted }) :: Rr⟩ → T (G (fr'.finish v) cs) s' := by
          intro jump hj hT'
          have htri3 : tri P (Instr.endLoop bl) s' (fun j s2 => j = jump ∧ s2 = ⟨s'.ro, L ++ (bl, .loop { r with state := .exhausted }) :: Rr⟩) (fun _ _ => False) := by
            simp only [Instr.endLoop]
            refine t_getLoop hs ?_
            have hbq : (r.state == LoopState.busy) = false := by simpa using hnb
            simp only [hbq, Bool.false_eq_true, if_false, t_bind, t_pure]
            exact t_setObj rfl hs rfl ⟨hj, rfl⟩
          refine hcl.step _ _ rfl fun w hag => ?_
          obtain ⟨res, es, hrun, hl⟩ := tri_sound _ _ _ _ w #[] htri3 hag
          rw [Array.empty_append] at hrun
          cases res with
          | halt _ _ => obtain ⟨_, _, hu⟩ := hl; exact hu.elim
          | ok j w' =>
            obtain ⟨s2, ht, rfl, rfl⟩ := hl
            refine ⟨_, w', seen P b.fn es, _, ?_, rfl, ht.sub (seen_sub _ _ _), hT'⟩
            have hst3 : stepG P main (G (fr'.finish v) cs) w = (let (r, es) := (Instr.endLoop bl).runT P w #[]
              GStep.after (seen P b.fn es) <| match r with
              | .ok jump w => .go (G (fat b { a with defers := markOf bd :: a.defers } ((jump.map Item.code).toList ++ k)) cs) w
              | .halt (.panic v) w => .go (G ((fat b { a with defers := markOf bd :: a.defers } (.endRangeFunc bl :: k)).raise [{ v, recovered := false }]) cs) w
              | .halt _ w => .ended (.stuck "range over a function: no such loop" ((fat b { a with defers := markOf bd :: a.defers } (.endRangeFunc bl :: k)).pos P)) w) := rfl
            rw [hst3, hrun]
            simp [GStep.after]
        split at hq
        · rename_i hp; exact hend none hp (h4 _ _ _ hq)
        · rename_i hp; exact hend _ hp (h4 _ _ _ hq k)
        · rename_i id hp
          refine hend _ hp ?_
          have h' := h4 _ _ _ hq
          simp only [After] at h'
          cases hk2 : exitTo id k with
          | some k' =>
            rw [hk2] at h'
            exact hcl.go rfl rfl (g' := G (fat b { a with defers := markOf bd :: a.defers } k') cs) (fun w => by simp [G, stepG, stepG.exec, fat, hk2]) h'
          | none => rw [hk2] at h'; exact h' k hk2
        · exact hq.elim
end rounds
end Go.L
namespace Go.L
open Go Go.Conc
section marks
variable {P : Program} {C : Class} {s : St}
theorem unwind_mark (hC : ∀ main T, C main T → Closed P main T) {main : Bool} {T : Goroutine → St → Prop} (hT : C main T) {fr : Frame} {cs : List Frame} (hm : fr.mode = .returning ∨ ∃ ch, fr.mode = .panicking ch) {bd : Nat} {ds : List Deferred} (hd : fr.defers = markOf bd :: ds)
    {L Rr : List (Nat × Obj)} (hs : s.rw = L ++ (bd, .deferred (some [])) :: Rr) (h : T (G { fr with defers := ds } cs) ⟨s.ro, L ++ (bd, .deferred none) :: Rr⟩) : T (G fr cs) s := by
  have htri : tri P (Instr.takeDeferred bd) s (fun c s2 => c = [] ∧ s2 = ⟨s.ro, L ++ (bd, .deferred none) :: Rr⟩) (fun _ _ => False) := by
    simp only [Instr.takeDeferred]
    refine t_getObj (o := .deferred (some [])) (.inr (by rw [hs]; exact mem_mid)) rfl rfl ?_
    exact t_setObj rfl hs rfl ⟨rfl, rfl⟩
  refine (hC main T hT).step _ _ rfl fun w hag => ?_
  obtain ⟨res, es, hrun, hl⟩ := tri_sound _ _ _ _ w #[] htri hag
  rw [Array.empty_append] at hrun
  cases res with
  | halt _ _ => obtain ⟨_, _, hu⟩ := hl; exact hu.elim
  | ok c w' =>
    obtain ⟨s2, ht, rfl, rfl⟩ := hl
    refine ⟨_, w', seen P fr.fn es, _, ?_, rfl, ht.sub (seen_sub _ _ _), h⟩
    rcases fr with ⟨fn', tmps, todo, defers, mode, kind, ro⟩
    simp only at hm hd
    subst hd
    rcases hm with rfl | ⟨ch, rfl⟩
    · simp only [G, stepG, unwind, markOf, hrun, GStep.after, Array.append_empty, List.nil_append]
    · simp only [G, stepG, unwind, markOf, hrun, GStep.after, Array.append_empty, List.nil_append]
end marks
end Go.L
namespace Go.L
open Go Go.Conc

/-! ### What a frame has put off: loops over functions leave a mark, 'defer' a call -/
inductive CD where
  | mark (i : Nat)
  | call (f : FuncId) (args ca : List Value)
inductive DRs (ρ : Ren) : List CD → List Deferred → Prop
  | nil : DRs ρ [] []
  | mark (i b c : Nat) (l : List CD) (l' : List Deferred) : ρ i = some (b, c) → DRs ρ l l' → DRs ρ (.mark i :: l) (markOf b :: l')
  | call (f : FuncId) (a a' ca ca' : List Value) (l : List CD) (l' : List Deferred) : VRs ρ a a' → VRs ρ ca ca' → DRs ρ l l' → DRs ρ (.call f a ca :: l) ({ target := .fn (.func f) ⟨ca'⟩, args := ⟨a'⟩ } :: l')
theorem DRs.up {ρ ρ' : Ren} (hl : ρ.le ρ') : ∀ {l : List CD} {l' : List Deferred}, DRs ρ l l' → DRs ρ' l l'
  | _, _, .nil => .nil
  | _, _, .mark i b c l l' h1 h2 => .mark i b c l l' (hl _ _ h1) (h2.up hl)
  | _, _, .call f a a' ca ca' l l' h1 h2 h3 => .call f a a' ca ca' l l' (h1.up hl) (h2.up hl) (h3.up hl)

inductive CEx where
  | normal
  | exit (id : Nat)
  | ret
  | panic (v : Value)
structure CS where
  x : CEx
  ce : Env
  m : Mem
  ds : List CD
abbrev Outs := Option (List CS)
def ofRO (ds : List CD) : RO → CS
  | .done ce m => ⟨.normal, ce, m, ds⟩
  | .panic v ce m => ⟨.panic v, ce, m, ds⟩
def bindL (k : Env → Mem → List CD → Outs) : List CS → Outs
  | [] => some []
  | ⟨.normal, ce, m, ds⟩ :: l => match k ce m ds with
    | some a => match bindL k l with
      | some b => some (a ++ b)
      | none => none
    | none => none
  | r :: l => match bindL k l with
    | some b => some (r :: b)
    | none => none
/-- one outcome: straight on (so that the kernel's depth does not grow with a loop's rounds) -/
def bindO (k : Env → Mem → List CD → Outs) : Outs → Outs
  | none => none
  | some [] => some []
  | some (r :: l) => match l with
    | [] => match r.x with
      | .normal => k r.ce r.m r.ds
      | _ => some [r]
    | _ => bindL k (r :: l)
def iterC (f : Env → Mem → List CD → Outs) : Nat → Env → Mem → List CD → Outs
  | 0, _, _, _ => none
  | k + 1, ce, m, ds => bindO (iterC f k) (f ce m ds)
def leaveB (id : Nat) : CS → CS
  | ⟨.exit id', ce, m, ds⟩ => bif Nat.beq id' id then ⟨.normal, ce, m, ds⟩ else ⟨.exit id', ce, m, ds⟩
  | r => r
/-- a deferred call -/
def deferV (n : Nat) (ce : Env) : Op → Option CD
  | .defer ⟨.value x, xs, _⟩ => match evc n ce x with
    | some (.func (.func f) ⟨fi⟩ ⟨ca⟩) => match evcL n ce xs.toList with
      | some vs => some (.call f (fi ++ vs) ca)
      | none => none
    | _ => none
  | _ => none
def isNextM : Op → Bool
  | .next _ false => true
  | _ => false
def runL (P : Program) (call : CallT) (ops : Array Oper) (n : Nat) (l : List Nat) (ds : List CD) (dst : Option Tmp) (ce : Env) : List (Value × Mem) → Outs
  | [] => some []
  | (v, m) :: r => match runOps P call ops n l (updc dst v ce) m with
    | some ro => match runL P call ops n l ds dst ce r with
      | some b => some (ofRO ds ro :: b)
      | none => none
    | none => none
def tailI : Nat → List Nat
  | 0 => []
  | k + 1 => (List.range k).map (· + 1)
/-- a region in the order of its text -/
def execR (P : Program) (call : CallT) (top : Bool) (n : Nat) (ops : Array Oper) (ce : Env) (m : Mem) (ds : List CD) : Outs :=
  match ops.back? with
  | none => some [⟨.normal, ce, m, ds⟩]
  | some lo => match lo.op with
    | .defer _ => match runOps P call ops n (List.range (ops.size - 1)) ce m with
      | some (.done ce' m') => match lo.guard, deferV n ce' lo.op with
        | none, some d => bif top then some [⟨.normal, updc lo.dst undef ce', m', d :: ds⟩] else none
        | _, _ => none
      | some (.panic v ce' m') => some [⟨.panic v, ce', m', ds⟩]
      | none => none
    | _ => match ops[0]? with
      | some o => bif isNextM o.op then (match o.guard, nextM n ce m o.op with
        | none, some outs => runL P call ops n (tailI ops.size) ds o.dst ce outs
        | _, _ => none) else (match runOps P call ops n (List.range ops.size) ce m with
          | some ro => some [ofRO ds ro]
          | none => none)
      | none => none
/-- behind the iterator of a loop over a function -/
def afterR (l : Nat) (ce : Env) (ds : List CD) : Option (CR × Mem) → Outs
  | some (.ret _, m) => match m.t.get l with
    | some ⟨false, .loop st pend fn n env params assign body d⟩ => bif (st != .busy) then (match pend with
      | none => some [⟨.normal, ce, m.set l (.loop .exhausted pend fn n env params assign body d), ds⟩]
      | some .ret => some [⟨.ret, ce, m.set l (.loop .exhausted pend fn n env params assign body d), ds⟩]
      | some (.exit id) => some [⟨.exit id, ce, m.set l (.loop .exhausted pend fn n env params assign body d), ds⟩]
      | _ => none) else none
    | _ => none
  | some (.panic v, m) => some [⟨.panic v, ce, m, ds⟩]
  | none => none
def execC (P : Program) (call : CallT) (fid : FuncId) (top : Bool) (n LF : Nat) : Code → Env → Mem → List CD → Outs
  | .skip, ce, m, ds => some [⟨.normal, ce, m, ds⟩]
  | .label _, ce, m, ds => some [⟨.normal, ce, m, ds⟩]
  | .scope b, ce, m, ds => execC P call fid top n LF b ce m ds
  | .ret, ce, m, ds => some [⟨.ret, ce, m, ds⟩]
  | .exit id, ce, m, ds => some [⟨.exit id, ce, m, ds⟩]
  | .seq a b, ce, m, ds => bindO (execC P call fid top n LF b) (execC P call fid top n LF a ce m ds)
  | .cond c a b, ce, m, ds => match evc n ce c with
    | some (.bool true) => execC P call fid top n LF a ce m ds
    | some (.bool false) => execC P call fid top n LF b ce m ds
    | _ => none
  | .block id b, ce, m, ds => match execC P call fid top n LF b ce m ds with
    | some l => some (l.map (leaveB id))
    | none => none
  | .loop b, ce, m, ds => iterC (execC P call fid top n LF b) LF ce m ds
  | .region _ ops false, ce, m, ds => execR P call top n ops ce m ds
  | .region _ ops true, ce, m, ds => bif depsOk ops && dstsApart ops then (match runAny P call ops n ce (planOf ops) [] [] [] [] m with
    | some ro => some [ofRO ds ro]
    | none => none) else none
  | .rangeFunc x params assign body, ce, m, ds => match evc n ce x with
    | some (.func (.func g) ⟨fi⟩ ⟨ca⟩) => bif top && (ffB P g && (m.more && (m.add (.defer false)).more)) then
        afterR (m.next + 1) ce (.mark m.next :: ds) (call (.fn g) (fi ++ [.func (.yield (m.next + 1)) #[] #[]] ++ ca) ((m.add (.defer false)).add (.loop .ready none fid n ce params assign body m.next))) else none
    | _ => none
  | _, _, _, _ => none

/-- How the exits correspond, the panic aside. -/
inductive XR : CEx → Exit → Prop
  | normal : XR .normal .normal
  | exit (id : Nat) : XR (.exit id) (.exit id)
  | ret : XR .ret .ret
structure XPost (P : Program) (n : Nat) (F : Nat × Obj → Prop) (R : Nat → Option Obj) (ρ : Ren) (m0 : Mem) (r : CS) (Q : Post) : Prop where
  plain : ∀ x ρ' e' D' s', XR r.x x → Grow ρ m0 ρ' r.m → ER ρ' r.ce e' → DRs ρ' r.ds D' → Rel P ρ' r.m F R s' → Q x (A n e' D') s'
  panic : ∀ v, r.x = .panic v → ∀ ρ' v' e' rest D' s', Grow ρ m0 ρ' r.m → VR ρ' v v' → ER ρ' r.ce e' → DRs ρ' r.ds D' → Rel P ρ' r.m F R s' → Q (.panic [{ v := v', recovered := false }]) (A n (e' ++ rest) D') s'
theorem XPost.up {P : Program} {n : Nat} {F : Nat × Obj → Prop} {R : Nat → Option Obj} {ρ ρ' : Ren} {m m' : Mem} {r : CS} {Q : Post} (h : XPost P n F R ρ m r Q) (hl : Grow ρ m ρ' m') : XPost P n F R ρ' m' r Q :=
  ⟨fun x ρ2 e' D' s' hx h2 => h.plain x ρ2 e' D' s' hx (hl.trans h2), fun v hr ρ2 v' e' rest D' s' h2 => h.panic v hr ρ2 v' e' rest D' s' (hl.trans h2)⟩
theorem XPost.mono {P : Program} {n : Nat} {F : Nat × Obj → Prop} {R : Nat → Option Obj} {ρ : Ren} {m : Mem} {r : CS} {Q Q' : Post} (h : XPost P n F R ρ m r Q) (hq : ∀ e a s, Q e a s → Q' e a s) : XPost P n F R ρ m r Q' :=
  ⟨fun x ρ2 e' D' s' hx h2 h3 h4 h5 => hq _ _ _ (h.plain x ρ2 e' D' s' hx h2 h3 h4 h5), fun v hr ρ2 v' e' rest D' s' h2 h3 h4 h5 h6 => hq _ _ _ (h.panic v hr ρ2 v' e' rest D' s' h2 h3 h4 h5 h6)⟩
theorem post_of {P : Program} {n : Nat} {ds : List CD} {D : List Deferred} {F : Nat × Obj → Prop} {R : Nat → Option Obj} {ρ : Ren} {r : RO} {Q : Post} {m0 : Mem} (hd : DRs ρ ds D) (h : XPost P n F R ρ m0 (ofRO ds r) Q) : Post' P n D F R ρ m0 r Q := by
  cases r with
  | done ce m => exact ⟨fun ce' m' hr ρ' e' s' hl he hrel => by cases hr; exact h.plain _ ρ' e' D s' .normal hl he (hd.up hl.le) hrel, fun v ce m' hr => by cases hr⟩
  | panic v ce m => exact ⟨fun ce' m' hr => (by cases hr), fun v' ce' m' hr ρ' v2 e' rest s' hl hv he hrel => by cases hr; exact h.panic _ rfl ρ' v2 e' rest D s' hl hv he (hd.up hl.le) hrel⟩

section code
variable {P : Program} {C : Class} {fn : FuncId} {rnd : Option Nat} {n LF : Nat} {F : Nat × Obj → Prop} {R : Nat → Option Obj} {call : CallT}

def LoopWp (C : Class) (fn : FuncId) (rnd : Option Nat) (c : Code) (Q : Post) (a : Act) (s : St) : Prop :=
  ∀ main T, C main T → ∀ (b : Frame) (k : List Item) (cs : List Frame), b.fn = fn → b.kind ≠ .early → b.roundOf = rnd →
    (∀ e a' s', Q e a' s' → After T b k cs e a' s') → T (G (fat b a (.code c :: .inLoop c :: k)) cs) s
theorem wp_loop_head {Q : Post} {a : Act} {s : St} (hC : ∀ main T, C main T → Closed P main T) {c : Code} (h : LoopWp C fn rnd c Q a s) : Wp C fn rnd (.loop c) Q a s :=
  fun main T hT b k cs h1 h2 h3 h4 => (hC main T hT).go rfl rfl (g' := G (fat b a (.code c :: .inLoop c :: k)) cs) (fun w => by simp [G, stepG, stepG.exec, fat]) (h main T hT b k cs h1 h2 h3 h4)
theorem loop_step {Q : Post} {a : Act} {s : St} (hC : ∀ main T, C main T → Closed P main T) {c : Code} (h : Wp C fn rnd c (thenQ (fun a' s' => LoopWp C fn rnd c Q a' s') Q) a s) : LoopWp C fn rnd c Q a s := by
  intro main T hT b k cs h1 h2 h3 h4
  refine h main T hT b (.inLoop c :: k) cs h1 h2 h3 fun e a' s' q => ?_
  cases e with
  | normal => exact (hC main T hT).go rfl rfl (g' := G (fat b a' (.code c :: .inLoop c :: k)) cs) (fun w => by simp [G, stepG, stepG.exec, fat]) (q main T hT b k cs h1 h2 h3 h4)
  | exit id => exact (h4 _ _ _ q).push rfl (by simp)
  | ret => exact (h4 _ _ _ q).push (x := .inLoop c) rfl (by simp)
  | panic ch => exact (h4 _ _ _ q).push (x := .inLoop c) rfl (by simp)
  | goto l => exact (h4 _ _ _ q).elim
  | outgrown => exact (h4 _ _ _ q).elim

theorem wp_scope {Q : Post} {a : Act} {s : St} (hC : ∀ main T, C main T → Closed P main T) {c : Code} (h : Wp C fn rnd c Q a s) : Wp C fn rnd (.scope c) Q a s := by
  intro main T hT b k cs h1 h2 h3 h4
  refine (hC main T hT).go rfl rfl (g' := G (fat b a (.code c :: .inScope c :: k)) cs) (fun w => by simp [G, stepG, stepG.exec, fat]) ?_
  refine h main T hT b (.inScope c :: k) cs h1 h2 h3 fun e a' s' q => ?_
  cases e with
  | normal => exact (hC main T hT).go rfl rfl (g' := G (fat b a' k) cs) (fun w => by simp [G, stepG, stepG.exec, fat]) (h4 _ _ _ q)
  | exit id =>
    have hh : exitTo id (.inScope c :: k) = exitTo id k := rfl
    have := h4 _ _ _ q
    simp only [After, hh] at this ⊢
    exact this
  | ret => exact h4 _ _ _ q
  | panic ch => exact h4 _ _ _ q
  | goto l => exact (h4 _ _ _ q).elim
  | outgrown => exact (h4 _ _ _ q).elim
theorem wp_label {Q : Post} {a : Act} {s : St} (hC : ∀ main T, C main T → Closed P main T) {l : Nat} (h : Q .normal a s) : Wp C fn rnd (.label l) Q a s :=
  fun main T hT b k cs _ _ _ h4 => (hC main T hT).go rfl rfl (g' := G (fat b a k) cs) (fun w => by simp [G, stepG, stepG.exec, fat]) (h4 _ _ _ h)

def CodeOK (P : Program) (n : Nat) (f : Env → Mem → List CD → Outs) (W : Post → Act → St → Prop) : Prop :=
  ∀ {ρ : Ren} {ce e : Env} {m : Mem} {ds : List CD} {D : List Deferred} {s : St} {rs : List CS} {Q : Post} {F : Nat × Obj → Prop} {R : Nat → Option Obj}, f ce m ds = some rs → ER ρ ce e → DRs ρ ds D → Rel P ρ m F R s → (∀ r ∈ rs, XPost P n F R ρ m r Q) → W Q (A n e D) s

/-- one piece behind another -/
theorem bind_post {k : Env → Mem → List CD → Outs} {W : Post → Act → St → Prop} (hk : CodeOK P n k W) : ∀ {l rs : List CS} {ρ : Ren} {m : Mem} {Q : Post}, bindL k l = some rs → (∀ r ∈ rs, XPost P n F R ρ m r Q) → ∀ r ∈ l, XPost P n F R ρ m r (thenQ (fun a s => W Q a s) Q)
  | [], rs, ρ, m, Q, h, hQ, r, hr => by cases hr
  | r0 :: l, rs, ρ, m, Q, h, hQ, r, hr => by
    rcases r0 with ⟨x, ce, m', ds⟩
    have hother : (∀ (rs' : List CS), bindL k l = some rs' → (∀ r ∈ rs', XPost P n F R ρ m r Q) → ∀ r ∈ l, XPost P n F R ρ m r (thenQ (fun a s => W Q a s) Q)) := fun rs' h1 h2 => bind_post hk h1 h2
    cases x with
    | normal =>
      simp only [bindL] at h
      split at h <;> try (cases h; done)
      rename_i a ha
      split at h <;> try (cases h; done)
      rename_i b hb
      simp only [Option.some.injEq] at h; subst h
      rcases List.mem_cons.1 hr with rfl | hr
      · refine ⟨fun x ρ' e' D' s' hx hl he hd hrel => ?_, fun v hv => by cases hv⟩
        cases hx
        exact hk ha he hd hrel fun r hr => (hQ r (by simp [hr])).up hl
      · exact hother b hb (fun r hr => hQ r (by simp [hr])) r hr
    | _ =>
      simp only [bindL] at h
      split at h <;> try (cases h; done)
      rename_i b hb
      simp only [Option.some.injEq] at h; subst h
      rcases List.mem_cons.1 hr with rfl | hr
      · have := hQ _ (List.mem_cons_self)
        refine ⟨fun x ρ' e' D' s' hx hl he hd hrel => ?_, fun v hv ρ' v' e' rest D' s' hl hvr he hd hrel => ?_⟩
        · have h2 := this.plain x ρ' e' D' s' hx hl he hd hrel
          cases hx <;> exact h2
        · exact this.panic v hv ρ' v' e' rest D' s' hl hvr he hd hrel
      · exact hother b hb (fun r hr => hQ r (by simp [hr])) r hr

theorem bind_postO {k : Env → Mem → List CD → Outs} {W : Post → Act → St → Prop} (hk : CodeOK P n k W) {l rs : List CS} {ρ : Ren} {m : Mem} {Q : Post} (h : bindO k (some l) = some rs) (hQ : ∀ r ∈ rs, XPost P n F R ρ m r Q) : ∀ r ∈ l, XPost P n F R ρ m r (thenQ (fun a s => W Q a s) Q) := by
  cases l with
  | nil => intro r hr; cases hr
  | cons r0 l =>
    cases l with
    | nil =>
      refine bind_post hk (rs := rs) ?_ hQ
      rcases r0 with ⟨x, ce, m', ds⟩
      cases x with
      | normal =>
        simp only [bindO] at h
        simp only [bindL, h, List.append_nil]
      | _ =>
        simp only [bindO, Option.some.injEq] at h
        subst h
        rfl
    | cons r1 l => exact bind_post hk h hQ

theorem iterC_ok (hC : ∀ main T, C main T → Closed P main T) {c : Code} {f : Env → Mem → List CD → Outs} (hf : CodeOK P n f (Wp C fn rnd c)) : ∀ (k : Nat), CodeOK P n (iterC f k) (LoopWp C fn rnd c) := by
  intro k
  induction k with
  | zero => intro ρ ce e m ds D s rs Q F R h; cases h
  | succ k ih =>
    intro ρ ce e m ds D s rs Q F R h he hd hr hQ
    simp only [iterC] at h
    refine loop_step hC ?_
    cases h1 : f ce m ds with
    | none => rw [h1] at h; cases h
    | some l =>
      rw [h1] at h
      exact hf h1 he hd hr (bind_postO ih h hQ)

/-! #### Regions -/
theorem runL_post {ops : Array Oper} {l : List Nat} {ds : List CD} {dst : Option Tmp} {ce : Env} : ∀ {outs : List (Value × Mem)} {rs : List CS}, runL P call ops n l ds dst ce outs = some rs → ∀ v m, (v, m) ∈ outs → ∃ ro, runOps P call ops n l (updc dst v ce) m = some ro ∧ ofRO ds ro ∈ rs
  | [], rs, h, v, m, hm => by cases hm
  | (v0, m0) :: r, rs, h, v, m, hm => by
    simp only [runL] at h
    split at h <;> try (cases h; done)
    rename_i ro hro
    split at h <;> try (cases h; done)
    rename_i b hb
    simp only [Option.some.injEq] at h; subst h
    rcases List.mem_cons.1 hm with e | hm
    · cases e; exact ⟨ro, hro, by simp⟩
    · obtain ⟨ro2, h1, h2⟩ := runL_post hb v m hm
      exact ⟨ro2, h1, by simp [h2]⟩
theorem range_tail : ∀ k, 0 < k → List.range k = 0 :: tailI k
  | k + 1, _ => by simp [tailI, List.range_succ_eq_map]

/-- runOps, with operations behind -/
theorem runOps_app (hC : ∀ main T, C main T → Closed P main T) (hcall : CallOK C P call) {ops : Array Oper} {D : List Deferred} {Q : Post} (l2 : List Nat) : ∀ (l : List Nat) {ρ : Ren} {ce e : Env} {m : Mem} {s : St} {r : RO}, runOps P call ops n l ce m = some r → ER ρ ce e → Rel P ρ m F R s →
    (∀ ce' m', r = .done ce' m' → ∀ ρ' e' s', Grow ρ m ρ' m' → ER ρ' ce' e' → Rel P ρ' m' F R s' → OpsWp C fn rnd ops l2 Q (A n e' D) s') →
    (∀ v ce' m', r = .panic v ce' m' → ∀ ρ' v' e' rest s', Grow ρ m ρ' m' → VR ρ' v v' → ER ρ' ce' e' → Rel P ρ' m' F R s' → Q (.panic [{ v := v', recovered := false }]) (A n (e' ++ rest) D) s') → OpsWp C fn rnd ops (l ++ l2) Q (A n e D) s
  | [], ρ, ce, e, m, s, r, h, he, hr, hd, hp => by
    simp only [runOps, Option.some.injEq] at h; subst h
    exact hd _ _ rfl ρ e s (Grow.refl _ _) he hr
  | i :: l, ρ, ce, e, m, s, r, h, he, hr, hd, hp => by
    simp only [runOps] at h
    split at h <;> try (cases h; done)
    rename_i o ho
    have key : ∀ r0, stepOp P call ops n ce m o = some r0 → (match r0 with | .go v m' => runOps P call ops n l (updc o.dst v ce) m' | .panic v m' => some (.panic v ce m')) = some r → OpsWp C fn rnd ops (i :: (l ++ l2)) Q (A n (e ++ []) D) s := by
      intro r0 hs h
      refine stepOp_ok hC hcall ho [] he hr hs (fun v m' v' ρ' s' hr0 hl hv hr' => ?_) (fun v m' v' ρ' s' hr0 hl hv hr' => ?_)
      · subst hr0
        simp only at h
        rw [List.append_nil, updc_A]
        exact runOps_app hC hcall l2 l h ((he.up hl.le).updc _ hv) hr' (fun ce' m2 hr2 ρ2 e2 s2 hg => hd ce' m2 hr2 ρ2 e2 s2 (hl.trans hg)) (fun v2 ce' m2 hr2 ρ2 v3 e2 rest s2 hg => hp v2 ce' m2 hr2 ρ2 v3 e2 rest s2 (hl.trans hg))
      · subst hr0
        simp only [Option.some.injEq] at h; subst h
        exact hp _ _ _ rfl ρ' v' e [] s' hl hv (he.up hl.le) hr'
    rw [List.append_nil] at key
    split at h <;> try (cases h; done)
    · rename_i v m' hs; exact key _ hs h
    · rename_i v m' hs; exact key _ hs h

theorem execR_ok (hC : ∀ main T, C main T → Closed P main T) (hcall : CallOK C P call) {top : Bool} (htop : top = true → rnd = none) (ops : Array Oper) : CodeOK P n (execR P call top n ops) (fun Q a s => OpsWp C fn rnd ops (List.range ops.size) Q a s) := by
  intro ρ ce e m ds D s rs Q F R h he hd hr hQ
  unfold execR at h
  split at h
  · rename_i hb
    simp only [Option.some.injEq] at h; subst h
    have h0 : ops.size = 0 := by
      rcases Nat.eq_zero_or_pos ops.size with h0 | h0
      · exact h0
      · rw [Array.back?_eq_getElem?, Array.getElem?_eq_getElem (by omega)] at hb; cases hb
    rw [h0]
    exact ops_nil hC ((hQ _ (List.mem_singleton.2 rfl)).plain _ ρ e D s .normal (Grow.refl _ _) he hd hr)
  · rename_i lo hlo
    have hsz : 0 < ops.size := by
      rcases Nat.eq_zero_or_pos ops.size with h0 | h0
      · rw [Array.back?_eq_getElem?, Array.getElem?_eq_none (by omega)] at hlo; cases hlo
      · exact h0
    have hlast : ops[ops.size - 1]? = some lo := by rw [← Array.back?_eq_getElem?]; exact hlo
    split at h
    · rename_i cdef hdef
      have hrange : List.range ops.size = List.range (ops.size - 1) ++ [ops.size - 1] := by
        have : ops.size = (ops.size - 1) + 1 := by omega
        rw [this, List.range_succ]; simp
      rw [hrange]
      split at h <;> try (cases h; done)
      · rename_i ce' m' hro
        split at h <;> try (cases h; done)
        rename_i d hg hdv
        cases htp : top with
        | false => rw [htp] at h; cases h
        | true =>
        rw [htp] at h; simp only [cond_true, Option.some.injEq] at h; subst h
        refine runOps_app hC hcall _ _ hro he hr (fun ce2 m2 hr2 ρ' e' s' hl he' hr' => ?_) (fun v ce2 m2 hr2 => by cases hr2)
        cases hr2
        -- the deferred call itself
        rw [hdef] at hdv
        unfold deferV at hdv
        split at hdv <;> try (cases hdv; done)
        rename_i x xs at_ heq
        split at hdv <;> try (cases hdv; done)
        rename_i f0 fi ca hx
        split at hdv <;> try (cases hdv; done)
        rename_i vs hvs
        simp only [Option.some.injEq] at hdv; subst hdv
        obtain ⟨x', j1, j2⟩ := he'.evc hx
        obtain ⟨vs', k1, k2⟩ := he'.evcL hvs
        cases j2
        rename_i fi' ca' hp hfi hca
        have hev : Ev n e' (ev n e') := fun _ _ h => ev_of h
        have heo : lo.op = .defer ⟨.value x, xs, at_⟩ := by rw [hdef, heq]
        refine ops_op hC hlast (wanted_eq _ _ _ _ _ (by rw [hg]; rfl)) (.inl (htop htp)) ?_
        rw [A_eval]
        simp only [execOp, heo, resolve, hev _ _ j1, Deferred.ofValue, t_pure, hev.arr k1]
        refine ⟨htop htp, ?_⟩
        have hA : ({ A n e' D with defers := { target := .fn (.func f0) ⟨ca'⟩, args := (⟨fi'⟩ : Array Value) ++ ⟨vs'⟩ } :: (A n e' D).defers } : Act).put lo.dst undef = A n (updc lo.dst undef e') ({ target := .fn (.func f0) ⟨ca'⟩, args := ⟨fi' ++ vs'⟩ } :: D) := by
          rw [← updc_A, ← A_put]
          have : (⟨fi'⟩ : Array Value) ++ ⟨vs'⟩ = ⟨fi' ++ vs'⟩ := by simp
          rw [this]; rfl
        rw [hA]
        exact ops_nil hC ((hQ _ (List.mem_singleton.2 rfl)).plain _ ρ' _ _ s' .normal hl (he'.updc _ vr_undef) (.call _ _ _ _ _ _ _ (hfi.append k2) hca (hd.up hl.le)) hr')
      · rename_i v ce' m' hro
        simp only [Option.some.injEq] at h; subst h
        refine runOps_app hC hcall _ _ hro he hr (fun ce2 m2 hr2 => by cases hr2) (fun v2 ce2 m2 hr2 ρ' v' e' rest s' hl hv he' hr' => ?_)
        cases hr2
        exact (hQ _ (List.mem_singleton.2 rfl)).panic _ rfl ρ' v' e' rest D s' hl hv he' (hd.up hl.le) hr'
    · split at h <;> try (cases h; done)
      rename_i o ho
      cases hnx : isNextM o.op with
      | true =>
        rw [hnx] at h; simp only [cond_true] at h
        split at h <;> try (cases h; done)
        rename_i outs hg hno
        rw [range_tail _ hsz]
        refine o_step hC ho (by rw [hg]; rfl) (fun c e2 => by rw [e2] at hnx; cases hnx) ?_
        refine nextM_ok he hr hno _ (fun _ _ h => ev_of h) _ _ fun v m' hm nx v' ρ' s' hnv hl hv hr' => ?_
        obtain ⟨ro, h1, h2⟩ := runL_post h v m' hm
        have := runOps_ok (fn := fn) (rnd := rnd) hC hcall _ h1 ((he.up hl.le).updc o.dst hv) hr' (post_of (hd.up hl.le) ((hQ _ h2).up hl))
        rcases hnv with rfl | ⟨rfl, rfl⟩
        · show OpsWp _ _ _ _ _ _ _ _
          rw [A_put, updc_A]; exact this
        · show OpsWp _ _ _ _ _ _ _ _
          rw [A_put, updc_A]; exact this
      | false =>
        rw [hnx] at h; simp only [cond_false] at h
        split at h <;> try (cases h; done)
        rename_i ro hro
        simp only [Option.some.injEq] at h; subst h
        exact runOps_ok hC hcall _ hro he hr (post_of hd (hQ _ (List.mem_singleton.2 rfl)))
end code
end Go.L
namespace Go.L
open Go Go.Conc

section code
variable {P : Program} {C : Class} {fn : FuncId} {rnd : Option Nat} {n LF : Nat} {call : CallT}

theorem fn_of_call (hcall : CallOK C P call) {g : FuncId} (hff : ffB P g = true) {args : List Value} {m : Mem} {r : CR} {m' : Mem} (h : call (.fn g) args m = some (r, m')) {ρ : Ren} {args' : List Value} {s : St} {F : Nat × Obj → Prop} {R : Nat → Option Obj} (ha : VRs ρ args args') (hr : Rel P ρ m F R s) :
    Fn C P g ⟨args'⟩ s (fun en s' => ∃ ρ', Grow ρ m ρ' m' ∧ Rel P ρ' m' F R s' ∧ CRR ρ' r en) := by
  have := hcall _ _ _ _ _ h ρ args' s F R ha hr id (fun i hi => ((by cases hi))) (fun f hf => by cases hf; exact ffB_ok hff)
  obtain ⟨fn, h1, h2, h3⟩ := (ffB_ok hff).ff
  simp only [callSem, callFunc, t_program, h1, h2, h3, Bool.false_eq_true, if_false] at this
  exact this

theorem execC_ok (hC : ∀ main T, C main T → Closed P main T) (hm : P.follows .mixedOrders = true) (hcall : CallOK C P call) {top : Bool} (htop : top = true → rnd = none) : ∀ (c : Code), CodeOK P n (execC P call fn top n LF c) (Wp C fn rnd c) := by
  intro c
  induction c with
  | skip => intro ρ ce e m ds D s rs Q F R h he hd hr hQ; simp only [execC, Option.some.injEq] at h; subst h; exact wp_skip hC ((hQ _ (List.mem_singleton.2 rfl)).plain _ ρ e D s .normal (Grow.refl _ _) he hd hr)
  | ret => intro ρ ce e m ds D s rs Q F R h he hd hr hQ; simp only [execC, Option.some.injEq] at h; subst h; exact wp_ret ((hQ _ (List.mem_singleton.2 rfl)).plain _ ρ e D s .ret (Grow.refl _ _) he hd hr)
  | exit id => intro ρ ce e m ds D s rs Q F R h he hd hr hQ; simp only [execC, Option.some.injEq] at h; subst h; exact wp_exit hC ((hQ _ (List.mem_singleton.2 rfl)).plain _ ρ e D s (.exit id) (Grow.refl _ _) he hd hr)
  | seq a b iha ihb =>
    intro ρ ce e m ds D s rs Q F R h he hd hr hQ
    simp only [execC] at h
    refine wp_seq hC ?_
    cases h1 : execC P call fn top n LF a ce m ds with
    | none => rw [h1] at h; cases h
    | some l =>
      rw [h1] at h
      exact iha h1 he hd hr (bind_postO ihb h hQ)
  | cond c a b iha ihb =>
    intro ρ ce e m ds D s rs Q F R h he hd hr hQ
    simp only [execC] at h
    split at h
    · rename_i hc
      obtain ⟨b', k1, k2⟩ := he.evc hc
      cases k2
      exact wp_then hC k1 rfl (iha h he hd hr hQ)
    · rename_i hc
      obtain ⟨b', k1, k2⟩ := he.evc hc
      cases k2
      exact wp_else hC k1 rfl (ihb h he hd hr hQ)
    · cases h
  | block id b ih =>
    intro ρ ce e m ds D s rs Q F R h he hd hr hQ
    simp only [execC] at h
    refine wp_block hC ?_
    split at h <;> try (cases h; done)
    rename_i l hl
    simp only [Option.some.injEq] at h; subst h
    refine ih hl he hd hr fun r hr0 => ?_
    have hq := hQ (leaveB id r) (List.mem_map.2 ⟨r, hr0, rfl⟩)
    rcases r with ⟨x, ce', m', ds'⟩
    refine ⟨fun x0 ρ' e' D' s' hx hl he' hd' hr' => ?_, fun v hv ρ' v' e' rest D' s' hl hvr he' hd' hr' => ?_⟩
    · cases hx with
      | normal => exact hq.plain _ ρ' e' D' s' .normal hl he' hd' hr'
      | ret => exact hq.plain _ ρ' e' D' s' .ret hl he' hd' hr'
      | exit id' =>
        cases hb : Nat.beq id' id with
        | true =>
          simp only [leaveB, hb, cond_true] at hq
          have := Nat.eq_of_beq_eq_true hb
          subst this
          exact blockQ_exit (hq.plain _ ρ' e' D' s' .normal hl he' hd' hr')
        | false =>
          simp only [leaveB, hb, cond_false] at hq
          exact blockQ_pass hb (hq.plain _ ρ' e' D' s' (.exit id') hl he' hd' hr')
    · simp only at hv; subst hv
      exact hq.panic v rfl ρ' v' e' rest D' s' hl hvr he' hd' hr'
  | loop b ih =>
    intro ρ ce e m ds D s rs Q F R h he hd hr hQ
    simp only [execC] at h
    exact wp_loop_head hC (iterC_ok hC ih LF h he hd hr hQ)
  | region id ops draw =>
    intro ρ ce e m ds D s rs Q F R h he hd hr hQ
    cases draw with
    | false =>
      simp only [execC] at h
      exact wp_region hC (execR_ok hC hcall htop ops h he hd hr hQ)
    | true =>
      simp only [execC] at h
      cases hdp : (depsOk ops && dstsApart ops) with
      | false => rw [hdp] at h; cases h
      | true =>
        rw [hdp] at h; simp only [cond_true] at h
        simp only [Bool.and_eq_true] at hdp
        split at h <;> try (cases h; done)
        rename_i ro hro
        simp only [Option.some.injEq] at h; subst h
        refine wp_region_draw hC fun t => ?_
        rw [hm]
        exact runAny_ok (m0 := m) (ρ0 := ρ) (F := F) (R := R) hC hcall hdp.2 _ hro rfl ⟨rfl, rfl, fun j hj => ((by cases hj)), rfl, fun k v hk => ((by cases hk)), fun k v hk => ((by cases hk)), Nat.le_refl _, fun a ha => ((by cases ha))⟩ (post_of hd (hQ _ (List.mem_singleton.2 rfl))) _ [] ρ e e s ⟨Grow.refl _ _, fun i hi => ((by cases hi)), fun i v hi => ((by cases hi)), fun i v hi => ((by cases hi)), fun t _ => rfl, fun i hi => ((by cases hi)), he, hr, fun a ha => ((by cases ha))⟩ (lin_schedule hdp.1 t)
  | rangeFunc x params assign body _ _ =>
    intro ρ ce e m ds D s rs Q F R h he hd hr hQ
    simp only [execC] at h
    split at h <;> try (cases h; done)
    rename_i g fi ca hx
    cases hc : (top && (ffB P g && (m.more && (m.add (.defer false)).more))) with
    | false => rw [hc] at h; cases h
    | true =>
    rw [hc] at h; simp only [cond_true] at h
    simp only [Bool.and_eq_true] at hc
    obtain ⟨htp, hff, hm1, hm2⟩ := hc
    obtain ⟨x', j1, j2⟩ := he.evc hx
    cases j2
    rename_i fi' ca' hp hfi hca
    have hrn := htop htp
    subst hrn
    refine wp_rangeFunc hC (a := A n e D) (x := x) (g := g) (fi := ⟨fi'⟩) (ca := ⟨ca'⟩) (by rw [A_eval]; exact ev_of j1) (ffB_ok hff) fun bd bl hbd hbl => ?_
    -- the two blocks more
    have hr1 := hr.add (k := 0) (o := .defer false) (o' := .deferred (some [])) hm1 hbd (.defer false) trivial
    have hg1 : Grow ρ m (ρ.put m.next (bd, 0)) (m.add (.defer false)) := .put _ hr.fresh rfl
    have hor : OR ((ρ.put m.next (bd, 0)).put (m.add (.defer false)).next (bl, 0)) (.loop .ready none fn n ce params assign body m.next) (.loop (newLoop fn (A n e D).tmps params assign body bd)) := by
      have hne : m.next ≠ (m.add (.defer false)).next := Nat.ne_of_lt (Nat.lt_succ_self _)
      refine .loop .ready none fn n ce e params assign body m.next bd 0 ?_ ?_
      · exact (he.up hg1.le).up (Ren.le_put _ hr1.fresh)
      · rw [Ren.put_ne _ _ hne]; exact Ren.put_same _ _ _
    have hr2 := hr1.add (k := 0) hm2 hbl hor trivial
    have hg2 : Grow (ρ.put m.next (bd, 0)) (m.add (.defer false)) ((ρ.put m.next (bd, 0)).put (m.add (.defer false)).next (bl, 0)) ((m.add (.defer false)).add (.loop .ready none fn n ce params assign body m.next)) := .put _ hr1.fresh rfl
    have hg := hg1.trans hg2
    have hnx : (m.add (.defer false)).next = m.next + 1 := rfl
    cases hcl : call (.fn g) (fi ++ [.func (.yield (m.next + 1)) #[] #[]] ++ ca) ((m.add (.defer false)).add (.loop .ready none fn n ce params assign body m.next)) with
    | none => rw [hcl] at h; cases h
    | some rm =>
    rcases rm with ⟨r, m3⟩
    rw [hcl] at h
    have hargs : VRs ((ρ.put m.next (bd, 0)).put (m.add (.defer false)).next (bl, 0)) (fi ++ [.func (.yield (m.next + 1)) #[] #[]] ++ ca) (fi' ++ [.func (.yield bl) #[] #[]] ++ ca') :=
      ((hfi.up hg.le).append (.cons _ _ _ _ (.yield _ bl 0 (Ren.put_same _ _ _)) .nil)).append (hca.up hg.le)
    have hfn := fn_of_call hcall hff hcl hargs hr2
    have harr : ((⟨fi'⟩ : Array Value) ++ #[.func (.yield bl) #[] #[]] ++ ⟨ca'⟩) = ⟨fi' ++ [.func (.yield bl) #[] #[]] ++ ca'⟩ := by apply Array.ext'; simp
    rw [harr]
    refine Fn.mono hfn fun en s' hen => ?_
    obtain ⟨ρ', k1, k2, k3⟩ := hen
    have hgr := hg.trans k1
    have hds : DRs ρ' (.mark m.next :: ds) (markOf bd :: D) := .mark _ bd 0 _ _ (k1.le _ _ (by rw [Ren.put_ne _ _ (by rw [hnx]; omega)]; exact Ren.put_same _ _ _)) (hd.up hgr.le)
    cases k3 with
    | ret v v' hv =>
      simp only [afterR] at h
      split at h <;> try (cases h; done)
      rename_i st pend fn2 n2 env2 params2 assign2 body2 d2 hml
      cases hst : (st != .busy) with
      | false => rw [hst] at h; cases h
      | true =>
      rw [hst] at h; simp only [cond_true] at h
      have hnb : st ≠ .busy := by intro e2; subst e2; cases hst
      obtain ⟨b, kk, o', L, Rr, hb, hor2, hroom, hs⟩ := k2.split hml
      have hbl2 : ρ' (m.next + 1) = some (bl, 0) := k1.le _ _ (Ren.put_same _ _ _)
      rw [hb] at hbl2; cases hbl2
      cases hor2
      rename_i e2 b2 c2 her2 hb2
      have hset := k2.set hml hb hs (OR.loop .exhausted pend fn2 n2 env2 e2 params2 assign2 body2 d2 b2 c2 her2 hb2) trivial
      have hgs : Grow ρ m ρ' (m3.set (m.next + 1) (.loop .exhausted pend fn2 n2 env2 params2 assign2 body2 d2)) := hgr.trans (.same rfl)
      refine ⟨L, _, Rr, hs, hnb, ?_⟩
      split at h <;> try (cases h; done)
      · simp only [Option.some.injEq] at h; subst h
        exact (hQ _ (List.mem_singleton.2 rfl)).plain _ ρ' e _ _ .normal hgs (he.up hgr.le) hds hset
      · simp only [Option.some.injEq] at h; subst h
        exact (hQ _ (List.mem_singleton.2 rfl)).plain _ ρ' e _ _ .ret hgs (he.up hgr.le) hds hset
      · simp only [Option.some.injEq] at h; subst h
        exact (hQ _ (List.mem_singleton.2 rfl)).plain _ ρ' e _ _ (.exit _) hgs (he.up hgr.le) hds hset
    | panic v v' hv =>
      simp only [afterR, Option.some.injEq] at h; subst h
      have := (hQ _ (List.mem_singleton.2 rfl)).panic _ rfl ρ' v' e [] _ _ hgr hv (he.up hgr.le) hds k2
      rw [List.append_nil] at this
      exact this
  | scope b ih =>
    intro ρ ce e m ds D s rs Q F R h he hd hr hQ
    simp only [execC] at h
    exact wp_scope hC (ih h he hd hr hQ)
  | label l => intro ρ ce e m ds D s rs Q F R h he hd hr hQ; simp only [execC, Option.some.injEq] at h; subst h; exact wp_label hC ((hQ _ (List.mem_singleton.2 rfl)).plain _ ρ e D s .normal (Grow.refl _ _) he hd hr)
  | goto l => intro ρ ce e m ds D s rs Q F R h; cases h
  | refuse w => intro ρ ce e m ds D s rs Q F R h; cases h
end code
end Go.L
namespace Go.L
open Go Go.Conc

/-! ### Results -/
def resV (P : Program) (n : Nat) (ce : Env) (m : Mem) : List ResultVar → Option (List Value)
  | [] => some []
  | .tmp t :: l => match evc n ce (.tmp t) with
    | some v => match resV P n ce m l with
      | some r => some (v :: r)
      | none => none
    | none => none
  | .cell t T :: l => match loadV P n ce m (.load T (.tmp t)) with
    | some v => match resV P n ce m l with
      | some r => some (v :: r)
      | none => none
    | none => none
section code
variable {P : Program} {C : Class} {fn : FuncId} {rnd : Option Nat} {n LF : Nat} {D : List Deferred} {F : Nat × Obj → Prop} {R : Nat → Option Obj} {call : CallT}
theorem resV_ok {ρ : Ren} {ce e : Env} {m : Mem} {s : St} (rest : Env) (he : ER ρ ce e) (hr : Rel P ρ m F R s) : ∀ {l : List ResultVar} {vs : List Value}, resV P n ce m l = some vs → ∃ vs', RetL P s n (e ++ rest) l vs' ∧ VRs ρ vs vs'
  | [], vs, h => by simp only [resV, Option.some.injEq] at h; subst h; exact ⟨[], .nil, .nil⟩
  | .tmp t :: l, vs, h => by
    simp only [resV] at h
    split at h <;> try (cases h; done)
    rename_i v hv
    split at h <;> try (cases h; done)
    rename_i r hr2
    simp only [Option.some.injEq] at h; subst h
    obtain ⟨v', k1, k2⟩ := he.evc hv
    obtain ⟨r', k3, k4⟩ := resV_ok rest he hr hr2
    exact ⟨v' :: r', .tmp (evo_app k1) k3, .cons _ _ _ _ k2 k4⟩
  | .cell t T :: l, vs, h => by
    simp only [resV] at h
    split at h <;> try (cases h; done)
    rename_i v hv
    split at h <;> try (cases h; done)
    rename_i r hr2
    simp only [Option.some.injEq] at h; subst h
    obtain ⟨r', k3, k4⟩ := resV_ok rest he hr hr2
    unfold loadV at hv
    simp only at hv
    split at hv <;> try (cases hv; done)
    rename_i i off hx
    split at hv <;> try (cases hv; done)
    rename_i rb c ty hm
    split at hv <;> try (cases hv; done)
    rename_i ti hti
    obtain ⟨by_, tf⟩ := tf_tinfo hti
    obtain ⟨p', k1, k2⟩ := he.evc hx
    cases k2
    rename_i b cc hb
    obtain ⟨b2, c2, o', hb2, hor, hhas⟩ := hr.has hm
    rw [hb] at hb2; cases hb2
    cases hor
    rename_i l' x' hl
    cases ha : ti.agg with
    | true =>
      rw [ha] at hv tf
      simp only [cond_true] at hv
      split at hv <;> try (cases hv; done)
      rename_i ws hws
      simp only [Option.some.injEq] at hv; subst hv
      obtain ⟨ws', k5, k6⟩ := hl.sub hws x'
      exact ⟨.agg ⟨ws'⟩ :: r', .agg tf (evo_app k1) ⟨_, _, _, hhas, k5⟩ k3, .cons _ _ _ _ (.agg _ _ k6) k4⟩
    | false =>
      rw [ha] at hv tf
      simp only [cond_false] at hv
      obtain ⟨w', k5, k6⟩ := hl.nth hv x'
      exact ⟨w' :: r', .cell tf (evo_app k1) ⟨_, _, _, hhas, k5⟩ k3, .cons _ _ _ _ k6 k4⟩
theorem packV_vr {ρ : Ren} {vs vs' : List Value} (h : VRs ρ vs vs') : VR ρ (packV vs) (packV vs') := by
  cases h with
  | nil => exact .tuple _ _ .nil
  | cons v v' l l' h1 h2 =>
    cases h2 with
    | nil => exact h1
    | cons w w' r r' h3 h4 => exact .tuple _ _ (.cons _ _ _ _ h1 (.cons _ _ _ _ h3 h4))
theorem tri_results {fn : Func} {s : St} {env : Env} {vs : List Value} {Q : Value → St → Prop} {E : Halt → St → Prop} (hr : RetL P s n env fn.results.toList vs) (h : Q (packV vs) s) : tri P (results fn (A n env []).tmps) s Q E := by
  unfold results
  rw [Array.mapM_eq_mapM_toList]
  simp only [map_eq_pure_bind, t_bind, t_pure]
  refine t_retL (D := []) hr ?_
  have : (if h : (⟨vs⟩ : Array Value).size = 1 then (⟨vs⟩ : Array Value)[0] else .tuple ⟨vs⟩) = packV vs := by
    match vs with
    | [] => rfl
    | [x] => rfl
    | x :: y :: l => simp [packV]
  have key : Q (if h : (⟨vs⟩ : Array Value).size = 1 then (⟨vs⟩ : Array Value)[0] else .tuple ⟨vs⟩) s := by rw [this]; exact h
  exact key
theorem seen_nil (P : Program) (f : FuncId) : seen P f #[] = #[] := by
  apply Array.eq_empty_of_size_eq_zero
  rcases Nat.eq_zero_or_pos (seen P f #[]).size with h | h
  · exact h
  · have := seen_sub P f #[] (seen P f #[])[0] (Array.getElem_mem h)
    simp at this

/-! ### Deferred calls -/
def recF (P : Program) (f : FuncId) : Option (Func × Tmp × Code) :=
  match P.funcs[f]? with
  | some fn => match fn.body with
    | some (.seq (.region _ ops false) rest) => match ops.toList with
      | [o] => match o.dst, o.op, o.guard with
        | some t, .call ⟨.builtin .recover, xs, _⟩, none => bif xs.isEmpty && (fn.results.isEmpty && !(fn.name == "runtime.NumGoroutine")) then some (fn, t, rest) else none
        | _, _, _ => none
      | _ => none
    | _ => none
  | none => none
structure RecOK (P : Program) (f : FuncId) (fn : Func) (t : Tmp) (rest : Code) : Prop where
  ex : P.funcs[f]? = some fn ∧ fn.results = #[] ∧ (fn.name == "runtime.NumGoroutine") = false ∧ ∃ id o at_, fn.body = some (.seq (.region id #[o] false) rest) ∧ o.dst = some t ∧ o.op = .call ⟨.builtin .recover, #[], at_⟩ ∧ o.guard = none
theorem recF_ok {f : FuncId} {fn : Func} {t : Tmp} {rest : Code} (h : recF P f = some (fn, t, rest)) : RecOK P f fn t rest := by
  unfold recF at h
  split at h <;> try (cases h; done)
  rename_i fn0 hfn
  split at h <;> try (cases h; done)
  rename_i id ops rest0 hb
  split at h <;> try (cases h; done)
  rename_i o ho
  split at h <;> try (cases h; done)
  rename_i t0 xs at_ h1 h2 h3
  cases hc : (xs.isEmpty && (fn0.results.isEmpty && !(fn0.name == "runtime.NumGoroutine"))) with
  | false => rw [hc] at h; cases h
  | true =>
    rw [hc] at h; simp only [cond_true, Option.some.injEq, Prod.mk.injEq] at h
    obtain ⟨rfl, rfl, rfl⟩ := h
    simp only [Bool.and_eq_true, Bool.not_eq_true', Array.isEmpty_iff] at hc
    obtain ⟨rfl, c2, c3⟩ := hc
    refine ⟨hfn, c2, c3, id, o, at_, ?_, h1, h2, h3⟩
    rw [hb]
    have : ops = #[o] := by apply Array.ext'; simpa using ho
    rw [this]
/-- what a frame does that is left: by a return, or by a panic -/
inductive UM where
  | ret
  | panic (v : Value)
inductive MR (ρ : Ren) : UM → FrameMode → Prop
  | ret : MR ρ .ret .returning
  | panic (v v' : Value) : VR ρ v v' → MR ρ (.panic v) (.panicking [{ v := v', recovered := false }])
def recV : UM → Value
  | .ret => .nilIface
  | .panic v => v
def runD (P : Program) (call : CallT) (LF : Nat) (f : FuncId) (args : List Value) (u : UM) (m : Mem) : Option Mem :=
  match recF P f with
  | some (fn, t, rest) => bif Nat.ble args.length fn.ntmps then (match execC P call f true fn.ntmps LF rest (updc (some t) (recV u) (envL 0 args)) m [] with
    | some [⟨.normal, _, m', []⟩] => some m'
    | some [⟨.ret, _, m', []⟩] => some m'
    | _ => none) else none
  | none => none

theorem envL_er {ρ : Ren} : ∀ {l l' : List Value} (i : Nat), VRs ρ l l' → ER ρ (envL i l) (envL i l')
  | _, _, _, .nil => .nil
  | _, _, i, .cons _ _ _ _ h1 h2 => .cons _ _ _ _ _ h1 (envL_er (i + 1) h2)

theorem deferred_step (hC : ∀ main T, C main T → Closed P main T) {main : Bool} {T : Goroutine → St → Prop} (hT : C main T) {fr : Frame} {cs : List Frame} {s : St} (hm : fr.mode = .returning ∨ ∃ ch, fr.mode = .panicking ch) {f : FuncId} (ff : FF P f) {a ca : Array Value} {ds : List Deferred}
    (hd : fr.defers = { target := .fn (.func f) ca, args := a } :: ds) (h : T (G (Frame.enter P f (a ++ ca) .deferred) ({ fr with defers := ds } :: cs)) s) : T (G fr cs) s := by
  have htri : tri P (invoke (.fn (.func f) ca) a) s (fun nx s2 => nx = .enter f (a ++ ca) ∧ s2 = s) (fun _ _ => False) := by
    simp only [invoke]
    exact t_callFunc ff ⟨rfl, rfl⟩
  refine (hC main T hT).step _ _ rfl fun w hag => ?_
  obtain ⟨res, es, hrun, hl⟩ := tri_sound _ _ _ _ w #[] htri hag
  rw [Array.empty_append] at hrun
  cases res with
  | halt _ _ => obtain ⟨_, _, hu⟩ := hl; exact hu.elim
  | ok c w' =>
    obtain ⟨s2, ht, rfl, rfl⟩ := hl
    refine ⟨_, w', seen P fr.fn es, _, ?_, rfl, ht.sub (seen_sub _ _ _), h⟩
    rcases fr with ⟨fn', tmps, todo, defers, mode, kind, ro⟩
    simp only at hm hd
    subst hd
    rcases hm with rfl | ⟨ch, rfl⟩
    · simp only [G, stepG, unwind, callDeferred, hrun, GStep.after, Array.append_empty]
      rfl
    · simp only [G, stepG, unwind, callDeferred, hrun, GStep.after, Array.append_empty]
      rfl

theorem recover_step (hC : ∀ main T, C main T → Closed P main T) {main : Bool} {T : Goroutine → St → Prop} (hT : C main T) {b fr : Frame} {cs : List Frame} {s : St} {a : Act} {o : Oper} {t : Tmp} {at_ : Array TypeId} {k : List Item} {ρ : Ren} {u : UM} (hbk : b.kind = .deferred) (hbr : b.roundOf = none)
    (h1 : o.dst = some t) (h2 : o.op = .call ⟨.builtin .recover, #[], at_⟩) (h3 : o.guard = none) (hu : MR ρ u fr.mode)
    (h : ∀ v' mode', VR ρ (recV u) v' ∨ (u = .ret ∧ v' = .nilIface) → (mode' = .returning ∨ ∃ v, mode' = .panicking [{ v := v, recovered := true }]) → T (G (fat b (a.put (some t) v') (.inRegion #[o] [] :: k)) ({ fr with mode := mode' } :: cs)) s) :
    T (G (fat b a (.inRegion #[o] [0] :: k)) (fr :: cs)) s := by
  have hw : Region.wanted o (yielded #[o] a.tmps) = true := by unfold Region.wanted; rw [h3]
  have hex : ∀ ρ', execOp ρ' o = pure .recover := by
    intro ρ'
    simp only [execOp, h2, resolve]
    rfl
  have hfin : ∀ v, (fat b a (.inRegion #[o] [0] :: k)).finish v = fat b (a.put (some t) v) (.inRegion #[o] [] :: k) := by
    intro v
    rw [fat_finish]
    have : ((#[o] : Array Oper)[0]?).bind (·.dst) = some t := by simpa using h1
    rw [this]
  have hstep : ∀ w, stepG P main (G (fat b a (.inRegion #[o] [0] :: k)) (fr :: cs)) w = stepG.apply P true (fat b a (.inRegion #[o] [0] :: k)) (fr :: cs) none (pure .recover) w := by
    intro w
    have he := fat_eval' b a (.inRegion #[o] [0] :: k)
    simp only [fat] at he
    have ho : (#[o] : Array Oper)[0]? = some o := by simp
    simp only [G, stepG, stepG.exec, fat, ho, Option.map_some, Option.getD_some, hw, if_true, stepG.oper, Frame.oper?, he, hbr, hex]
  rcases hmo : fr.mode with _ | _ | ch
  · rw [hmo] at hu; cases hu
  · rw [hmo] at hu
    cases hu
    have := h .nilIface .returning (.inr ⟨rfl, rfl⟩) (.inl rfl)
    rw [← hfin] at this
    refine (hC main T hT).go rfl rfl (fun w => ?_) this
    rw [hstep]
    have hfr : { fr with mode := FrameMode.returning } = fr := by rw [← hmo]
    rw [hfr]
    simp only [stepG.apply, if_true]
    show GStep.after (seen P _ _) _ = _
    simp [Sem.runT, pure, GStep.after, fat, hbk, hbr, tryRecover, hmo, G]
    exact seen_nil P b.fn
  · rw [hmo] at hu
    cases hu
    rename_i v v' hv
    have := h v' (.panicking [{ v := v', recovered := true }]) (.inl hv) (.inr ⟨v', rfl⟩)
    rw [← hfin] at this
    refine (hC main T hT).go rfl rfl (fun w => ?_) this
    rw [hstep]
    simp only [stepG.apply, if_true]
    show GStep.after (seen P _ _) _ = _
    simp [Sem.runT, pure, GStep.after, fat, hbk, hbr, tryRecover, hmo, G]
    exact seen_nil P b.fn

theorem deferred_ok (hC : ∀ main T, C main T → Closed P main T) (hm : P.follows .mixedOrders = true) (hcall : CallOK C P call) {main : Bool} {T : Goroutine → St → Prop} (hT : C main T) {fr : Frame} {cs : List Frame} {s : St} {ρ : Ren} {u : UM} {m m' : Mem} {f : FuncId} {a a' ca ca' : List Value} {ds : List Deferred}
    (hu : MR ρ u fr.mode) (hd : fr.defers = { target := .fn (.func f) ⟨ca'⟩, args := ⟨a'⟩ } :: ds) (ha : VRs ρ a a') (hca : VRs ρ ca ca') (hr : Rel P ρ m F R s) (h : runD P call LF f (a ++ ca) u m = some m')
    (hk : ∀ ρ' s', Grow ρ m ρ' m' → Rel P ρ' m' F R s' → T (G { fr with defers := ds, mode := .returning } cs) s') : T (G fr cs) s := by
  unfold runD at h
  split at h <;> try (cases h; done)
  rename_i fn t rest hrec
  obtain ⟨hf, hres, hnm, id, o, at_, hb, h1, h2, h3⟩ := (recF_ok hrec).ex
  cases hl : Nat.ble (a ++ ca).length fn.ntmps with
  | false => rw [hl] at h; cases h
  | true =>
  rw [hl] at h; simp only [cond_true] at h
  have ff : FF P f := ⟨fn, hf, hnm, by rw [hb]; rfl⟩
  have hmode : fr.mode = .returning ∨ ∃ ch, fr.mode = .panicking ch := by
    cases hmo : fr.mode with
    | run => rw [hmo] at hu; cases hu
    | returning => exact .inl rfl
    | panicking ch => exact .inr ⟨ch, rfl⟩
  refine deferred_step hC hT hmode ff hd ?_
  let b : Frame := { (default : Frame) with fn := f, kind := .deferred, roundOf := none }
  have hargs := ha.append hca
  have henter : Frame.enter P f ((⟨a'⟩ : Array Value) ++ ⟨ca'⟩) .deferred = fat b (A fn.ntmps (envL 0 (a' ++ ca')) []) [.code (.seq (.region id #[o] false) rest)] := by
    rw [← enter_A (a' ++ ca') fn.ntmps (by rw [← hargs.len]; exact Nat.le_of_ble_eq_true hl)]
    simp [Frame.enter, fat, hf, hb, b]
  rw [henter]
  have hcl := hC main T hT
  refine hcl.go rfl rfl (g' := G (fat b (A fn.ntmps (envL 0 (a' ++ ca')) []) [.code (.region id #[o] false), .code rest]) ({ fr with defers := ds } :: cs)) (fun w => by simp [G, stepG, stepG.exec, fat]) ?_
  refine hcl.go rfl rfl (g' := G (fat b (A fn.ntmps (envL 0 (a' ++ ca')) []) [.inRegion #[o] [0], .code rest]) ({ fr with defers := ds } :: cs)) (fun w => by simp [G, stepG, stepG.exec, fat, List.range, List.range.loop]) ?_
  refine recover_step hC hT (u := u) (ρ := ρ) rfl rfl h1 h2 h3 hu fun v' mode' hv hmode' => ?_
  refine hcl.go rfl rfl (g' := G (fat b ((A fn.ntmps (envL 0 (a' ++ ca')) []).put (some t) v') [.code rest]) ({ fr with defers := ds, mode := mode' } :: cs)) (fun w => by simp [G, stepG, stepG.exec, fat]) ?_
  have hvr : VR ρ (recV u) v' := by
    rcases hv with hv | ⟨rfl, rfl⟩
    · exact hv
    · exact .nilIface
  rw [A_put, updc_A]
  have hres' : ∀ tmps, results fn tmps = Sem.pure (.tuple #[]) := by intro tmps; simp [results, hres]; rfl
  -- the return of the deferred call
  have hret : ∀ (todo : List Item) (e' : Env) (ρ' : Ren) (s' : St), Grow ρ m ρ' m' → Rel P ρ' m' F R s' → T (G { fat b (A fn.ntmps e' []) todo with mode := .returning } ({ fr with defers := ds, mode := mode' } :: cs)) s' := by
    intro todo e' ρ' s' hg hr'
    refine hcl.go rfl rfl (fun w => ?_) (hk ρ' s' hg hr')
    rcases hmode' with rfl | ⟨v, rfl⟩
    · simp only [G, stepG, unwind, fat, A, b, hf, hres', Sem.runT, seen_nil]
      simp [GStep.after, doReturn]
    · simp only [G, stepG, unwind, fat, A, b, hf, hres', Sem.runT, seen_nil]
      simp [GStep.after, doReturn]
  have hrun : ∀ x ce, execC P call f true fn.ntmps LF rest (updc (some t) (recV u) (envL 0 (a ++ ca))) m [] = some [⟨x, ce, m', []⟩] → (x = .normal ∨ x = .ret) → T (G (fat b (A fn.ntmps (updc (some t) v' (envL 0 (a' ++ ca'))) []) [.code rest]) ({ fr with defers := ds, mode := mode' } :: cs)) s := by
    intro x ce hx hxx
    have := execC_ok (rnd := none) hC hm hcall (fun _ => rfl) rest (Q := fun e a s' => After T b [] ({ fr with defers := ds, mode := mode' } :: cs) e a s') hx ((envL_er 0 hargs).updc _ hvr) .nil hr (fun r hr0 => by
      rw [List.mem_singleton] at hr0; subst hr0
      refine ⟨fun x0 ρ' e' D' s' hxr hg he' hd' hr' => ?_, fun v hv => ?_⟩
      · cases hd'
        cases hxr with
        | normal => exact hcl.go rfl rfl (fun w => by simp [G, stepG, stepG.exec, fat, b]) (hret [] e' ρ' s' hg hr')
        | ret => exact fun todo => hcl.go rfl rfl (fun w => by simp [G, stepG, stepG.exec, fat, b]) (hret (.code .ret :: todo) e' ρ' s' hg hr')
        | exit id => rcases hxx with hxx | hxx <;> cases hxx
      · simp only at hv; subst hv; rcases hxx with hxx | hxx <;> cases hxx)
    exact this main T hT b [] _ rfl (by simp [b]) rfl (fun _ _ _ h => h)
  split at h <;> try (cases h; done)
  · rename_i ce m2 hx
    simp only [Option.some.injEq] at h; subst h
    exact hrun _ _ hx (.inl rfl)
  · rename_i ce m2 hx
    simp only [Option.some.injEq] at h; subst h
    exact hrun _ _ hx (.inr rfl)

/-- all that a frame has put off -/
def unwindC (P : Program) (call : CallT) (LF : Nat) : List CD → UM → Mem → Option (UM × Mem)
  | [], u, m => some (u, m)
  | .mark i :: ds, u, m => match m.t.get i with
    | some ⟨false, .defer false⟩ => unwindC P call LF ds u (m.set i (.defer true))
    | _ => none
  | .call f a ca :: ds, u, m => match runD P call LF f (a ++ ca) u m with
    | some m' => unwindC P call LF ds .ret m'
    | none => none
theorem unwind_ok (hC : ∀ main T, C main T → Closed P main T) (hm : P.follows .mixedOrders = true) (hcall : CallOK C P call) {main : Bool} {T : Goroutine → St → Prop} (hT : C main T) {cs : List Frame} : ∀ (ds : List CD) {fr : Frame} {s : St} {ρ : Ren} {u u' : UM} {m m' : Mem} {D : List Deferred},
    unwindC P call LF ds u m = some (u', m') → MR ρ u fr.mode → fr.defers = D → DRs ρ ds D → Rel P ρ m F R s →
    (∀ ρ' s' mode', Grow ρ m ρ' m' → MR ρ' u' mode' → Rel P ρ' m' F R s' → T (G { fr with defers := [], mode := mode' } cs) s') → T (G fr cs) s
  | [], fr, s, ρ, u, u', m, m', D, h, hu, hD, hd, hr, hk => by
    simp only [unwindC, Option.some.injEq, Prod.mk.injEq] at h
    obtain ⟨rfl, rfl⟩ := h
    cases hd
    have := hk ρ s fr.mode (Grow.refl _ _) hu hr
    have hfr : { fr with defers := [], mode := fr.mode } = fr := by rcases fr with ⟨_, _, _, _, _, _, _⟩; simp only at hD; subst hD; rfl
    rw [hfr] at this
    exact this
  | .mark i :: ds, fr, s, ρ, u, u', m, m', D, h, hu, hD, hd, hr, hk => by
    simp only [unwindC] at h
    split at h <;> try (cases h; done)
    rename_i hmi
    cases hd
    rename_i b c l' hb hd
    obtain ⟨b2, c2, o', L, Rr, hb2, hor, hroom, hs⟩ := hr.split hmi
    rw [hb] at hb2; cases hb2
    cases hor
    have hmode : fr.mode = .returning ∨ ∃ ch, fr.mode = .panicking ch := by
      cases hmo : fr.mode with
      | run => rw [hmo] at hu; cases hu
      | returning => exact .inl rfl
      | panicking ch => exact .inr ⟨ch, rfl⟩
    refine unwind_mark hC hT hmode hD (by simpa using hs) ?_
    have hset := hr.set hmi hb hs (.defer true) trivial
    refine unwind_ok hC hm hcall hT ds (fr := { fr with defers := l' }) h hu rfl hd (by simpa using hset) fun ρ' s' mode' hg h1 h2 => ?_
    exact hk ρ' s' mode' ((show Grow ρ m ρ (m.set i (.defer true)) from .same rfl).trans hg) h1 h2
  | .call f a ca :: ds, fr, s, ρ, u, u', m, m', D, h, hu, hD, hd, hr, hk => by
    simp only [unwindC] at h
    split at h <;> try (cases h; done)
    rename_i m1 hrun
    cases hd
    rename_i a' ca' l' ha hca hd
    refine deferred_ok hC hm hcall hT hu hD ha hca hr hrun fun ρ' s' hg hr' => ?_
    refine unwind_ok hC hm hcall hT ds (fr := { fr with defers := l', mode := .returning }) h .ret rfl (hd.up hg.le) hr' fun ρ2 s2 mode2 hg2 h1 h2 => ?_
    exact hk ρ2 s2 mode2 (hg.trans hg2) h1 h2
end code
end Go.L
namespace Go.L
open Go Go.Conc

/-! ### Maps whose order does not count any more -/
def keyI : Nat → Value → List Int
  | _ + 1, .bool b => [if b then 1 else 0]
  | _ + 1, .int _ n => [n]
  | _ + 1, .string b => (b.size : Int) :: b.data.toList.map fun x => (x.toNat : Int)
  | n + 1, .agg l => l.toList.flatMap (keyI n)
  | _, _ => []
def ltL : List Int → List Int → Bool
  | [], [] => false
  | [], _ => true
  | _, [] => false
  | a :: l, b :: m => bif decide (a < b) then true else bif decide (b < a) then false else ltL l m
def insE (x : MEnt) : List MEnt → List MEnt
  | [] => [x]
  | y :: l => bif ltL (keyI 12 x.key) (keyI 12 y.key) then x :: y :: l else y :: insE x l
def sortE : List MEnt → List MEnt
  | [] => []
  | x :: l => insE x (sortE l)
theorem insE_perm (x : MEnt) : ∀ l, (insE x l).Perm (x :: l)
  | [] => .refl _
  | y :: l => by
    simp only [insE]
    cases ltL (keyI 12 x.key) (keyI 12 y.key) with
    | true => exact .refl _
    | false => exact ((insE_perm x l).cons y).trans (.swap _ _ _)
theorem sortE_perm : ∀ l, (sortE l).Perm l
  | [] => .refl _
  | x :: l => (insE_perm x _).trans ((sortE_perm l).cons x)
def zeroE (e : MEnt) : MEnt := ⟨e.key, e.val, 0⟩
def bagE (es : List MEnt) : List MEnt := sortE (es.map zeroE)
def bagC : CObj → CObj
  | .map es _ => .bag (bagE es)
  | .bag es => .bag (bagE es)
  | o => o
theorem MRs.brs {ρ : Ren} : ∀ {es : List MEnt} {es' : List MapEntry}, MRs ρ es es' → BRs ρ (es.map zeroE) es'
  | _, _, .nil => .nil
  | _, _, .cons k k' v v' b l l' h1 h2 h3 => .cons _ _ _ _ _ _ _ _ h1 h2 h3.brs
theorem BRs.zero {ρ : Ren} : ∀ {es : List MEnt} {es' : List MapEntry}, BRs ρ es es' → BRs ρ (es.map zeroE) es'
  | _, _, .nil => .nil
  | _, _, .cons k k' v v' b b' l l' h1 h2 h3 => .cons _ _ _ _ _ _ _ _ h1 h2 h3.zero
theorem bagC_or {ρ : Ren} {o : CObj} {o' : Obj} (h : OR ρ o o') : OR ρ (bagC o) o' := by
  cases h with
  | map es es' k h => exact .bag _ _ _ _ (sortE_perm _) h.brs
  | bag es es1 es' k h1 h2 => exact .bag _ (es1.map zeroE) _ _ ((sortE_perm _).trans (h1.map _)) h2.zero
  | cells l l' x t h => exact .cells l l' x t h
  | strIter s p => exact .strIter s p
  | mapIter0 a b c => exact .mapIter0 a b c
  | mapIter i b c d e f h => exact .mapIter i b c d e f h
  | loop st pend fn n ce e params assign body i b c h1 h2 => exact .loop st pend fn n ce e params assign body i b c h1 h2
  | defer t => exact .defer t
theorem bagC_room {P : Program} {k : Nat} {o : CObj} {o' : Obj} (h : Room P k o o') : Room P k (bagC o) o' := by
  cases o <;> first | exact h | trivial
theorem Rel.conv {P : Program} {ρ : Ren} {m : Mem} {F : Nat × Obj → Prop} {R : Nat → Option Obj} {s : St} (h : Rel P ρ m F R s) {i : Nat} {c : CB} (hi : m.t.get i = some c) : Rel P ρ ⟨m.t.put depthT i (some ⟨c.ro, bagC c.o⟩), m.next⟩ F R s := by
  have hlt := h.lt hi
  have hg : ∀ j, (m.t.put depthT i (some ⟨c.ro, bagC c.o⟩)).get j = if j = i then some ⟨c.ro, bagC c.o⟩ else m.t.get j := fun j => Tr.get_put _ _ _ _ (Nat.lt_trans hlt h.fits) j
  have hb : ∀ j cj, (m.t.put depthT i (some ⟨c.ro, bagC c.o⟩)).get j = some cj → ∃ c0, m.t.get j = some c0 ∧ c0.ro = cj.ro ∧ (cj.o = c0.o ∨ cj.o = bagC c0.o) := by
    intro j cj hj
    rw [hg] at hj
    by_cases e : j = i
    · rw [if_pos e] at hj; cases hj; subst e; exact ⟨c, hi, rfl, .inr rfl⟩
    · rw [if_neg e] at hj; exact ⟨cj, hj, rfl, .inl rfl⟩
  refine ⟨h.len, h.fits, fun j hj => ?_, fun j cj hj => ?_, fun j1 j2 c1 c2 b k1 k2 h1 h2 r1 r2 e1 e2 => ?_, h.frame, fun j cj b k o hj hro hρ => ?_, h.ro⟩
  · have hj : m.next ≤ j := hj
    rw [hg, if_neg (by omega)]; exact h.out j hj
  · obtain ⟨c0, a1, a2, a3⟩ := hb j cj hj
    obtain ⟨b, k, o', k1, k2, k3, k4⟩ := h.blk j c0 a1
    rw [a2] at k4
    rcases a3 with a3 | a3 <;> rw [a3]
    · exact ⟨b, k, o', k1, k2, k3, k4⟩
    · exact ⟨b, k, o', k1, bagC_or k2, bagC_room k3, k4⟩
  · obtain ⟨d1, a1, a2, _⟩ := hb j1 c1 h1
    obtain ⟨d2, b1, b2, _⟩ := hb j2 c2 h2
    exact h.inj j1 j2 d1 d2 b k1 k2 a1 b1 (a2.trans r1) (b2.trans r2) e1 e2
  · obtain ⟨c0, a1, a2, _⟩ := hb j cj hj
    exact h.apart j c0 b k o a1 (a2.trans hro) hρ
def convL : List Nat → Mem → Mem
  | [], m => m
  | i :: l, m => match m.t.get i with
    | some c => convL l ⟨m.t.put depthT i (some ⟨c.ro, bagC c.o⟩), m.next⟩
    | none => convL l m
theorem convL_ok {P : Program} {ρ : Ren} {F : Nat × Obj → Prop} {R : Nat → Option Obj} {s : St} : ∀ (l : List Nat) {m : Mem}, Rel P ρ m F R s → Rel P ρ (convL l m) F R s ∧ (convL l m).next = m.next
  | [], m, h => ⟨h, rfl⟩
  | i :: l, m, h => by
    simp only [convL]
    split
    · rename_i c hc
      have := convL_ok l (h.conv hc)
      exact this
    · exact convL_ok l h

/-! ### What can be reached -/
def blkN : Nat → Value → List Nat
  | _ + 1, .pointer (some ⟨i, _, none⟩) => [i]
  | _ + 1, .slice (some ⟨i, _, none⟩) _ _ => [i]
  | _ + 1, .map (some i) => [i]
  | _ + 1, .chan (some i) => [i]
  | _ + 1, .func (.yield i) _ _ => [i]
  | n + 1, .func _ x y => x.toList.flatMap (blkN n) ++ y.toList.flatMap (blkN n)
  | n + 1, .iface _ v => blkN n v
  | n + 1, .agg l => l.toList.flatMap (blkN n)
  | n + 1, .tuple l => l.toList.flatMap (blkN n)
  | _, _ => []
def blkC : CObj → List Nat
  | .cells l _ => l.flatMap (blkN 12)
  | .map es _ => (sortE es).flatMap fun e => blkN 12 e.key ++ blkN 12 e.val
  | .bag es => es.flatMap fun e => blkN 12 e.key ++ blkN 12 e.val
  | .strIter _ _ => []
  | .mapIter (some i) _ _ _ => [i]
  | .mapIter none _ _ _ => []
  | .loop _ _ _ _ env _ _ _ d => (env.flatMap fun x => blkN 12 x.2) ++ [d]
  | .defer _ => []
/-- the blocks with a number from k on that can be reached, in the order of meeting them -/
def reachG (m : Mem) (k : Nat) : Nat → List Nat → Tr Bool → List Nat → List Nat
  | 0, _, _, acc => acc.reverse
  | _, [], _, acc => acc.reverse
  | f + 1, i :: l, seen, acc => bif Nat.blt i k then reachG m k f l seen acc else match seen.get i with
    | some _ => reachG m k f l seen acc
    | none => match m.t.get i with
      | some c => reachG m k f (blkC c.o ++ l) (seen.put depthT i (some true)) (i :: acc)
      | none => reachG m k f l seen acc
def reachA (args : List Value) (m : Mem) : List Nat := reachG m 0 100000 (args.flatMap (blkN 12)) .nil []
def valR : CR → Value
  | .ret v => v
  | .panic v => v
def reachR (r : CR) (m : Mem) (k : Nat) : List Nat :=
  reachG m k 100000 (blkN 12 (valR r) ++ (List.range k).flatMap fun i => match m.t.get i with
    | some c => blkC c.o
    | none => []) .nil []

/-! ### One and the same result -/
def canonR (k : Nat) (x : CR × Mem) : Option (CR × Mem) :=
  match pull x.2 (List.range k ++ reachR x.1 x.2 k) with
  | some (mc, ψ) => match renCR ψ x.1 with
    | some r => some (r, convL ((List.range mc.next).drop k) mc)
    | none => none
  | none => none
theorem canon_ok {P : Program} {ρ ρ1 : Ren} {m m1 mc : Mem} {r rc : CR} {en : Ending} {F : Nat × Obj → Prop} {R : Nat → Option Obj} {s s' : St} (hr : Rel P ρ m F R s) (h : canonR m.next (r, m1) = some (rc, mc)) (k1 : Grow ρ m ρ1 m1) (k2 : Rel P ρ1 m1 F R s') (k3 : CRR ρ1 r en) :
    ∃ ρ2, Grow ρ m ρ2 mc ∧ Rel P ρ2 mc F R s' ∧ CRR ρ2 rc en := by
  unfold canonR at h
  split at h <;> try (cases h; done)
  rename_i mq ψ hp
  split at h <;> try (cases h; done)
  rename_i r' hr'
  simp only [Option.some.injEq, Prod.mk.injEq] at h
  obtain ⟨rfl, rfl⟩ := h
  obtain ⟨h1, h2, h3, h4, _⟩ := pull_ok k2 hp
  have hlo : ∀ i, i < m.next → pullR ρ1 (List.range m.next ++ reachR r m1 m.next) i = ρ1 i := by
    intro i hi
    simp only [pullR]
    rw [List.getElem?_append_left (by simpa using hi), List.getElem?_range hi]
  have hrel : Rel P (pullR ρ1 (List.range m.next ++ reachR r m1 m.next)) mq F R s' := ⟨h2.len, h2.fits, h2.out, h2.blk, h2.inj, fun x hx => h2.frame x (.inl hx), fun i c b k o h5 h6 h7 h8 => h2.apart i c b k o h5 h6 h7 (.inl h8), h2.ro⟩
  obtain ⟨g1, g2⟩ := convL_ok ((List.range mq.next).drop m.next) hrel
  refine ⟨_, ⟨fun i x hx => ?_, fun i hi hn => ?_, ?_⟩, g1, renCR_crr h1 hr' k3⟩
  · have hi : i < m.next := by
      rcases Nat.lt_or_ge i m.next with a | a
      · exact a
      · rw [hr.len i a] at hx; cases hx
    rw [hlo i hi]; exact k1.le i x hx
  · rw [hlo i hi]; exact k1.hole i hi hn
  · rw [g2, h3]; simp

/-! #### Equality by running -/
def beqM : List MEnt → List MEnt → Bool
  | [], [] => true
  | a :: l, b :: m => beqV a.key b.key && (beqV a.val b.val && (Nat.beq a.born b.born && beqM l m))
  | _, _ => false
theorem beqM_eq : ∀ {l m : List MEnt}, beqM l m = true → l = m
  | [], [], _ => rfl
  | [], _ :: _, h => by simp [beqM] at h
  | _ :: _, [], h => by simp [beqM] at h
  | ⟨k, v, b⟩ :: l, ⟨k', v', b'⟩ :: m, h => by
    simp only [beqM, Bool.and_eq_true] at h
    rw [beqV_eq h.1, beqV_eq h.2.1, Nat.eq_of_beq_eq_true h.2.2.1, beqM_eq h.2.2.2]
theorem beqBy_eq : ∀ {l m : List Value}, beqBy beqV l m = true → l = m
  | [], [], _ => rfl
  | [], _ :: _, h => by simp [beqBy] at h
  | _ :: _, [], h => by simp [beqBy] at h
  | v :: l, w :: m, h => by
    simp only [beqBy, Bool.and_eq_true] at h
    rw [beqV_eq h.1, beqBy_eq h.2]
def beqC : CObj → CObj → Bool
  | .cells l t, .cells l' t' => Nat.beq t t' && beqBy beqV l l'
  | .map es k, .map es' k' => Nat.beq k k' && beqM es es'
  | .bag es, .bag es' => beqM es es'
  | .mapIter none a b c, .mapIter none a' b' c' => Nat.beq a a' && (Nat.beq c c' && decide (b = b'))
  | .mapIter (some i) a b c, .mapIter (some i') a' b' c' => Nat.beq i i' && (Nat.beq a a' && (Nat.beq c c' && decide (b = b')))
  | .strIter s p, .strIter s' p' => Nat.beq p p' && decide (s.data.toList = s'.data.toList)
  | .defer a, .defer b => (a && b) || (!a && !b)
  | _, _ => false
theorem beqC_eq {a b : CObj} (h : beqC a b = true) : a = b := by
  unfold beqC at h
  split at h
  · simp only [Bool.and_eq_true] at h; rw [Nat.eq_of_beq_eq_true h.1, beqBy_eq h.2]
  · simp only [Bool.and_eq_true] at h; rw [Nat.eq_of_beq_eq_true h.1, beqM_eq h.2]
  · rw [beqM_eq h]
  · simp only [Bool.and_eq_true, decide_eq_true_eq] at h; rw [Nat.eq_of_beq_eq_true h.1, Nat.eq_of_beq_eq_true h.2.1, h.2.2]
  · simp only [Bool.and_eq_true, decide_eq_true_eq] at h; rw [Nat.eq_of_beq_eq_true h.1, Nat.eq_of_beq_eq_true h.2.1, Nat.eq_of_beq_eq_true h.2.2.1, h.2.2.2]
  · rename_i s p s' p'
    simp only [Bool.and_eq_true, decide_eq_true_eq] at h
    rw [Nat.eq_of_beq_eq_true h.1]
    rcases s with ⟨⟨s⟩⟩; rcases s' with ⟨⟨s'⟩⟩
    simp only at h
    rw [h.2]
  · rename_i a b; cases a <;> cases b <;> simp_all
  · cases h
def beqCB : Option CB → Option CB → Bool
  | none, none => true
  | some a, some b => ((a.ro && b.ro) || (!a.ro && !b.ro)) && beqC a.o b.o
  | _, _ => false
theorem beqCB_eq : ∀ {a b : Option CB}, beqCB a b = true → a = b
  | none, none, _ => rfl
  | none, some _, h => by simp [beqCB] at h
  | some _, none, h => by simp [beqCB] at h
  | some ⟨r, o⟩, some ⟨r', o'⟩, h => by
    simp only [beqCB, Bool.and_eq_true] at h
    rw [beqC_eq h.2]
    cases r <;> cases r' <;> simp_all
def beqT : Tr CB → Tr CB → Bool
  | .nil, .nil => true
  | .node v l r, .node v' l' r' => beqCB v v' && (beqT l l' && beqT r r')
  | _, _ => false
theorem beqT_eq : ∀ {a b : Tr CB}, beqT a b = true → a = b
  | .nil, .nil, _ => rfl
  | .nil, .node .., h => by simp [beqT] at h
  | .node .., .nil, h => by simp [beqT] at h
  | .node v l r, .node v' l' r', h => by
    simp only [beqT, Bool.and_eq_true] at h
    rw [beqCB_eq h.1, beqT_eq h.2.1, beqT_eq h.2.2]
def beqMem (a b : Mem) : Bool := Nat.beq a.next b.next && beqT a.t b.t
theorem beqMem_eq {a b : Mem} (h : beqMem a b = true) : a = b := by
  rcases a with ⟨t, n⟩; rcases b with ⟨t', n'⟩
  simp only [beqMem, Bool.and_eq_true] at h
  rw [Nat.eq_of_beq_eq_true h.1, beqT_eq h.2]
def beqR : CR × Mem → CR × Mem → Bool
  | (.ret v, m), (.ret v', m') => beqV v v' && beqMem m m'
  | (.panic v, m), (.panic v', m') => beqV v v' && beqMem m m'
  | _, _ => false
theorem beqR_eq {a b : CR × Mem} (h : beqR a b = true) : a = b := by
  rcases a with ⟨_ | _, _⟩ <;> rcases b with ⟨_ | _, _⟩ <;> simp only [beqR, Bool.and_eq_true, Bool.false_eq_true] at h
  · rw [beqV_eq h.1, beqMem_eq h.2]
  · rw [beqV_eq h.1, beqMem_eq h.2]
def allCanon (k : Nat) (c : CR × Mem) : List (CR × Mem) → Bool
  | [] => true
  | x :: l => match canonR k x with
    | some y => beqR c y && allCanon k c l
    | none => false
def collapse (k : Nat) : List (CR × Mem) → Option (CR × Mem)
  | [] => none
  | [x] => some x
  | x :: l => match canonR k x with
    | some c => bif allCanon k c l then some c else none
    | none => none
theorem allCanon_ok {k : Nat} {c : CR × Mem} : ∀ {l : List (CR × Mem)}, allCanon k c l = true → ∀ x ∈ l, canonR k x = some c
  | [], _, x, hx => by cases hx
  | y :: l, h, x, hx => by
    simp only [allCanon] at h
    split at h <;> try (cases h; done)
    rename_i z hz
    simp only [Bool.and_eq_true] at h
    rcases List.mem_cons.1 hx with rfl | hx
    · rw [hz, beqR_eq h.1]
    · exact allCanon_ok h.2 x hx
theorem collapse_ok {P : Program} {ρ ρ1 : Ren} {m m1 mc : Mem} {r rc : CR} {en : Ending} {F : Nat × Obj → Prop} {R : Nat → Option Obj} {s s' : St} {l : List (CR × Mem)} (hr : Rel P ρ m F R s) (h : collapse m.next l = some (rc, mc)) (hx : (r, m1) ∈ l) (k1 : Grow ρ m ρ1 m1) (k2 : Rel P ρ1 m1 F R s') (k3 : CRR ρ1 r en) :
    ∃ ρ2, Grow ρ m ρ2 mc ∧ Rel P ρ2 mc F R s' ∧ CRR ρ2 rc en := by
  unfold collapse at h
  split at h
  · cases h
  · simp only [Option.some.injEq] at h; subst h
    rw [List.mem_singleton] at hx
    cases hx
    exact ⟨ρ1, k1, k2, k3⟩
  · rename_i x l _
    split at h <;> try (cases h; done)
    rename_i c hc
    cases ha : allCanon m.next c l with
    | false => rw [ha] at h; cases h
    | true =>
      rw [ha] at h; simp only [cond_true, Option.some.injEq] at h; subst h
      have : canonR m.next (r, m1) = some (rc, mc) := by
        rcases List.mem_cons.1 hx with rfl | hx
        · exact hc
        · exact allCanon_ok ha _ hx
      exact canon_ok hr this k1 k2 k3
end Go.L
namespace Go.L
open Go Go.Conc

/-! ### Rounds of a loop over a function -/
def putPs : List Tmp → List Value → Env → Env
  | t :: ts, v :: vs, e => putPs ts vs (updc (some t) v e)
  | _, _, e => e
def endRC (l : Nat) (m : Mem) (jump : Option Code) : Option (CR × Mem) :=
  match m.t.get l with
  | some ⟨false, .loop _ _ fn n env params assign body d⟩ => some (.ret (.bool jump.isNone), m.set l (.loop (if jump.isNone then .ready else .done) jump fn n env params assign body d))
  | _ => none
def roundC (P : Program) (call : CallT) (LF : Nat) (l : Nat) (args : List Value) (m : Mem) : Option (CR × Mem) :=
  match m.t.get l with
  | some ⟨false, .loop _ _ fid n ce params assign body _⟩ => bif Nat.beq args.length params.toList.length && P.funcs[fid]?.isSome then
    (match execC P call fid false n LF assign (putPs params.toList args ce) m [] with
    | some [⟨.normal, ce2, m2, []⟩] => match m2.t.get l with
      | some ⟨false, .loop .ready pend2 f2 n2 env2 params2 assign2 body2 d2⟩ =>
        match execC P call fid false n LF body ce2 (m2.set l (.loop .busy pend2 f2 n2 env2 params2 assign2 body2 d2)) [] with
        | some [⟨.normal, _, m3, []⟩] => endRC l m3 none
        | some [⟨.ret, _, m3, []⟩] => endRC l m3 (some .ret)
        | some [⟨.exit id, _, m3, []⟩] => endRC l m3 (some (.exit id))
        | some [⟨.panic v, _, m3, []⟩] => some (.panic v, m3)
        | _ => none
      | _ => none
    | _ => none) else none
  | _ => none

section code
variable {P : Program} {C : Class} {fn : FuncId} {rnd : Option Nat} {n LF : Nat} {D : List Deferred} {call : CallT}

theorem putPs_A : ∀ (ts : List Tmp) (vs : List Value) (e : Env) (D : List Deferred), ((ts.zip vs).foldl (fun (tmps : Array Value) (x : Tmp × Value) => tmps.setIfInBounds x.1 x.2) (A n e D).tmps) = (A n (putPs ts vs e) D).tmps
  | [], vs, e, D => by cases vs <;> rfl
  | t :: ts, [], e, D => rfl
  | t :: ts, v :: vs, e, D => by
    simp only [List.zip_cons_cons, List.foldl_cons, putPs]
    rw [← putPs_A ts vs, ← updc_A, ← A_put]
    rfl
theorem putPs_er {ρ : Ren} : ∀ {ts : List Tmp} {vs vs' : List Value} {ce e : Env}, VRs ρ vs vs' → ER ρ ce e → ER ρ (putPs ts vs ce) (putPs ts vs' e)
  | [], _, _, ce, e, h, he => by cases h <;> exact he
  | t :: ts, _, _, ce, e, .nil, he => he
  | t :: ts, _, _, ce, e, .cons v v' l l' h1 h2, he => putPs_er (ts := ts) h2 (he.updc (some t) h1)

theorem endRC_ok {ρ : Ren} {m m' : Mem} {F : Nat × Obj → Prop} {R : Nat → Option Obj} {s : St} {l b : Nat} {c : Nat} {jump : Option Code} {r : CR} (hr : Rel P ρ m F R s) (hb : ρ l = some (b, c)) (h : endRC l m jump = some (r, m')) {K : Ending → St → Prop}
    (hk : ∀ s', Rel P ρ m' F R s' → Grow ρ m ρ m' → CRR ρ r (.returned (.bool jump.isNone)) → K (.returned (.bool jump.isNone)) s') : endR K b jump s := by
  unfold endRC at h
  split at h <;> try (cases h; done)
  rename_i st pend f2 n2 env params assign body d hm
  simp only [Option.some.injEq, Prod.mk.injEq] at h
  obtain ⟨rfl, rfl⟩ := h
  obtain ⟨b2, c2, o', L, Rr, hb2, hor, hroom, hs⟩ := hr.split hm
  rw [hb] at hb2; cases hb2
  cases hor
  rename_i e2 b3 c3 her hb3
  refine ⟨L, _, Rr, hs, hk _ ?_ (.same rfl) (.ret _ _ (.bool _))⟩
  exact hr.set hm hb hs (OR.loop _ jump f2 n2 env e2 params assign body d b3 c3 her hb3) trivial

theorem round_ok (hC : ∀ main T, C main T → Closed P main T) (hmx : P.follows .mixedOrders = true) (hcall : CallOK C P call) {l : Nat} {args args' : List Value} {m m' : Mem} {r : CR} (h : roundC P call LF l args m = some (r, m')) {ρ : Ren} {s : St} {F : Nat × Obj → Prop} {R : Nat → Option Obj}
    (ha : VRs ρ args args') (hr : Rel P ρ m F R s) (g : Nat → Nat) (hg : ∃ c, ρ l = some (g l, c)) :
    tri P (Instr.yield (g l) ⟨args'⟩) s (Follows C P (fun en s' => ∃ ρ', Grow ρ m ρ' m' ∧ Rel P ρ' m' F R s' ∧ CRR ρ' r en)) (fun _ _ => False) := by
  obtain ⟨c, hgl⟩ := hg
  unfold roundC at h
  split at h <;> try (cases h; done)
  rename_i st pend fid n ce params assign body d hm
  cases hc : (Nat.beq args.length params.toList.length && P.funcs[fid]?.isSome) with
  | false => rw [hc] at h; cases h
  | true =>
  rw [hc] at h; simp only [cond_true] at h
  simp only [Bool.and_eq_true] at hc
  have hlen := Nat.eq_of_beq_eq_true hc.1
  obtain ⟨fn, hfn⟩ := Option.isSome_iff_exists.1 hc.2
  obtain ⟨b2, c2, o', L, Rr, hb2, hor, hroom, hs⟩ := hr.split hm
  rw [hgl] at hb2; cases hb2
  cases hor
  rename_i e b3 c3 her hb3
  simp only [Instr.yield]
  refine t_getLoop hs ?_
  have hsz : ¬ (⟨args'⟩ : Array Value).size ≠ params.size := by
    have h1 := ha.len
    simp only [Array.length_toList] at hlen
    simp only [List.size_toArray, ne_eq, Decidable.not_not]
    omega
  rw [if_neg hsz]
  show Follows C P _ (.round (g l) fid _ assign body) s
  have htm : ((params.zip (⟨args'⟩ : Array Value)).foldl (fun (tmps : Array Value) (x : Tmp × Value) => tmps.setIfInBounds x.1 x.2) (A n e []).tmps) = (A n (putPs params.toList args' e) []).tmps := by
    rw [← putPs_A, ← Array.foldl_toList, Array.toList_zip]
  show Round C (g l) fid ((params.zip (⟨args'⟩ : Array Value)).foldl (fun (tmps : Array Value) (x : Tmp × Value) => tmps.setIfInBounds x.1 x.2) (A n e []).tmps) assign body s (fun en s' => ∃ ρ', Grow ρ m ρ' m' ∧ Rel P ρ' m' F R s' ∧ CRR ρ' r en)
  rw [htm]
  refine round_of_wp hC hfn ?_
  show Wp C fid (some (g l)) assign _ (A n (putPs params.toList args' e) []) s
  split at h <;> try (cases h; done)
  rename_i ce2 m2 hx1
  refine execC_ok hC hmx hcall (fun e => by cases e) assign hx1 (putPs_er ha her) .nil hr fun r0 hr0 => ?_
  rw [List.mem_singleton] at hr0; subst hr0
  refine ⟨fun x ρ' e' D' s' hxr hgr he' hd' hr' => ?_, fun v hv => by cases hv⟩
  cases hxr
  cases hd'
  simp only at h hgr he' hr'
  split at h <;> try (cases h; done)
  rename_i pend2 f2 n2 env2 params2 assign2 body2 d2 hm2
  have hgl' : ρ' l = some (g l, c) := hgr.le _ _ hgl
  obtain ⟨b4, c4, o4, L4, R4, hb4, hor4, hroom4, hs4⟩ := hr'.split hm2
  rw [hgl'] at hb4; cases hb4
  cases hor4
  rename_i e4 b5 c5 her4 hb5
  refine ⟨L4, _, R4, hs4, rfl, ?_⟩
  have hset := hr'.set hm2 hgl' hs4 (OR.loop .busy pend2 f2 n2 env2 e4 params2 assign2 body2 d2 b5 c5 her4 hb5) trivial
  have hgb : Grow ρ m ρ' (m2.set l (.loop .busy pend2 f2 n2 env2 params2 assign2 body2 d2)) := hgr.trans (.same rfl)
  -- the body
  have hbody : ∀ x ce3 m3, execC P call fid false n LF body ce2 (m2.set l (.loop .busy pend2 f2 n2 env2 params2 assign2 body2 d2)) [] = some [⟨x, ce3, m3, []⟩] →
      (∀ x0 ρ3 a3 s3, XR x x0 → Grow ρ m ρ3 m3 → Rel P ρ3 m3 F R s3 → roundQ (fun en s' => ∃ ρ', Grow ρ m ρ' m' ∧ Rel P ρ' m' F R s' ∧ CRR ρ' r en) (g l) x0 a3 s3) →
      (∀ v ρ3 v' a3 s3, x = .panic v → a3.defers = [] → Grow ρ m ρ3 m3 → VR ρ3 v v' → Rel P ρ3 m3 F R s3 → roundQ (fun en s' => ∃ ρ', Grow ρ m ρ' m' ∧ Rel P ρ' m' F R s' ∧ CRR ρ' r en) (g l) (.panic [{ v := v', recovered := false }]) a3 s3) →
      Wp C fid (some (g l)) body (roundQ (fun en s' => ∃ ρ', Grow ρ m ρ' m' ∧ Rel P ρ' m' F R s' ∧ CRR ρ' r en) (g l)) (A n e' []) ⟨s'.ro, L4 ++ (g l, .loop { state := .busy, pending := pend2, fn := f2, tmps := (A n2 e4 []).tmps, params := params2, assign := assign2, body := body2, defers := b5 }) :: R4⟩ := by
    intro x ce3 m3 hx3 h1 h2
    refine execC_ok hC hmx hcall (fun e => by cases e) body hx3 he' .nil hset fun r3 hr3 => ?_
    rw [List.mem_singleton] at hr3; subst hr3
    refine ⟨fun x0 ρ3 e3 D3 s3 hxr hg3 he3 hd3 hr3 => h1 x0 ρ3 _ s3 hxr (hgb.trans hg3) hr3, fun v hv ρ3 v' e3 rest D3 s3 hg3 hv3 he3 hd3 hr3 => ?_⟩
    cases hd3
    exact h2 v ρ3 v' _ s3 hv rfl (hgb.trans hg3) hv3 hr3
  have hend : ∀ m3 jump, endRC l m3 jump = some (r, m') → ∀ ρ3 s3, Grow ρ m ρ3 m3 → Rel P ρ3 m3 F R s3 → endR (fun en s' => ∃ ρ', Grow ρ m ρ' m' ∧ Rel P ρ' m' F R s' ∧ CRR ρ' r en) (g l) jump s3 := by
    intro m3 jump he3 ρ3 s3 hg3 hr3
    exact endRC_ok hr3 (hg3.le _ _ hgl) he3 fun s' h1 h2 h3 => ⟨ρ3, hg3.trans h2, h1, h3⟩
  split at h <;> try (cases h; done)
  · rename_i ce3 m3 hx3
    exact hbody _ _ _ hx3 (fun x0 ρ3 a3 s3 hxr hg3 hr3 => by cases hxr; exact hend m3 none h ρ3 s3 hg3 hr3) (fun v ρ3 v' a3 s3 e => by cases e)
  · rename_i ce3 m3 hx3
    exact hbody _ _ _ hx3 (fun x0 ρ3 a3 s3 hxr hg3 hr3 => by cases hxr; exact hend m3 (some .ret) h ρ3 s3 hg3 hr3) (fun v ρ3 v' a3 s3 e => by cases e)
  · rename_i id ce3 m3 hx3
    exact hbody _ _ _ hx3 (fun x0 ρ3 a3 s3 hxr hg3 hr3 => by cases hxr; exact hend m3 (some (.exit id)) h ρ3 s3 hg3 hr3) (fun v ρ3 v' a3 s3 e => by cases e)
  · rename_i v ce3 m3 hx3
    simp only [Option.some.injEq, Prod.mk.injEq] at h
    obtain ⟨rfl, rfl⟩ := h
    exact hbody _ _ _ hx3 (fun x0 ρ3 a3 s3 hxr => by cases hxr) (fun v2 ρ3 v' a3 s3 e hd hg3 hv3 hr3 => by cases e; exact ⟨hd, ρ3, hg3, hr3, .panic _ _ hv3⟩)

/-! ### Functions -/
def exitU : CEx → Option UM
  | .normal => some .ret
  | .ret => some .ret
  | .panic v => some (.panic v)
  | .exit _ => none
def finOne (P : Program) (call : CallT) (LF : Nat) (fn : Func) (r : CS) : Option (CR × Mem) :=
  match exitU r.x with
  | some u => match unwindC P call LF r.ds u r.m with
    | some (.ret, m') => match resV P fn.ntmps r.ce m' fn.results.toList with
      | some vs => some (.ret (packV vs), m')
      | none => none
    | some (.panic v, m') => some (.panic v, m')
    | none => none
  | none => none
def execF (P : Program) (LF : Nat) (over : CallT → CallT) : Nat → CallT
  | 0, _, _, _ => none
  | d + 1, .yield l, args, m => roundC P (over (execF P LF over d)) LF l args m
  | d + 1, .fn f, args, m => match P.funcs[f]? with
    | some fn => match fn.body with
      | some c => bif Nat.ble args.length fn.ntmps then (match execC P (over (execF P LF over d)) f true fn.ntmps LF c (envL 0 args) m [] with
        | some l => match mapO (finOne P (over (execF P LF over d)) LF fn) l with
          | some rs => collapse m.next rs
          | none => none
        | none => none) else none
      | none => none
    | none => none
theorem mapO_mem {α β : Type} {f : α → Option β} : ∀ {l : List α} {l' : List β}, mapO f l = some l' → ∀ x ∈ l, ∃ y, f x = some y ∧ y ∈ l'
  | [], l', h, x, hx => by cases hx
  | a :: l, l', h, x, hx => by
    simp only [mapO] at h
    split at h <;> try (cases h; done)
    rename_i w hw
    split at h <;> try (cases h; done)
    rename_i r hr
    simp only [Option.some.injEq] at h; subst h
    rcases List.mem_cons.1 hx with rfl | hx
    · exact ⟨w, hw, by simp⟩
    · obtain ⟨y, h1, h2⟩ := mapO_mem hr x hx
      exact ⟨y, h1, by simp [h2]⟩

theorem fn_exec (hC : ∀ main T, C main T → Closed P main T) (hmx : P.follows .mixedOrders = true) (hcall : CallOK C P call) {f : FuncId} {fn : Func} {c : Code} (hfn : P.funcs[f]? = some fn) (hb : fn.body = some c) {args args' : List Value} (hle : args.length ≤ fn.ntmps) {m m' : Mem} {r : CR} {l : List CS} {rs : List (CR × Mem)}
    (hx : execC P call f true fn.ntmps LF c (envL 0 args) m [] = some l) (hrs : mapO (finOne P call LF fn) l = some rs) (hcol : collapse m.next rs = some (r, m')) {ρ : Ren} {s : St} {F : Nat × Obj → Prop} {R : Nat → Option Obj} (ha : VRs ρ args args') (hr : Rel P ρ m F R s) :
    Fn C P f ⟨args'⟩ s (fun en s' => ∃ ρ', Grow ρ m ρ' m' ∧ Rel P ρ' m' F R s' ∧ CRR ρ' r en) := by
  intro main T hT cl cs k1 k2
  have hcl := hC main T hT
  let b : Frame := { (default : Frame) with fn := f, kind := .normal, roundOf := none }
  have henter : Frame.enter P f ⟨args'⟩ .normal = fat b (A fn.ntmps (envL 0 args') []) [.code c] := by
    rw [← enter_A args' fn.ntmps (by rw [← ha.len]; exact hle)]
    simp [Frame.enter, fat, hfn, hb, b]
  rw [henter]
  refine execC_ok (rnd := none) hC hmx hcall (fun _ => rfl) c (Q := fun e a s' => After T b [] (cl :: cs) e a s') hx (envL_er 0 ha) .nil hr (fun q hq => ?_) main T hT b [] _ rfl (by simp [b]) rfl (fun _ _ _ h => h)
  obtain ⟨y, hy1, hy2⟩ := mapO_mem hrs q hq
  rcases q with ⟨x, ce, mq, ds⟩
  -- the frame is left
  have leave : ∀ (u : UM), exitU x = some u → ∀ (fr : Frame), fr.fn = f → fr.kind = .normal → ∀ ρ' e' rest D' s', fr.tmps = (A fn.ntmps (e' ++ rest) D').tmps → fr.defers = D' → MR ρ' u fr.mode → Grow ρ m ρ' mq → ER ρ' ce e' → DRs ρ' ds D' → Rel P ρ' mq F R s' → T (G fr (cl :: cs)) s' := by
    intro u hu fr hf1 hf2 ρ' e' rest D' s' htm hdf hmr hg he hd hrel
    simp only [finOne, hu] at hy1
    cases huw : unwindC P call LF ds u mq with
    | none => rw [huw] at hy1; cases hy1
    | some um =>
    rcases um with ⟨u', m1⟩
    rw [huw] at hy1
    refine unwind_ok hC hmx hcall hT ds huw hmr hdf hd hrel fun ρ2 s2 mode2 hg2 hm2 hr2 => ?_
    cases hm2 with
    | ret =>
      simp only at hy1
      split at hy1 <;> try (cases hy1; done)
      rename_i vs hvs
      simp only [Option.some.injEq] at hy1; subst hy1
      obtain ⟨vs', g1, g2⟩ := resV_ok rest (he.up hg2.le) hr2 hvs
      refine ret_step hC hT hfn (fr := { fr with defers := [], mode := .returning }) hf1 hf2 rfl rfl (R := fun en s' => ∃ ρ', Grow ρ m ρ' m' ∧ Rel P ρ' m' F R s' ∧ CRR ρ' r en) ?_ k1
      have : ({ fr with defers := [], mode := .returning } : Frame).tmps = (A fn.ntmps (e' ++ rest) []).tmps := htm
      rw [this]
      refine tri_results g1 ⟨s2, St.le_refl _, ?_⟩
      exact collapse_ok hr hcol hy2 (hg.trans hg2) hr2 (.ret _ _ (packV_vr g2))
    | panic v v' hv =>
      simp only [Option.some.injEq] at hy1; subst hy1
      refine hcl.go rfl rfl (g' := G (cl.raise [{ v := v', recovered := false }]) cs) (fun w => ?_) (k2 _ _ (collapse_ok hr hcol hy2 (hg.trans hg2) hr2 (.panic _ _ hv)))
      have hnc : ∀ fr : Frame, fr.fn = f → fr.catches P = false := by
        intro fr hfr; simp [Frame.catches, hfr, hfn]
      have := hnc { fr with defers := [], mode := .panicking [{ v := v', recovered := false }] } hf1
      simp [G, stepG, unwind, this]
  refine ⟨fun x0 ρ' e' D' s' hxr hg he hd hrel => ?_, fun v hv ρ' v' e' rest D' s' hg hvr he hd hrel => ?_⟩
  · cases hxr with
    | normal => exact hcl.go rfl rfl (g' := G { fat b (A fn.ntmps e' D') [] with mode := .returning } (cl :: cs)) (fun w => by simp [G, stepG, stepG.exec, fat, b]) (leave .ret rfl _ rfl rfl ρ' e' [] D' s' (by rw [List.append_nil]; rfl) rfl .ret hg he hd hrel)
    | ret => exact fun todo => hcl.go rfl rfl (g' := G { fat b (A fn.ntmps e' D') (.code .ret :: todo) with mode := .returning } (cl :: cs)) (fun w => by simp [G, stepG, stepG.exec, fat, b]) (leave .ret rfl _ rfl rfl ρ' e' [] D' s' (by rw [List.append_nil]; rfl) rfl .ret hg he hd hrel)
    | exit id => simp [finOne, exitU] at hy1
  · subst hv
    exact fun todo => leave (.panic v) rfl _ rfl rfl ρ' e' rest D' s' rfl rfl (.panic _ _ hvr) hg he hd hrel

theorem execF_ok (hC : ∀ main T, C main T → Closed P main T) (hmx : P.follows .mixedOrders = true) {over : CallT → CallT} (hover : ∀ call, CallOK C P call → CallOK C P (over call)) : ∀ d, CallOK C P (execF P LF over d) := by
  intro d
  induction d with
  | zero => intro f args m r m' h; cases h
  | succ d ih =>
    intro t args m r m' h ρ args' s F R hargs hr g hg1 hg2
    cases t with
    | yield l =>
      simp only [execF] at h
      exact round_ok hC hmx (hover _ ih) h hargs hr g (hg1 l rfl)
    | fn f =>
      simp only [execF] at h
      refine t_callFunc (hg2 f rfl) ?_
      show Fn C P f ⟨args'⟩ s (fun en s' => ∃ ρ', Grow ρ m ρ' m' ∧ Rel P ρ' m' F R s' ∧ CRR ρ' r en)
      split at h <;> try (cases h; done)
      rename_i fn hfn
      split at h <;> try (cases h; done)
      rename_i c hb
      cases hl : Nat.ble args.length fn.ntmps with
      | false => rw [hl] at h; cases h
      | true =>
      rw [hl] at h; simp only [cond_true] at h
      split at h <;> try (cases h; done)
      rename_i l hx
      split at h <;> try (cases h; done)
      rename_i rs hrs
      exact fn_exec hC hmx (hover _ ih) hfn hb (Nat.le_of_ble_eq_true hl) hx hrs h hargs hr
end code
end Go.L
namespace Go.L
open Go Go.Conc

/-! ### Which calls are made on a memory of their own -/
def memF (f : FuncId) : List FuncId → Bool
  | [] => false
  | g :: l => bif Nat.beq f g then true else memF f l
def locFs (fs : List FuncId) (call : CallT) : CallT
  | .fn f, args, m => bif memF f fs then localC reachA call (.fn f) args m else call (.fn f) args m
  | t, args, m => call t args m
theorem locFs_ok {C : Class} {P : Program} {fs : List FuncId} {call : CallT} (hcall : CallOK C P call) : CallOK C P (locFs fs call) := by
  intro t args m r m' h
  cases t with
  | yield l => exact hcall _ _ _ _ _ h
  | fn f =>
    simp only [locFs] at h
    cases hb : memF f fs with
    | true => rw [hb] at h; exact local_ok hcall _ _ _ _ _ h
    | false => rw [hb] at h; exact hcall _ _ _ _ _ h

/-! ### What has been run before is looked up -/
structure TabE where
  f : FuncId
  args : List Value
  m : Mem
  r : CR
  m' : Mem
def TabOK (C : Class) (P : Program) (e : TabE) : Prop := ∀ ρ args' s F R, VRs ρ e.args args' → Rel P ρ e.m F R s → FF P e.f →
  Fn C P e.f ⟨args'⟩ s (fun en s' => ∃ ρ', Grow ρ e.m ρ' e.m' ∧ Rel P ρ' e.m' F R s' ∧ CRR ρ' e.r en)
def findT (f : FuncId) (args : List Value) (m : Mem) : List TabE → Option TabE
  | [] => none
  | e :: l => bif Nat.beq e.f f && (beqBy beqV e.args args && beqMem e.m m) then some e else findT f args m l
theorem findT_ok {f : FuncId} {args : List Value} {m : Mem} : ∀ {l : List TabE} {e : TabE}, findT f args m l = some e → e ∈ l ∧ e.f = f ∧ e.args = args ∧ e.m = m
  | [], e, h => by cases h
  | x :: l, e, h => by
    simp only [findT] at h
    cases hb : (Nat.beq x.f f && (beqBy beqV x.args args && beqMem x.m m)) with
    | true =>
      rw [hb] at h; simp only [cond_true, Option.some.injEq] at h; subst h
      simp only [Bool.and_eq_true] at hb
      exact ⟨by simp, Nat.eq_of_beq_eq_true hb.1, beqBy_eq hb.2.1, beqMem_eq hb.2.2⟩
    | false =>
      rw [hb] at h
      obtain ⟨h1, h2⟩ := findT_ok h
      exact ⟨by simp [h1], h2⟩
/-- calls of the functions fs are made on a memory of their own; looked up first -/
def tabC (fs : List FuncId) (tab : List TabE) (call : CallT) : CallT
  | .fn f, args, m => bif memF f fs then localC reachA (fun t args m => match t with
      | .fn g => match findT g args m tab with
        | some e => some (e.r, e.m')
        | none => call (.fn g) args m
      | .yield l => call (.yield l) args m) (.fn f) args m else call (.fn f) args m
  | t, args, m => call t args m
theorem tabC_ok {C : Class} {P : Program} {fs : List FuncId} {tab : List TabE} (ht : ∀ e ∈ tab, TabOK C P e) {call : CallT} (hcall : CallOK C P call) : CallOK C P (tabC fs tab call) := by
  have hin : CallOK C P (fun t args m => match t with
      | .fn g => match findT g args m tab with
        | some e => some (e.r, e.m')
        | none => call (.fn g) args m
      | .yield l => call (.yield l) args m) := by
    intro t args m r m' h ρ args' s F R ha hr g hg1 hg2
    cases t with
    | yield l => exact hcall _ _ _ _ _ h ρ args' s F R ha hr g hg1 hg2
    | fn f =>
      simp only at h
      split at h
      · rename_i e he
        simp only [Option.some.injEq, Prod.mk.injEq] at h
        obtain ⟨rfl, rfl⟩ := h
        obtain ⟨h1, rfl, rfl, rfl⟩ := findT_ok he
        exact t_callFunc (hg2 _ rfl) (ht e h1 ρ args' s F R ha hr (hg2 _ rfl))
      · exact hcall _ _ _ _ _ h ρ args' s F R ha hr g hg1 hg2
  intro t args m r m' h
  cases t with
  | yield l => exact hcall _ _ _ _ _ h
  | fn f =>
    simp only [tabC] at h
    cases hb : memF f fs with
    | true => rw [hb] at h; exact local_ok hin _ _ _ _ _ h
    | false => rw [hb] at h; exact hcall _ _ _ _ _ h
/-- a run gives an entry -/
theorem tab_of_run {C : Class} {P : Program} {call : CallT} (hcall : CallOK C P call) {f : FuncId} {args : List Value} {m m' : Mem} {r : CR} (h : call (.fn f) args m = some (r, m')) : TabOK C P ⟨f, args, m, r, m'⟩ := by
  intro ρ args' s F R ha hr ff
  have := hcall _ _ _ _ _ h ρ args' s F R ha hr id (fun i hi => ((by cases hi))) (fun g hg => by cases hg; exact ff)
  obtain ⟨fn, h1, h2, h3⟩ := ff.ff
  simp only [callSem, callFunc, t_program, h1, h2, h3, Bool.false_eq_true, if_false] at this
  exact this
end Go.L
namespace Go.L
open Go Go.Conc

/-! ### kin's 'each': what its goroutines come to (the executor's side; that this is so is shown elsewhere) -/
/-- the pieces of a function's text, one behind the other -/
def flatC : Code → List Code
  | .seq a b => flatC a ++ flatC b
  | c => [c]
def opsOf : Code → Array Oper
  | .region _ ops _ => ops
  | _ => #[]
/-- the body of a loop in a block -/
def loopOf : Code → List Code
  | .block _ (.loop b) => flatC b
  | _ => []
def blockOf : Code → List Code
  | .block _ b => flatC b
  | _ => []
def freezeT : Tr CB → Tr CB
  | .nil => .nil
  | .node v l r => .node (match v with | some c => some ⟨true, c.o⟩ | none => none) (freezeT l) (freezeT r)
def Mem.freeze (m : Mem) : Mem := ⟨freezeT m.t, m.next⟩
def runS (P : Program) (call : CallT) (n : Nat) (ops : Array Oper) (l : List Nat) (x : Option (Env × Mem)) : Option (Env × Mem) :=
  match x with
  | some (ce, m) => match runOps P call ops n l ce m with
    | some (.done ce' m') => some (ce', m')
    | _ => none
  | none => none
def setS (dst : Option Tmp) (v : Value) (x : Option (Env × Mem)) : Option (Env × Mem) :=
  match x with
  | some (ce, m) => some (updc dst v ce, m)
  | none => none
def nthC (l : List Code) (i : Nat) : Array Oper := match l[i]? with
  | some c => opsOf c
  | none => #[]
def dstAt (ops : Array Oper) (i : Nat) : Option Tmp := (ops[i]?).bind (·.dst)
abbrev Own := Option (List Value × TypeId) × Nat
/-- a list of one's own: its cells, how many it has -/
def ownC (m : Mem) : Value → Option Own
  | .slice none 0 0 => some (none, 0)
  | .slice (some ⟨i, 0, none⟩) len k => match m.t.get i with
    | some ⟨false, .cells l t⟩ => bif flatAll flat l && Nat.beq k capU then some (some (l, t), len) else none
    | _ => none
  | _ => none
/-- what a worker sends: the blocks that it owns are its own; the value, and the cells that it leads to -/
def workC (P : Program) (call : CallT) (LF : Nat) (f : FuncId) (caps : List Value) (m : Mem) : Option Own :=
  match P.funcs[f]? with
  | some fn => match fn.body with
    | some c => match flatC c with
      | [r0, r1, r2, rf, r7] =>
        match execC P call f true fn.ntmps LF (.seq r0 (.seq r1 (.seq r2 rf))) (envL 0 caps) m.freeze [] with
        | some [⟨.normal, ce, m', _⟩] => match runOps P call (opsOf r7) fn.ntmps [0, 1] ce m' with
          | some (.done ce2 m2) => match (opsOf r7)[2]? with
            | some o => match o.op with
              | .send _ x => match evc fn.ntmps ce2 x with
                | some v => ownC m2 v
                | none => none
              | _ => none
            | none => none
          | _ => none
        | _ => none
      | _ => none
    | none => none
  | none => none
/-- the loop that starts the workers: their closures' captures, with the memory in which each begins -/
def spawnC (P : Program) (call : CallT) (n : Nat) (L : List Code) (B : List Code) : Nat → Env → Mem → Option (List (FuncId × List Value × Mem) × Env × Mem)
  | 0, _, _ => none
  | k + 1, ce, m => match runOps P call (nthC L 0) n [0] ce m with
    | some (.done ce1 m1) => match evc n ce1 (.tmp ((dstAt (nthC L 0) 0).getD 0)) with
      | some (.bool false) => some ([], ce1, m1)
      | some (.bool true) =>
        match runS P call n (nthC B 2) [0] (setS (dstAt (nthC B 1) 0) undef (runS P call n (nthC B 0) (List.range (nthC B 0).size) (some (ce1, m1)))) with
        | some (ce2, m2) => match evc n ce2 (.tmp ((dstAt (nthC B 2) 0).getD 0)) with
          | some (.func (.func f) ⟨[]⟩ ⟨caps⟩) => match runS P call n (nthC L 3) (List.range (nthC L 3).size) (some (ce2, m2.freeze)) with
            | some (ce3, m3) => match spawnC P call n L B k ce3 m3 with
              | some (ws, ce4, m4) => some ((f, caps, m2.freeze) :: ws, ce4, m4)
              | none => none
            | none => none
          | _ => none
        | none => none
      | _ => none
    | _ => none
/-- the receiving loop, for one order of arrival -/
def recvC (P : Program) (call : CallT) (n : Nat) (L : List Code) (B : List Code) : List Own → Env → Mem → Option (Env × Mem)
  | [], ce, m => some (ce, m)
  | (own, len) :: r, ce, m =>
    let vm : Value × Mem := match own with
      | none => (.slice none 0 0, m)
      | some (l, t) => (.slice (some ⟨m.next, 0, none⟩) len capU, m.add (.cells l t))
    match runS P call n (nthC B 1) (List.range (nthC B 1).size) (runS P call n (nthC B 0) (List.range (nthC B 0).size) (runS P call n (nthC L 0) [1] (setS (dstAt (nthC L 0) 0) (.tuple ⟨[vm.1, .bool true]⟩) (some (ce, vm.2))))) with
    | some (ce', m') => recvC P call n L B r ce' m'
    | none => none
def insAll {α : Type} (x : α) : List α → List (List α)
  | [] => [[x]]
  | y :: l => (x :: y :: l) :: (insAll x l).map (y :: ·)
def perms {α : Type} : List α → List (List α)
  | [] => [[]]
  | x :: l => (perms l).flatMap (insAll x)
def outC (P : Program) (n : Nat) (fn : Func) : Option (Env × Mem) → Option Own
  | some (ce, m) => match resV P n ce m fn.results.toList with
    | some [v] => ownC m v
    | _ => none
  | none => none
def beqOwn : Own → Own → Bool
  | (none, a), (none, b) => Nat.beq a b
  | (some (l, t), a), (some (l', t'), b) => Nat.beq a b && (Nat.beq t t' && beqBy beqV l l')
  | _, _ => false
def eachC (each : FuncId) (P : Program) (LF : Nat) (call : CallT) : CallT
  | .fn f, args, m => bif Nat.beq f each then (match P.funcs[f]? with
    | some fn => match fn.body with
      | some c => match flatC c with
        | [r0, r1, r2, r3, lp, r9, r10, r11, lr, r15, r16, .ret] =>
          let n := fn.ntmps
          match runS P call n (opsOf r0) (List.range (opsOf r0).size) (some (envL 0 args, m)) with
          | some (ce0, m0) =>
            match runS P call n (opsOf r2) [0] (runS P call n (opsOf r1) [1, 2] (some (updc (dstAt (opsOf r1) 0) (.chan (some m0.next)) ce0, m0.skip))) with
            | some (ce1, m1) => match evc n ce1 (.tmp ((dstAt (opsOf r2) 0).getD 0)) with
              | some (.pointer (some ⟨w, 0, none⟩)) => match runS P call n (opsOf r3) (List.range (opsOf r3).size) (some (ce1, m1.del w)) with
                | some (ce2, m2) => match spawnC P call n (loopOf lp) ((loopOf lp)[2]?.elim [] blockOf) 100 ce2 m2 with
                  | some (ws, ce3, m3) => match runS P call n (opsOf r11) (List.range (opsOf r11).size) (runS P call n (opsOf r10) (List.range (opsOf r10).size) (runS P call n (opsOf r9) [0] (some (ce3, m3)))) with
                    | some (ce4, m4) => match mapO (fun (x : FuncId × List Value × Mem) => workC P call LF x.1 x.2.1 x.2.2) ws with
                      | some owns => match mapO (fun o => outC P n fn (runS P call n (opsOf r16) (List.range (opsOf r16).size) (runS P call n (opsOf r15) (List.range (opsOf r15).size) (recvC P call n (loopOf lr) ((loopOf lr)[2]?.elim [] blockOf) o ce4 m4)))) (perms owns) with
                        | some (x :: rs) => bif rs.all (beqOwn x) then (match x with
                          | (none, _) => some (.ret (.slice none 0 0), m)
                          | (some (l, t), len) => bif m.more then some (.ret (.slice (some ⟨m.next, 0, none⟩) len capU), m.add (.cells l t)) else none) else none
                        | _ => none
                      | none => none
                    | none => none
                  | none => none
                | none => none
              | _ => none
            | none => none
          | none => none
        | _ => none
      | none => none
    | none => none) else call (.fn f) args m
  | t, args, m => call t args m
end Go.L
namespace Go.L
open Go Go.Conc

/-! ### Many goroutines: who knows which blocks; no data race -/
def setK (K : Nat → St) (i : Nat) (s : St) : Nat → St := fun j => if j = i then s else K j
theorem setK_same (K : Nat → St) (i : Nat) (s : St) : setK K i s i = s := by simp [setK]
theorem setK_ne (K : Nat → St) {i j : Nat} (s : St) (h : j ≠ i) : setK K i s j = K j := by simp [setK, h]

/-- Every goroutine's knowledge is right; nobody else knows what one owns; whoever may touch a block knows all that conflicts; no data race. -/
structure Fit (L : Nat → Option Obj) (K : Nat → St) (w : World) (t : Trace) : Prop where
  lent : ∀ b o, L b = some o → w.heap[b]? = some o
  lentSep : ∀ i b, (K i).owns b → L b = none
  agr : ∀ i, Agrees (K i) w
  sep : ∀ i j b, i ≠ j → (K i).owns b → ¬ (K j).knows b
  perm : ∀ i b, (K i).owns b → ∀ p x, touchAt t p = some x → blk x.loc = some b → Knows t i p
  permR : ∀ i b, (K i).ro b ≠ none → ∀ p x, touchAt t p = some x → blk x.loc = some b → x.write = true → Knows t i p
  old : ∀ p x b, touchAt t p = some x → blk x.loc = some b → b < w.heap.size
  clean : ∀ said, ¬ Race said t
  sync : ∀ p x b, touchAt t p = some x → x.kind ≠ .plain → blk x.loc = some b → L b = none ∧ ∀ i, ¬ (K i).knows b

theorem lt_size {α : Type} {a : Array α} {i : Nat} {x : α} (h : a[i]? = some x) : i < a.size := by
  rcases Nat.lt_or_ge i a.size with h' | h'
  · exact h'
  · rw [Array.getElem?_eq_none h'] at h; cases h

/-- The touches that lie in a trace that has grown by u. -/
theorem touchAt_cases {t u : Trace} {p : Nat} {x : Touch} (h : touchAt (t ++ u) p = some x) : (p < t.size ∧ touchAt t p = some x) ∨ (t.size ≤ p ∧ ∃ op ∈ u, (t ++ u)[p]? = some op ∧ op.act.touch? = some x) := by
  rcases Nat.lt_or_ge p t.size with hp | hp
  · exact .inl ⟨hp, by rw [← touchAt_old (u := u) hp]; exact h⟩
  · obtain ⟨op, ho, hx⟩ := touch_of h
    rcases getElem?_append_cases ho with ⟨h', _⟩ | ⟨_, hm⟩
    · omega
    · exact .inr ⟨hp, op, hm, ho, hx⟩

/-- What the entries of an own step are, as operations of the trace. -/
theorem touch_of_ok {s : St} {n i : Nat} {fn : FuncId} {pos : String} {es : Array Event} (h : ∀ e ∈ es, EvOK s n e) {op : MemOp} (ho : op ∈ MemOp.ofEvents i fn pos es) :
    op.g = i ∧ ∀ x, op.act.touch? = some x → x.kind = .plain ∧ ∃ b, blk x.loc = some b ∧ (n ≤ b ∨ s.owns b ∨ (x.write = false ∧ s.ro b ≠ none)) ∧ ∃ e ∈ es, blk e.loc = some b := by
  rw [ofEvents_eq] at ho
  obtain ⟨e, he, rfl⟩ := Array.mem_map.1 ho
  refine ⟨rfl, fun x hx => ?_⟩
  have hk := h e he
  obtain ⟨loc, wr, sy⟩ := e
  cases loc with
  | cell a =>
    obtain ⟨h1, h2⟩ := hk
    simp only at h1 h2
    subst h1
    cases wr <;> (simp only [MemAct.ofEvent, MemAct.touch?, Option.some.injEq] at hx; subst hx; exact ⟨rfl, _, rfl, h2, _, he, rfl⟩)
  | obj r =>
    obtain ⟨h1, h2⟩ := hk
    simp only at h1 h2
    subst h1
    cases wr <;> (simp only [MemAct.ofEvent, MemAct.touch?, Option.some.injEq] at hx; subst hx; exact ⟨rfl, _, rfl, h2, _, he, rfl⟩)
  | mark m =>
    cases m <;> simp only [EvOK, okMark, Bool.false_eq_true] at hk <;> (cases hx)
  | _ => exact hk.elim

/-- Whoever does something knows it. -/
theorem knows_new {t u : Trace} {i p : Nat} (hu : ∀ op ∈ u, op.g = i) (hp : t.size ≤ p) {op : MemOp} (ho : (t ++ u)[p]? = some op) : Knows (t ++ u) i p := by
  rcases getElem?_append_cases ho with ⟨h', _⟩ | ⟨_, hm⟩
  · omega
  · have := knows_own ho
    rwa [hu op hm] at this

/-- AN OWN STEP of goroutine i. -/
theorem Fit.own {L : Nat → Option Obj} {K : Nat → St} {w w' : World} {t : Trace} (h : Fit L K w t) {i : Nat} {s' : St} {es : Array Event} (ht : Trans (K i) w s' w' es) (fn : FuncId) (pos : String) :
    Fit L (setK K i s') w' (t ++ MemOp.ofEvents i fn pos es) := by
  have hu := fun op (ho : op ∈ MemOp.ofEvents i fn pos es) => touch_of_ok ht.evs ho
  have hg : ∀ op ∈ MemOp.ofEvents i fn pos es, op.g = i := fun op ho => (hu op ho).1
  have other : ∀ j b, j ≠ i → (K j).knows b → b < w.heap.size ∧ ¬ (K i).owns b := fun j b hj hk => by
    refine ⟨?_, fun ho => h.sep i j b (Ne.symm hj) ho hk⟩
    rcases hk with hk | ⟨o, hk⟩
    · cases hr : (K j).ro b with
      | none => exact absurd hr hk
      | some o => exact (h.agr j).lt (.inl hr)
    · exact (h.agr j).lt (.inr hk)
  have lt_lent : ∀ b o, L b = some o → b < w.heap.size := fun b o hl => lt_size (h.lent b o hl)
  refine ⟨fun b o hl => ?_, fun j b ho => ?_, fun j => ?_, fun j k b hjk ho hk => ?_, fun j b ho p x hx hb => ?_, fun j b ho p x hx hb hw => ?_, fun p x b hx hb => ?_, fun said => ?_, fun p x b hx hk hb => ?_⟩
  · rw [ht.frame b (lt_lent b o hl) (fun ho => by have := h.lentSep i b ho; rw [hl] at this; cases this)]; exact h.lent b o hl
  · by_cases hj : j = i
    · subst hj
      rw [setK_same] at ho
      rcases ht.own b ho with h1 | h1
      · cases hl : L b with
        | none => rfl
        | some o => have := lt_lent b o hl; omega
      · exact h.lentSep j b h1
    · rw [setK_ne K s' hj] at ho; exact h.lentSep j b ho
  · by_cases hj : j = i
    · subst hj; rw [setK_same]; exact ht.agr
    · rw [setK_ne K s' hj]
      have a := h.agr j
      refine ⟨fun b o hb => ?_, fun b o hb => ?_, a.nodup, a.apart⟩
      · have := other j b hj (.inl (by rw [hb]; simp))
        rw [ht.frame b this.1 this.2]; exact a.ro b o hb
      · have := other j b hj (.inr ⟨o, hb⟩)
        rw [ht.frame b this.1 this.2]; exact a.rw b o hb
  · by_cases hj : j = i
    · subst hj
      rw [setK_same] at ho
      rw [setK_ne K s' (Ne.symm hjk)] at hk
      have := other k b (Ne.symm hjk) hk
      rcases ht.own b ho with h1 | h1
      · omega
      · exact this.2 h1
    · rw [setK_ne K s' hj] at ho
      by_cases hk' : k = i
      · subst hk'
        rw [setK_same] at hk
        have := other j b hj (.inr ho)
        rcases hk with hk | hk
        · rcases ht.ros b hk with h1 | h1 | h1
          · omega
          · exact h.sep j k b hj ho (.inl h1)
          · exact this.2 h1
        · rcases ht.own b hk with h1 | h1
          · omega
          · exact this.2 h1
      · rw [setK_ne K s' hk'] at hk
        exact h.sep j k b hjk ho hk
  · rcases touchAt_cases hx with ⟨hp, hx'⟩ | ⟨hp, op, hm, hop, hxo⟩
    · by_cases hj : j = i
      · subst hj
        rw [setK_same] at ho
        rcases ht.own b ho with h1 | h1
        · exact absurd (h.old p x b hx' hb) (by omega)
        · exact (h.perm j b h1 p x hx' hb).app _
      · rw [setK_ne K s' hj] at ho
        exact (h.perm j b ho p x hx' hb).app _
    · by_cases hj : j = i
      · subst hj; exact knows_new hg hp hop
      · rw [setK_ne K s' hj] at ho
        obtain ⟨_, b', hb', hc, e', he', hbe⟩ := (hu op hm).2 x hxo
        obtain rfl : b' = b := by rw [hb] at hb'; exact (Option.some.inj hb').symm
        have := other j b' hj (.inr ho)
        rcases hc with h1 | h1 | h1
        · omega
        · exact absurd h1 this.2
        · exact absurd (.inl h1.2) (h.sep j i b' hj ho)
  · rcases touchAt_cases hx with ⟨hp, hx'⟩ | ⟨hp, op, hm, hop, hxo⟩
    · by_cases hj : j = i
      · subst hj
        rw [setK_same] at ho
        rcases ht.ros b ho with h1 | h1 | h1
        · exact absurd (h.old p x b hx' hb) (by omega)
        · exact (h.permR j b h1 p x hx' hb hw).app _
        · exact (h.perm j b h1 p x hx' hb).app _
      · rw [setK_ne K s' hj] at ho
        exact (h.permR j b ho p x hx' hb hw).app _
    · by_cases hj : j = i
      · subst hj; exact knows_new hg hp hop
      · rw [setK_ne K s' hj] at ho
        obtain ⟨_, b', hb', hc, e', he', hbe⟩ := (hu op hm).2 x hxo
        obtain rfl : b' = b := by rw [hb] at hb'; exact (Option.some.inj hb').symm
        have := other j b' hj (.inl ho)
        rcases hc with h1 | h1 | h1
        · omega
        · exact absurd h1 this.2
        · rw [h1.1] at hw; cases hw
  · rcases touchAt_cases hx with ⟨hp, hx'⟩ | ⟨hp, op, hm, hop, hxo⟩
    · exact Nat.lt_of_lt_of_le (h.old p x b hx' hb) ht.size
    · obtain ⟨_, b', hb', hc, e', he', hbe⟩ := (hu op hm).2 x hxo
      obtain rfl : b' = b := by rw [hb] at hb'; exact (Option.some.inj hb').symm
      exact ht.low e' he' b' hbe
  case refine_9 =>
    rcases touchAt_cases hx with ⟨hp, hx'⟩ | ⟨hp, op, hm, hop, hxo⟩
    · have hs := h.sync p x b hx' hk hb
      refine ⟨hs.1, fun j hj => ?_⟩
      by_cases e : j = i
      · subst e
        rw [setK_same] at hj
        have hlt := h.old p x b hx' hb
        rcases hj with hj | hj
        · rcases ht.ros b hj with h1 | h1 | h1
          · omega
          · exact hs.2 j (.inl h1)
          · exact hs.2 j (.inr h1)
        · rcases ht.own b hj with h1 | h1
          · omega
          · exact hs.2 j (.inr h1)
      · rw [setK_ne K s' e] at hj; exact hs.2 j hj
    · exact absurd ((hu op hm).2 x hxo).1 hk
  case refine_8 =>
    refine noRace_append (h.clean said) hg fun p a ha op hm b hb hc => ?_
    obtain ⟨hk, c, hbc, hcc, _⟩ := (hu op hm).2 b hb
    have hloc : blk a.loc = some c := by rw [hc.1]; exact hbc
    rcases hcc with h1 | h1 | h1
    · exact absurd (h.old p a c ha hloc) (by omega)
    · exact h.perm i c h1 p a ha hloc
    · refine h.permR i c h1.2 p a ha hloc ?_
      rcases hc.2.2.1 with hw | hw
      · exact hw
      · rw [h1.1] at hw; cases hw

/-- Operations that touch nothing bring no race. -/
theorem noRace_quiet {said : Bool} {t u : Trace} (h : ¬ Race said t) (hu : ∀ op ∈ u, op.act.touch? = none) : ¬ Race said (t ++ u) := by
  rintro ⟨i, j, hij, ⟨a, b, ha, hb, hc⟩, n1, n2⟩
  obtain ⟨y, hy, hyb⟩ := touch_of hb
  rcases getElem?_append_cases hy with ⟨hj, _⟩ | ⟨_, hyu⟩
  · have hi : i < t.size := Nat.lt_trans hij hj
    exact h ⟨i, j, hij, ⟨a, b, by rw [← act?_old (u := u) hi]; exact ha, by rw [← act?_old (u := u) hj]; exact hb, hc⟩, fun e => n1 (hb_app u e), fun e => n2 (hb_app u e)⟩
  · rw [hu y hyu] at hyb; cases hyb

section
variable {L : Nat → Option Obj} {K : Nat → St} {w w' : World} {t u : Trace}

theorem Fit.knows_lt (h : Fit L K w t) {i b : Nat} (hk : (K i).knows b) : b < w.heap.size := by
  rcases hk with hk | ⟨o, hk⟩
  · cases hr : (K i).ro b with
    | none => exact absurd hr hk
    | some o => exact (h.agr i).lt (.inl hr)
  · exact (h.agr i).lt (.inr hk)
theorem Agrees.congr {s : St} (h : Agrees s w) (hf : ∀ b, s.knows b → w'.heap[b]? = w.heap[b]?) : Agrees s w' :=
  ⟨fun b o hb => by rw [hf b (.inl (by rw [hb]; simp))]; exact h.ro b o hb, fun b o hb => by rw [hf b (.inr ⟨o, hb⟩)]; exact h.rw b o hb, h.nodup, h.apart⟩

/-- A step that lists nothing that touches, and turns nothing but block B, of which nobody knows. -/
theorem Fit.quiet (h : Fit L K w t) (B : Nat) (hB : ∀ j, ¬ (K j).knows B) (hBL : L B = none) (hs : w.heap.size ≤ w'.heap.size) (hf : ∀ b, b ≠ B → b < w.heap.size → w'.heap[b]? = w.heap[b]?)
    (hu : ∀ op ∈ u, op.act.touch? = none) : Fit L K w' (t ++ u) := by
  have old : ∀ p x, touchAt (t ++ u) p = some x → touchAt t p = some x := fun p x hx => by
    rcases touchAt_cases hx with ⟨_, h'⟩ | ⟨_, op, hm, _, hxo⟩
    · exact h'
    · rw [hu op hm] at hxo; cases hxo
  refine ⟨fun b o hl => ?_, h.lentSep, fun i => ?_, h.sep, fun i b ho p x hx hb => (h.perm i b ho p x (old p x hx) hb).app u, fun i b ho p x hx hb hw => (h.permR i b ho p x (old p x hx) hb hw).app u,
    fun p x b hx hb => Nat.lt_of_lt_of_le (h.old p x b (old p x hx) hb) hs, fun said => noRace_quiet (h.clean said) hu, fun p x b hx hk hb => h.sync p x b (old p x hx) hk hb⟩
  · rw [hf b (fun e => by rw [e, hBL] at hl; cases hl) (lt_size (h.lent b o hl))]; exact h.lent b o hl
  · exact (h.agr i).congr fun b hb => hf b (fun e => hB i (e ▸ hb)) (h.knows_lt hb)

/-- A step of goroutine i that touches nothing but block B, of which nobody knows, and knows of what there conflicts. -/
theorem Fit.beside (h : Fit L K w t) (B i : Nat) (hB : ∀ j, ¬ (K j).knows B) (hBL : L B = none) (hBw : B < w.heap.size) (hs : w.heap.size ≤ w'.heap.size) (hf : ∀ b, b ≠ B → b < w.heap.size → w'.heap[b]? = w.heap[b]?)
    (hg : ∀ op ∈ u, op.g = i) (hu : ∀ op ∈ u, ∀ x, op.act.touch? = some x → blk x.loc = some B ∧ ∀ said p a, touchAt t p = some a → a.conflicts said x → Knows t i p) : Fit L K w' (t ++ u) := by
  have old : ∀ b, b ≠ B → ∀ p x, touchAt (t ++ u) p = some x → blk x.loc = some b → touchAt t p = some x := fun b hne p x hx hb => by
    rcases touchAt_cases hx with ⟨_, h'⟩ | ⟨_, op, hm, _, hxo⟩
    · exact h'
    · have := (hu op hm x hxo).1
      rw [hb] at this; exact absurd (Option.some.inj this) hne
  have ne : ∀ j b, (K j).knows b → b ≠ B := fun j b hk e => hB j (e ▸ hk)
  refine ⟨fun b o hl => ?_, h.lentSep, fun i => ?_, h.sep, fun j b ho p x hx hb => (h.perm j b ho p x (old b (ne j b (.inr ho)) p x hx hb) hb).app u,
    fun j b ho p x hx hb hw => (h.permR j b ho p x (old b (ne j b (.inl ho)) p x hx hb) hb hw).app u,
    fun p x b hx hb => ?_, fun said => noRace_append (h.clean said) hg fun p a ha op hm b hb hc => (hu op hm b hb).2 said p a ha hc, fun p x b hx hk hb => ?_⟩
  · rw [hf b (fun e => by rw [e, hBL] at hl; cases hl) (lt_size (h.lent b o hl))]; exact h.lent b o hl
  · exact (h.agr i).congr fun b hb => hf b (fun e => hB i (e ▸ hb)) (h.knows_lt hb)
  · by_cases e : b = B
    · subst e; omega
    · exact Nat.lt_of_lt_of_le (h.old p x b (old b e p x hx hb) hb) hs
  · by_cases e : b = B
    · subst e; exact ⟨hBL, hB⟩
    · exact h.sync p x b (old b e p x hx hb) hk hb

theorem St.le.owns {s s' : St} (h : s.le s') {b : Nat} (hb : s.owns b) : s'.owns b := by
  obtain ⟨R, h1, _⟩ := h
  obtain ⟨o, ho⟩ := hb
  exact ⟨o, h1.mem_iff.2 (by simp [ho])⟩
theorem St.le.ro {s s' : St} (h : s.le s') {b : Nat} (hb : s.ro b ≠ none) : s'.ro b ≠ none ∨ s'.owns b := by
  obtain ⟨R, h1, h2⟩ := h
  cases hr : s.ro b with
  | none => exact absurd hr hb
  | some o =>
    rcases h2 b o hr with h3 | h3
    · exact .inl (by rw [h3]; simp)
    · exact .inr ⟨o, h1.mem_iff.2 (by simp [h3])⟩
theorem St.le.knows {s s' : St} (h : s.le s') {b : Nat} (hb : s.knows b) : s'.knows b := hb.elim (fun hr => (h.ro hr).elim .inl .inr) fun ho => .inr (h.owns ho)

/-- Knowledge may be forgotten; what one owns may be only known from now on. -/
theorem Fit.le {K' : Nat → St} (h : Fit L K w t) (hK : ∀ i, (K' i).le (K i)) : Fit L K' w t :=
  ⟨h.lent, fun i b ho => h.lentSep i b ((hK i).owns ho), fun i => (h.agr i).of_le (hK i), fun i j b hij ho hk => h.sep i j b hij ((hK i).owns ho) ((hK j).knows hk),
    fun i b ho p x hx hb => h.perm i b ((hK i).owns ho) p x hx hb,
    fun i b ho p x hx hb hw => ((hK i).ro ho).elim (fun hr => h.permR i b hr p x hx hb hw) fun hr => h.perm i b hr p x hx hb, h.old, h.clean,
    fun p x b hx hk hb => ⟨(h.sync p x b hx hk hb).1, fun i hi => (h.sync p x b hx hk hb).2 i ((hK i).knows hi)⟩⟩

/-- What a goroutine owns is lent: nobody owns it. -/
theorem Fit.lend {L' : Nat → Option Obj} (h : Fit L K w t) (hl : ∀ b o, L' b = some o → w.heap[b]? = some o) (hn : ∀ i b, (K i).owns b → L' b = none)
    (hs : ∀ b, L' b ≠ none → L b ≠ none ∨ ∃ i, (K i).knows b) : Fit L' K w t :=
  ⟨hl, hn, h.agr, h.sep, h.perm, h.permR, h.old, h.clean, fun p x b hx hk hb => ⟨by
    cases hb' : L' b with
    | none => rfl
    | some o =>
      rcases hs b (by rw [hb']; simp) with h1 | ⟨i, h1⟩
      · exact absurd (h.sync p x b hx hk hb).1 h1
      · exact absurd h1 ((h.sync p x b hx hk hb).2 i), (h.sync p x b hx hk hb).2⟩⟩

/-- A goroutine that comes to know all that another knows takes over blocks. -/
theorem Fit.hand (h : Fit L K w t) {i j : Nat} (hij : i ≠ j) (X Y : List (Nat × Obj)) (hX : (K j).rw.Perm (X ++ Y))
    (hk : ∀ b o, (b, o) ∈ X → ∀ p x, touchAt t p = some x → blk x.loc = some b → Knows t i p) :
    Fit L (setK (setK K j ⟨(K j).ro, Y⟩) i ⟨(K i).ro, X ++ (K i).rw⟩) w t := by
  have hmem : ∀ x, x ∈ X → x ∈ (K j).rw := fun x hx => hX.mem_iff.2 (by simp [hx])
  have hmemY : ∀ x, x ∈ Y → x ∈ (K j).rw := fun x hx => hX.mem_iff.2 (by simp [hx])
  have hnd : (X.map (·.1)).Nodup ∧ (Y.map (·.1)).Nodup ∧ ∀ b o o', (b, o) ∈ X → (b, o') ∈ Y → False := by
    have := (hX.map (·.1)).nodup_iff.1 (h.agr j).nodup
    rw [List.map_append, List.nodup_append] at this
    exact ⟨this.1, this.2.1, fun b o o' h1 h2 => this.2.2 b (List.mem_map.2 ⟨_, h1, rfl⟩) b (List.mem_map.2 ⟨_, h2, rfl⟩) rfl⟩
  have e1 : setK (setK K j ⟨(K j).ro, Y⟩) i ⟨(K i).ro, X ++ (K i).rw⟩ i = ⟨(K i).ro, X ++ (K i).rw⟩ := setK_same _ _ _
  have e2 : setK (setK K j ⟨(K j).ro, Y⟩) i ⟨(K i).ro, X ++ (K i).rw⟩ j = ⟨(K j).ro, Y⟩ := by rw [setK_ne _ _ (Ne.symm hij), setK_same]
  have e3 : ∀ k, k ≠ i → k ≠ j → setK (setK K j ⟨(K j).ro, Y⟩) i ⟨(K i).ro, X ++ (K i).rw⟩ k = K k := fun k h1 h2 => by rw [setK_ne _ _ h1, setK_ne _ _ h2]
  have own_i : ∀ b, (⟨(K i).ro, X ++ (K i).rw⟩ : St).owns b → (∃ o, (b, o) ∈ X) ∨ (K i).owns b := fun b ⟨o, ho⟩ => (List.mem_append.1 ho).elim (fun h' => .inl ⟨o, h'⟩) fun h' => .inr ⟨o, h'⟩
  have own_j : ∀ b, (⟨(K j).ro, Y⟩ : St).owns b → (K j).owns b ∧ ¬ ∃ o, (b, o) ∈ X := fun b ⟨o, ho⟩ => ⟨⟨o, hmemY _ ho⟩, fun ⟨o', h'⟩ => hnd.2.2 b o' o h' ho⟩
  have jX : ∀ b, (∃ o, (b, o) ∈ X) → (K j).owns b := fun b ⟨o, ho⟩ => ⟨o, hmem _ ho⟩
  have knows_k : ∀ k b, k ≠ i → (setK (setK K j ⟨(K j).ro, Y⟩) i ⟨(K i).ro, X ++ (K i).rw⟩ k).knows b → (K k).knows b ∧ (k = j → ¬ ∃ o, (b, o) ∈ X) := fun k b hk' hb => by
    by_cases e : k = j
    · subst e
      rw [e2] at hb
      rcases hb with hb | hb
      · refine ⟨.inl hb, fun _ ⟨o, ho⟩ => hb ((h.agr k).apart b o (hmem _ ho))⟩
      · exact ⟨.inr (own_j b hb).1, fun _ => (own_j b hb).2⟩
    · rw [e3 k hk' e] at hb; exact ⟨hb, fun e' => absurd e' e⟩
  refine ⟨h.lent, fun k b ho => ?_, fun k => ?_, fun k l b hkl ho hb => ?_, fun k b ho p x hx hb => ?_, fun k b ho p x hx hb hw => ?_, h.old, h.clean, fun p x b hx hk' hb => ⟨(h.sync p x b hx hk' hb).1, fun k hkn => ?_⟩⟩
  case refine_6 =>
    have hs := (h.sync p x b hx hk' hb).2
    by_cases a : k = i
    · subst a; rw [e1] at hkn
      rcases hkn with h' | h'
      · exact hs k (.inl h')
      · exact (own_i b h').elim (fun h' => hs j (.inr (jX b h'))) fun h' => hs k (.inr h')
    · exact hs k (knows_k k b a hkn).1
  · by_cases a : k = i
    · subst a; rw [e1] at ho
      exact (own_i b ho).elim (fun h' => h.lentSep j b (jX b h')) (h.lentSep k b)
    · by_cases c : k = j
      · subst c; rw [e2] at ho; exact h.lentSep k b (own_j b ho).1
      · rw [e3 k a c] at ho; exact h.lentSep k b ho
  · by_cases a : k = i
    · subst a; rw [e1]
      refine ⟨(h.agr k).ro, fun b o hb => (List.mem_append.1 hb).elim (fun h' => (h.agr j).rw b o (hmem _ h')) ((h.agr k).rw b o), ?_, fun b o hb => ?_⟩
      · rw [List.map_append, List.nodup_append]
        refine ⟨hnd.1, (h.agr k).nodup, ?_⟩
        rintro b h1 _ h2 rfl
        obtain ⟨⟨b1, o1⟩, m1, rfl⟩ := List.mem_map.1 h1
        obtain ⟨⟨b2, o2⟩, m2, he⟩ := List.mem_map.1 h2
        simp only at he; subst he
        exact h.sep j k b2 (Ne.symm hij) (jX b2 ⟨o1, m1⟩) (.inr ⟨o2, m2⟩)
      · rcases List.mem_append.1 hb with h' | h'
        · cases hr : (K k).ro b with
          | none => rfl
          | some y => exact absurd (.inl (by rw [hr]; simp)) (h.sep j k b (Ne.symm hij) (jX b ⟨o, h'⟩))
        · exact (h.agr k).apart b o h'
    · by_cases c : k = j
      · subst c; rw [e2]
        exact ⟨(h.agr k).ro, fun b o hb => (h.agr k).rw b o (hmemY _ hb), hnd.2.1, fun b o hb => (h.agr k).apart b o (hmemY _ hb)⟩
      · rw [e3 k a c]; exact h.agr k
  · by_cases a : k = i
    · subst a
      rw [e1] at ho
      have hk' := knows_k l b (Ne.symm hkl) hb
      rcases own_i b ho with h' | h'
      · by_cases c : l = j
        · exact hk'.2 c h'
        · exact h.sep j l b (Ne.symm c) (jX b h') hk'.1
      · exact h.sep k l b hkl h' hk'.1
    · have ho' : (K k).owns b ∧ (k = j → ¬ ∃ o, (b, o) ∈ X) := by
        by_cases c : k = j
        · subst c; rw [e2] at ho; exact ⟨(own_j b ho).1, fun _ => (own_j b ho).2⟩
        · rw [e3 k a c] at ho; exact ⟨ho, fun e => absurd e c⟩
      by_cases c : l = i
      · subst c
        rw [e1] at hb
        rcases hb with hb | hb
        · exact h.sep k l b hkl ho'.1 (.inl hb)
        · rcases own_i b hb with h' | h'
          · by_cases d : k = j
            · exact ho'.2 d h'
            · exact h.sep k j b d ho'.1 (.inr (jX b h'))
          · exact h.sep k l b hkl ho'.1 (.inr h')
      · exact h.sep k l b hkl ho'.1 (knows_k l b c hb).1
  · by_cases a : k = i
    · subst a; rw [e1] at ho
      exact (own_i b ho).elim (fun ⟨o, h'⟩ => hk b o h' p x hx hb) fun h' => h.perm k b h' p x hx hb
    · by_cases c : k = j
      · subst c; rw [e2] at ho; exact h.perm k b (own_j b ho).1 p x hx hb
      · rw [e3 k a c] at ho; exact h.perm k b ho p x hx hb
  · by_cases a : k = i
    · subst a; rw [e1] at ho; exact h.permR k b ho p x hx hb hw
    · by_cases c : k = j
      · subst c; rw [e2] at ho; exact h.permR k b ho p x hx hb hw
      · rw [e3 k a c] at ho; exact h.permR k b ho p x hx hb hw

/-- A goroutine that knows what another knows comes to know blocks that this one knows of. -/
theorem Fit.share (h : Fit L K w t) {i n : Nat} (hin : i ≠ n) (s : St) (hrw : s.rw = []) (hro : ∀ b o, s.ro b = some o → (K i).ro b = some o)
    (hk : ∀ b, s.ro b ≠ none → ∀ p x, touchAt t p = some x → blk x.loc = some b → x.write = true → Knows t n p) : Fit L (setK K n s) w t := by
  have no : ∀ b, ¬ s.owns b := fun b ⟨o, ho⟩ => by rw [hrw] at ho; cases ho
  have kn : ∀ b, s.ro b ≠ none → (K i).ro b ≠ none := fun b hb => by
    cases hr : s.ro b with
    | none => exact absurd hr hb
    | some o => rw [hro b o hr]; simp
  refine ⟨h.lent, fun k b ho => ?_, fun k => ?_, fun k l b hkl ho hb => ?_, fun k b ho p x hx hb => ?_, fun k b ho p x hx hb hw => ?_, h.old, h.clean, fun p x b hx hk' hb => ⟨(h.sync p x b hx hk' hb).1, fun k hkn => ?_⟩⟩
  case refine_6 =>
    have hs := (h.sync p x b hx hk' hb).2
    by_cases a : k = n
    · subst a; rw [setK_same] at hkn; exact hs i (.inl (kn b (hkn.resolve_right (no b))))
    · rw [setK_ne _ _ a] at hkn; exact hs k hkn
  · by_cases a : k = n
    · subst a; rw [setK_same] at ho; exact absurd ho (no b)
    · rw [setK_ne _ _ a] at ho; exact h.lentSep k b ho
  · by_cases a : k = n
    · subst a; rw [setK_same]; exact ⟨fun b o hb => (h.agr i).ro b o (hro b o hb), fun b o hb => absurd ⟨o, hb⟩ (no b), by rw [hrw]; simp, fun b o hb => absurd ⟨o, hb⟩ (no b)⟩
    · rw [setK_ne _ _ a]; exact h.agr k
  · by_cases a : k = n
    · subst a; rw [setK_same] at ho; exact no b ho
    · rw [setK_ne _ _ a] at ho
      by_cases c : l = n
      · subst c; rw [setK_same] at hb
        have hr := kn b (hb.resolve_right (no b))
        by_cases d : k = i
        · subst d
          obtain ⟨o, ho⟩ := ho
          exact hr ((h.agr k).apart b o ho)
        · exact h.sep k i b d ho (.inl hr)
      · rw [setK_ne _ _ c] at hb; exact h.sep k l b hkl ho hb
  · by_cases a : k = n
    · subst a; rw [setK_same] at ho; exact absurd ho (no b)
    · rw [setK_ne _ _ a] at ho; exact h.perm k b ho p x hx hb
  · by_cases a : k = n
    · subst a; rw [setK_same] at ho; exact hk b ho p x hx hb hw
    · rw [setK_ne _ _ a] at ho; exact h.permR k b ho p x hx hb hw

/-- When nobody else knows anything, and goroutine i knows of every touch: it may own all. -/
theorem Fit.alone (h : Fit L K w t) {i : Nat} (hK : ∀ j, j ≠ i → ∀ b, ¬ (K j).knows b) (s : St) (ha : Agrees s w)
    (hin : ∀ b, s.knows b → L b ≠ none ∨ (K i).knows b) (hk' : ∀ b, s.knows b → ∀ p x, touchAt t p = some x → x.kind = .plain → blk x.loc = some b → Knows t i p) :
    Fit (fun _ => none) (setK K i s) w t := by
  have notS : ∀ b, s.knows b → ∀ p x, touchAt t p = some x → blk x.loc = some b → x.kind = .plain := fun b hb p x hx hxb => by
    by_cases e : x.kind = .plain
    · exact e
    · have hs := h.sync p x b hx e hxb
      exact ((hin b hb).elim (fun h' => h' hs.1) fun h' => hs.2 i h').elim
  have hk : ∀ b, s.knows b → ∀ p x, touchAt t p = some x → blk x.loc = some b → Knows t i p := fun b hb p x hx hxb => hk' b hb p x hx (notS b hb p x hx hxb) hxb
  refine ⟨fun b o hl => ((by cases hl)), fun _ _ _ => rfl, fun k => ?_, fun k l b hkl ho hb => ?_, fun k b ho p x hx hb => ?_, fun k b ho p x hx hb hw => ?_, h.old, h.clean, fun p x b hx hkd hb => ⟨rfl, fun k hkn => ?_⟩⟩
  case refine_5 =>
    by_cases a : k = i
    · subst a; rw [setK_same] at hkn; exact hkd (notS b hkn p x hx hb)
    · rw [setK_ne _ _ a] at hkn; exact hK k a b hkn
  · by_cases a : k = i
    · subst a; rw [setK_same]; exact ha
    · rw [setK_ne _ _ a]; exact h.agr k
  · by_cases a : k = i
    · rw [setK_ne _ _ (fun e => hkl (a.trans e.symm))] at hb; exact hK l (fun e => hkl (a.trans e.symm)) b hb
    · rw [setK_ne _ _ a] at ho; exact hK k a b (.inr ho)
  · by_cases a : k = i
    · subst a; rw [setK_same] at ho; exact hk b (.inr ho) p x hx hb
    · rw [setK_ne _ _ a] at ho; exact absurd (.inr ho) (hK k a b)
  · by_cases a : k = i
    · subst a; rw [setK_same] at ho; exact hk b (.inl ho) p x hx hb
    · rw [setK_ne _ _ a] at ho; exact absurd (.inl ho) (hK k a b)
end
end Go.L
namespace Go.L
open Go Go.Conc

/-! ### A goroutine's own way to a stop -/
inductive Tree : Type
  | leaf
  | node (f : World → Tree)
inductive Tree.Lt : Tree → Tree → Prop
  | mk (f : World → Tree) (w : World) : Tree.Lt (f w) (.node f)
theorem Tree.wf : WellFounded Tree.Lt := by
  refine ⟨fun t => ?_⟩
  induction t with
  | leaf => exact ⟨_, fun y h => (by cases h)⟩
  | node f ih => exact ⟨_, fun y h => by cases h; exact ih _⟩

/-- By own steps only, whatever the others do meanwhile, goroutine g comes to 'Stop'. -/
def Tread (P : Program) (main : Bool) (Stop : Goroutine → St → Prop) : Tree → Goroutine → St → Prop
  | .leaf, g, s => Stop g s
  | .node f, g, s => g.status = .running ∧ ∀ w, Agrees s w → ∃ g' w' es s', stepG P main g w = .go g' w' es ∧ g'.status = .running ∧ Trans s w s' w' es ∧ Tread P main Stop (f w) g' s'

theorem St.le.trans {a b c : St} (h : a.le b) (k : b.le c) : a.le c := by
  obtain ⟨R, h1, h2⟩ := h
  obtain ⟨R', k1, k2⟩ := k
  refine ⟨R ++ R', ?_, fun x o hx => ?_⟩
  · rw [← List.append_assoc]; exact k1.trans (h1.append_right R')
  · rcases h2 x o hx with h3 | h3
    · exact (k2 x o h3).imp id fun h' => by simp [h']
    · exact .inr (by simp [h3])
theorem Trans.le {s s' s₀ : St} {w w' : World} {es : Array Event} (h : Trans s w s' w' es) (hl : s₀.le s') : Trans s w s₀ w' es :=
  ⟨h.agr.of_le hl, h.size, h.frame, fun b hb => h.own b (hl.owns hb), fun b hb => (hl.ro hb).elim (h.ros b) fun ho => (h.own b ho).imp id .inr, h.os, h.output, h.tape, h.evs, h.low⟩

def Treads (P : Program) (main : Bool) (Stop : Goroutine → St → Prop) (g : Goroutine) (s : St) : Prop := ∃ tr s₀, s₀.le s ∧ Tread P main Stop tr g s₀

theorem treads_closed (P : Program) (main : Bool) (Stop : Goroutine → St → Prop) : Closed P main (Treads P main Stop) where
  step := fun g s hs h => by
    have key : ∀ w, ∃ tr, Agrees s w → ∃ g' w' es s', stepG P main g w = .go g' w' es ∧ g'.status = .running ∧ Trans s w s' w' es ∧ Tread P main Stop tr g' s' := fun w => by
      by_cases ha : Agrees s w
      · obtain ⟨g', w', es, s', h1, h2, h3, tr, s₀, hl, h4⟩ := h w ha
        exact ⟨tr, fun _ => ⟨g', w', es, s₀, h1, h2, h3.le hl, h4⟩⟩
      · exact ⟨.leaf, fun ha' => absurd ha' ha⟩
    refine ⟨.node fun w => (key w).choose, s, St.le_refl s, hs, fun w ha => (key w).choose_spec ha⟩
  mono := fun g s s' hl ⟨tr, s₀, h, ht⟩ => ⟨tr, s₀, h.trans hl, ht⟩
theorem Treads.stop {P : Program} {main : Bool} {Stop : Goroutine → St → Prop} {g : Goroutine} {s : St} (h : Stop g s) : Treads P main Stop g s := ⟨.leaf, s, St.le_refl s, h⟩

/-! ### Lists of which one element falls -/
section
variable {α : Type}
inductive One (r : α → α → Prop) : List α → List α → Prop
  | mk (a : List α) (x y : α) (b : List α) : r y x → One r (a ++ y :: b) (a ++ x :: b)
theorem One.cons_inv {r : α → α → Prop} {x : α} {l m : List α} (h : One r m (x :: l)) : (∃ y, m = y :: l ∧ r y x) ∨ ∃ l', m = x :: l' ∧ One r l' l := by
  generalize hk : x :: l = k at h
  obtain ⟨a, u, v, b, hr⟩ := h
  cases a with
  | nil => simp only [List.nil_append, List.cons.injEq] at hk; obtain ⟨rfl, rfl⟩ := hk; exact .inl ⟨v, rfl, hr⟩
  | cons c a => simp only [List.cons_append, List.cons.injEq] at hk; obtain ⟨rfl, rfl⟩ := hk; exact .inr ⟨_, rfl, .mk a u v b hr⟩
theorem One.acc {r : α → α → Prop} : ∀ l : List α, (∀ x ∈ l, Acc r x) → Acc (One r) l
  | [], _ => ⟨_, fun m h => by
      generalize hk : ([] : List α) = k at h
      obtain ⟨a, u, v, b, hr⟩ := h
      cases a <;> simp at hk⟩
  | x :: l, h => by
    have hl := One.acc l fun y hy => h y (List.mem_cons_of_mem _ hy)
    have hx := h x (List.mem_cons_self ..)
    clear h
    induction hx generalizing l with
    | intro x hx ihx =>
      clear hx
      induction hl with
      | intro l hl ihl =>
        refine ⟨_, fun m hm => ?_⟩
        rcases hm.cons_inv with ⟨y, rfl, hr⟩ | ⟨l', rfl, hr⟩
        · exact ihx y hr l ⟨_, hl⟩
        · exact ihl l' hr
theorem One.wf {r : α → α → Prop} (h : WellFounded r) : WellFounded (One r) := ⟨fun l => One.acc l fun x _ => h.apply x⟩
theorem One.set {r : α → α → Prop} {l : List α} {i : Nat} {x y : α} (h : l[i]? = some x) (hr : r y x) : One r (l.set i y) l := by
  obtain ⟨hi, rfl⟩ := List.getElem?_eq_some_iff.1 h
  have e1 : l = l.take i ++ l[i] :: l.drop (i + 1) := by
    rw [List.getElem_cons_drop, List.take_append_drop]
  have e2 : l.set i y = l.take i ++ y :: l.drop (i + 1) := by
    rw [List.set_eq_take_append_cons_drop, if_pos hi]
  rw [e2]
  conv => rhs; rw [e1]
  exact .mk _ _ _ _ hr
end
end Go.L
namespace Go.L
open Go Go.Conc
open Go.ConcR (KK wgBlock WgAt stA smA rd wr)
abbrev said (m : Mark) : Event := Go.ConcR.mk m

/-! ### What the goroutines of a crowd of workers with a closer come to: each at its stage -/
/-- Moves that list nothing and change nothing. -/
def Pure (P : Program) (main : Bool) (Live : World → Prop) (Stop : Goroutine → Prop) : Nat → Goroutine → Prop
  | 0, g => Stop g
  | n + 1, g => g.status = .running ∧ ∃ g', (∀ w, Live w → stepG P main g w = .go g' w #[]) ∧ Pure P main Live Stop n g'

/-- The group's block, the channel's block; how many workers at most; what a worker sends. -/
structure Crew (ι : Type) where
  P : Program
  ty : TypeId
  Wg : Nat
  Ch : Nat
  max : Nat
  z : Value
  os : Os
  out : Array (Nat × ByteArray)
  Sent : ι → Value → List (Nat × Obj) → Prop

section
variable {ι : Type} (E : Crew ι)
def Crew.live (w : World) : Prop := ∃ st sm, WgAt E.ty E.Wg w st sm
def Crew.pure (main : Bool) (Stop : Goroutine → Prop) (g : Goroutine) : Prop := ∃ n, Pure E.P main E.live Stop n g

/-! #### a worker, from its end -/
def Crew.D4 (g : Goroutine) : Prop := g.status = .running ∧ mayWake E.P g = true ∧ ∃ g', (∀ w, WgAt E.ty E.Wg w 0 0 → stepG E.P false g w = .go g' (w.setCell (smA E.Wg) (.int .u32 1)) (semEvents (smA E.Wg))) ∧ ∃ q, QuitsD E.P q 1 g'
def Crew.D3 (g : Goroutine) : Prop := g.status = .running ∧ ∃ g', (∀ w, WgAt E.ty E.Wg w 1 0 → stepG E.P false g w = .go g' (w.setCell (stA E.Wg) (.int .u64 0)) #[wr (stA E.Wg)]) ∧ E.pure false E.D4 g'
def Crew.D2 (g : Goroutine) : Prop := g.status = .running ∧ ∃ g', (∀ w, WgAt E.ty E.Wg w 1 0 → stepG E.P false g w = .go g' w #[rd (stA E.Wg)]) ∧ E.pure false E.D3 g'
def Crew.D1 (g : Goroutine) : Prop := g.status = .running ∧ ∀ v wt : Nat, wt ≤ 1 → v < E.max →
  ∃ g', (∀ w, WgAt E.ty E.Wg w (((v + 1 : Nat) : Int) * KK + (wt : Int)) 0 → stepG E.P false g w = .go g' (w.setCell (stA E.Wg) (.int .u64 ((v : Int) * KK + (wt : Int)))) #[rd (stA E.Wg), wr (stA E.Wg)]) ∧
    ((v = 0 ∧ wt = 1) → E.pure false E.D2 g') ∧ (¬ (v = 0 ∧ wt = 1) → ∃ q, QuitsD E.P q 1 g')
def Crew.K1 (g : Goroutine) : Prop := g.status = .running ∧ ∃ g', (∀ w, stepG E.P false g w = .go g' w #[said .disable]) ∧ E.pure false E.D1 g'
def Crew.R0 (g : Goroutine) : Prop := g.status = .running ∧ ∃ g', (∀ w, stepG E.P false g w = .go g' w #[said (.releaseMerge (stA E.Wg))]) ∧ E.pure false E.K1 g'
def Crew.Back (g : Goroutine) (_ : St) : Prop := E.pure false E.R0 g
/-- The send. -/
def Crew.Send (o : ι) (g : Goroutine) (s : St) : Prop := g.status = .running ∧ ∃ g₂ v zs X Y, s.rw.Perm (X ++ Y) ∧ E.Sent o v X ∧
  (∀ w, Agrees s w → stepG E.P false g w = .comm g₂ #[scase E.Ch v zs] true .send w #[]) ∧ ∃ tr s₀, s₀.le ⟨s.ro, Y⟩ ∧ Tread E.P false E.Back tr (Conc.served g₂ undef) s₀

/-! #### the closer -/
def Crew.Shut (g : Goroutine) (_ : St) : Prop := g.status = .running ∧ mayWake E.P g = true ∧
  ∃ g', (∀ w s r tm, w.heap[E.Ch]? = some (.chan 0 #[] false s r tm) → stepG E.P false g w = .go g' { w with heap := w.heap.setIfInBounds E.Ch (.chan 0 #[] true s r tm) } #[⟨.obj E.Ch, false, true⟩, ⟨.obj E.Ch, true, true⟩]) ∧ ∃ q, QuitsD E.P q 0 g'
def Crew.Aq (s : St) (g : Goroutine) : Prop := g.status = .running ∧ ∃ g', (∀ w, stepG E.P false g w = .go g' w #[said (.acquire (stA E.Wg))]) ∧ ∃ tr s₀, s₀.le s ∧ Tread E.P false E.Shut tr g' s₀
def Crew.Ke (s : St) (g : Goroutine) : Prop := g.status = .running ∧ ∃ g', (∀ w, stepG E.P false g w = .go g' w #[said .enable]) ∧ E.pure false (E.Aq s) g'
def Crew.W4 (s : St) (g : Goroutine) : Prop := g.status = .running ∧ ∃ g', (∀ w, WgAt E.ty E.Wg w 0 0 → stepG E.P false g w = .go g' w #[rd (stA E.Wg)]) ∧ E.pure false (E.Ke s) g'
def Crew.W3 (s : St) (g : Goroutine) : Prop := g.status = .running ∧ g.offers = none ∧ (∀ w st, WgAt E.ty E.Wg w st 0 → stepG E.P false g w = .go { g with status := .blocked } w #[]) ∧
  ∃ g', (∀ w, WgAt E.ty E.Wg w 0 1 → stepG E.P false g w = .go g' (w.setCell (smA E.Wg) (.int .u32 0)) (semEvents (smA E.Wg))) ∧ E.pure false (E.W4 s) g'
def Crew.Wr (s : St) (g : Goroutine) : Prop := g.status = .running ∧ ∃ g', (∀ w, stepG E.P false g w = .go g' w #[said (.write (smA E.Wg))]) ∧ E.pure false (E.W3 s) g'
def Crew.W2 (Miss : Goroutine → Prop) (s : St) (vs : Nat) (g : Goroutine) : Prop := g.status = .running ∧
  (∃ g', (∀ w, WgAt E.ty E.Wg w ((vs : Int) * KK) 0 → stepG E.P false g w = .go g' (w.setCell (stA E.Wg) (.int .u64 ((vs : Int) * KK + 1))) #[rd (stA E.Wg), wr (stA E.Wg)]) ∧ E.pure false (E.Wr s) g') ∧
  ∀ v : Nat, v < vs → ∃ g', (∀ w, WgAt E.ty E.Wg w ((v : Int) * KK) 0 → stepG E.P false g w = .go g' w #[rd (stA E.Wg)]) ∧ Miss g'
/-- The loop's head, where b at most are still counted. -/
def Crew.W1 {ι : Type} (E : Crew ι) (s : St) : Nat → Goroutine → Prop
  | 0, g => g.status = .running ∧ ∃ g', (∀ w, WgAt E.ty E.Wg w 0 0 → stepG E.P false g w = .go g' w #[rd (stA E.Wg)]) ∧ E.pure false (E.Ke s) g'
  | b + 1, g => g.status = .running ∧ (∃ g', (∀ w, WgAt E.ty E.Wg w 0 0 → stepG E.P false g w = .go g' w #[rd (stA E.Wg)]) ∧ E.pure false (E.Ke s) g') ∧
      ∀ v, 1 ≤ v → v ≤ b + 1 → ∃ g', (∀ w, WgAt E.ty E.Wg w ((v : Int) * KK) 0 → stepG E.P false g w = .go g' w #[rd (stA E.Wg)]) ∧ E.pure false (E.W2 (E.pure false (E.W1 s b)) s v) g'
def Crew.Kd (s : St) (g : Goroutine) : Prop := g.status = .running ∧ ∃ g', (∀ w, stepG E.P false g w = .go g' w #[said .disable]) ∧ E.pure false (E.W1 s E.max) g'
def Crew.closes (s : St) (g : Goroutine) : Prop := E.pure false (E.Kd s) g

/-! #### where each stands -/
inductive WK where
  | r0 | k1 | d1 | d2 | d3 | d4
inductive Role (ι : Type) where
  | leave (q d : Nat) (cur : Bool)
  | work (o : ι) (tr : Tree)
  | sendB (o : ι)
  | back (tr : Tree)
  | st (k : WK) (n : Nat)
  | closer
def WK.stop : WK → Goroutine → Prop
  | .r0 => E.R0 | .k1 => E.K1 | .d1 => E.D1 | .d2 => E.D2 | .d3 => E.D3 | .d4 => E.D4
def WK.deaf : WK → Nat
  | .r0 | .k1 => 0
  | _ => 1
def WK.said : WK → Bool
  | .r0 => false
  | _ => true
def WK.rank : WK → Nat
  | .r0 => 6 | .k1 => 5 | .d1 => 4 | .d2 => 3 | .d3 => 2 | .d4 => 1
inductive CK where
  | kd | w1 (b : Nat) | w2 (b vs : Nat) | wr | w3 | blk | w4 | ke | aq | run (tr : Tree)
def CK.deaf : CK → Nat
  | .kd | .aq | .run _ => 0
  | _ => 1

/-- Goroutine i's counted touches are known to goroutine 0. -/
def KnownTo0 (t : Trace) (i : Nat) : Prop := ∀ p, t.g? p = some i → t.counts p → ∃ j, t.g? j = some 0 ∧ HappensBefore t p j

/-- What a role says of goroutine i. -/
def RoleOK (t : Trace) (i : Nat) (s : St) (g : Goroutine) : Role ι → Prop
  | .leave q d cur => s = ⟨fun _ => none, []⟩ ∧ QuitsD E.P q d g ∧ Deaf t i = d ∧ (cur = true → ∃ r, ConcN.RelBy (stA E.Wg) t i r) ∧ (cur = false → KnownTo0 t i)
  | .work o tr => Deaf t i = 0 ∧ Tread E.P false (E.Send o) tr g s
  | .sendB o => Deaf t i = 0 ∧ ∃ g₀ g₂ v zs X Y, g = parked g₂ #[scase E.Ch v zs] .send ∧ s.rw.Perm (X ++ Y) ∧ E.Sent o v X ∧ g₀ = g₂ ∧ ∃ tr s₀, s₀.le ⟨s.ro, Y⟩ ∧ Tread E.P false E.Back tr (Conc.served g₂ undef) s₀
  | .back tr => Deaf t i = 0 ∧ Tread E.P false E.Back tr g s
  | .st k n => s = ⟨fun _ => none, []⟩ ∧ Deaf t i = k.deaf ∧ Pure E.P false E.live (k.stop E) n g ∧ (k.said = true → ∃ r, ConcN.RelBy (stA E.Wg) t i r)
  | .closer => True
def CK.at (s : St) (g : Goroutine) (n : Nat) : CK → Prop
  | .kd => Pure E.P false E.live (E.Kd s) n g
  | .w1 b => Pure E.P false E.live (E.W1 s b) n g
  | .w2 b vs => Pure E.P false E.live (E.W2 (E.pure false (E.W1 s b)) s vs) n g
  | .wr => Pure E.P false E.live (E.Wr s) n g
  | .w3 => ∃ m, n = m + 1 ∧ Pure E.P false E.live (E.W3 s) m g
  | .blk => n = 0 ∧ ∃ g₀, E.W3 s g₀ ∧ g = { g₀ with status := .blocked }
  | .w4 => Pure E.P false E.live (E.W4 s) n g
  | .ke => Pure E.P false E.live (E.Ke s) n g
  | .aq => Pure E.P false E.live (E.Aq s) n g
  | .run tr => n = 0 ∧ Tread E.P false E.Shut tr g s
end
end Go.L
namespace Go.L
open Go Go.Conc
open Go.ConcR (KK wgBlock WgAt stA smA rd wr)

section
variable {ι : Type} {E : Crew ι} {t u : Trace} {i j : Nat} {s : St} {g : Goroutine}

theorem Pure.running {P : Program} {main : Bool} {Live : World → Prop} {Stop : Goroutine → Prop} (hS : ∀ g, Stop g → g.status = .running) : ∀ {n : Nat} {g : Goroutine}, Pure P main Live Stop n g → g.status = .running
  | 0, _, h => hS _ h
  | _ + 1, _, h => h.1
theorem Crew.pure.running {main : Bool} {Stop : Goroutine → Prop} (hS : ∀ g, Stop g → g.status = .running) (h : E.pure main Stop g) : g.status = .running := Pure.running hS h.choose_spec
theorem WK.running : ∀ (k : WK) (g : Goroutine), k.stop E g → g.status = .running
  | .r0, _, h => h.1
  | .k1, _, h => h.1
  | .d1, _, h => h.1
  | .d2, _, h => h.1
  | .d3, _, h => h.1
  | .d4, _, h => h.1
theorem Tread.running {P : Program} {main : Bool} {Stop : Goroutine → St → Prop} (hS : ∀ g s, Stop g s → g.status = .running) : ∀ {tr : Tree} {g : Goroutine} {s : St}, Tread P main Stop tr g s → g.status = .running
  | .leaf, _, _, h => hS _ _ h
  | .node _, _, _, h => h.1

theorem KnownTo0.other (h : KnownTo0 t j) (hu : ∀ op ∈ u, op.g ≠ j) : KnownTo0 (t ++ u) j := by
  intro p hp hc
  obtain ⟨op, ho, hg⟩ := Option.map_eq_some_iff.1 hp
  rcases getElem?_append_cases ho with ⟨hlt, _⟩ | ⟨_, hm⟩
  · obtain ⟨q, h1, h2⟩ := h p (by rw [← g?_old (u := u) hlt]; exact hp) ((counts_old hlt).1 hc)
    have hq : q < t.size := by
      obtain ⟨o, ho, _⟩ := Option.map_eq_some_iff.1 h1
      exact lt_size_of_getElem? ho
    exact ⟨q, by rw [g?_old hq]; exact h1, hb_app u h2⟩
  · exact absurd hg (hu op hm)

theorem RelBy.other {a : Addr} {r : Nat} (h : ConcN.RelBy a t j r) (hu : ∀ op ∈ u, op.g ≠ j) : ConcN.RelBy a (t ++ u) j r := by
  refine h.app fun p hp hg => ?_
  obtain ⟨op, ho, hgo⟩ := Option.map_eq_some_iff.1 hg
  rcases getElem?_append_cases ho with ⟨hlt, _⟩ | ⟨_, hm⟩
  · omega
  · exact absurd hgo (hu op hm)

theorem Deaf_others (t : Trace) {g : Nat} (u : Trace) (hu : ∀ op ∈ u, op.g ≠ g) : Deaf (t ++ u) g = Deaf t g := by
  obtain ⟨l⟩ := u
  rw [Deaf_append]
  induction l generalizing t with
  | nil => rfl
  | cons y l ih =>
    have hy : y.g ≠ g := hu y (by simp)
    have e1 : deafStep g (Deaf t g) y = Deaf t g := by
      unfold deafStep
      split <;> simp [hy]
    rw [List.foldl_cons, e1]
    exact ih t (fun op hop => hu op (by simp at hop ⊢; exact .inr hop))

/-- What others do leaves a role as it is. -/
theorem RoleOK.other {r : Role ι} (h : RoleOK E t j s g r) (hu : ∀ op ∈ u, op.g ≠ j) : RoleOK E (t ++ u) j s g r := by
  have hd := Deaf_others t u hu
  cases r with
  | leave q d cur => exact ⟨h.1, h.2.1, by rw [hd]; exact h.2.2.1, fun hc => let ⟨r, hr⟩ := h.2.2.2.1 hc; ⟨r, RelBy.other hr hu⟩, fun hc => (h.2.2.2.2 hc).other hu⟩
  | work o tr => exact ⟨by rw [hd]; exact h.1, h.2⟩
  | sendB o => exact ⟨by rw [hd]; exact h.1, h.2⟩
  | back tr => exact ⟨by rw [hd]; exact h.1, h.2⟩
  | st k n => exact ⟨h.1, by rw [hd]; exact h.2.1, h.2.2.1, fun hc => let ⟨r, hr⟩ := h.2.2.2 hc; ⟨r, RelBy.other hr hu⟩⟩
  | closer => trivial

theorem RoleOK.running {r : Role ι} (h : RoleOK E t j s g r) (h1 : ∀ o, r ≠ .sendB o) (h2 : r ≠ .closer) : g.status = .running ∨ g.status = .finished := by
  cases r with
  | leave q d cur => exact h.2.1.status
  | work o tr => exact .inl (Tread.running (fun _ _ x => x.1) h.2)
  | sendB o => exact absurd rfl (h1 o)
  | back tr => exact .inl (Tread.running (fun _ _ x => Crew.pure.running (fun _ y => y.1) x) h.2)
  | st k n => exact .inl (Pure.running (WK.running k) h.2.2.1)
  | closer => exact absurd rfl h2

theorem RoleOK.woken {r : Role ι} (h : RoleOK E t j s g r) (h2 : r ≠ .closer) {a a' : Goroutine} {w' : World} (ho : (∃ o, r = .sendB o) → ∃ sn rc tm, w'.heap[E.Ch]? = some (.chan 0 #[] false sn rc tm)) :
    woken E.P a a' w' g = g := by
  by_cases hb : ∃ o, r = .sendB o
  · obtain ⟨sn, rc, tm, hc⟩ := ho hb
    obtain ⟨o, rfl⟩ := hb
    obtain ⟨_, g₀, g₂, v, zs, X, Y, rfl, _⟩ := h
    exact woken_send_open a a' hc
  · have := h.running (fun o e => hb ⟨o, e⟩) h2
    unfold Go.Conc.woken
    split
    · exact again_running _ this
    · rfl

/-- Nothing of the world beside its memory and its tape has turned. -/
def Same (w w' : World) : Prop := w'.os = w.os ∧ w'.output = w.output
/-- All but the group and the channel. -/
structure Base (E : Crew ι) (L : Nat → Option Obj) (K : Nat → St) (gs : Array Goroutine) (w : World) (t : Trace) (D : List (Role ι)) : Prop where
  fit : Fit L K w t
  size : gs.size = D.length + 1
  ok : ∀ i r, D[i]? = some r → ∃ g, gs[i + 1]? = some g ∧ RoleOK E t (i + 1) (K (i + 1)) g r
  far : ∀ i, gs.size ≤ i → ∀ b, ¬ (K i).knows b
  ops : ∀ op ∈ t, op.g < gs.size
  same : w.os = E.os ∧ w.output = E.out

theorem get_woken {P : Program} {gs : Array Goroutine} {i k : Nat} {g g' x : Goroutine} {w' : World} (hki : k ≠ i) (hk : gs[k]? = some x) : ((gs.map (woken P g g' w')).setIfInBounds i g')[k]? = some (woken P g g' w' x) := by
  rw [Array.getElem?_setIfInBounds_ne (Ne.symm hki)]; simp [hk]

/-- AN OWN STEP of goroutine i + 1. -/
theorem Base.step {L : Nat → Option Obj} {K : Nat → St} {gs : Array Goroutine} {w w' : World} {D : List (Role ι)} (h : Base E L K gs w t D) {i : Nat} {r' : Role ι} (hi : i < D.length) {g' : Goroutine} {s' : St}
    (hu : ∀ op ∈ u, op.g = i + 1) (hsm : Same w w') (hfit : Fit L (setK K (i + 1) s') w' (t ++ u)) (hr : RoleOK E (t ++ u) (i + 1) s' g' r')
    (ho : ∀ (k : Nat) (o : ι), k ≠ i → D[k]? = some (.sendB o) → ∃ sn rc tm, w'.heap[E.Ch]? = some (.chan 0 #[] false sn rc tm)) :
    Base E L (setK K (i + 1) s') ((gs.map (woken E.P g g' w')).setIfInBounds (i + 1) g') w' (t ++ u) (D.set i r') := by
  refine ⟨hfit, by simp [h.size], fun k r hk => ?_, fun k hk => ?_, fun op hop => ?_, ⟨hsm.1.trans h.same.1, hsm.2.trans h.same.2⟩⟩
  · by_cases e : k = i
    · subst e
      have hr' : r = r' := by simpa [List.getElem?_set, hi] using hk.symm
      subst hr'
      exact ⟨g', by simp [h.size, hi], by rw [setK_same]; exact hr⟩
    · rw [List.getElem?_set_ne (Ne.symm e)] at hk
      obtain ⟨x, hx, hok⟩ := h.ok k r hk
      have hne : k + 1 ≠ i + 1 := by omega
      rw [setK_ne K s' hne]
      have hok' := hok.other (u := u) fun op hop => by rw [hu op hop]; omega
      by_cases hc : r = .closer
      · subst hc; exact ⟨_, get_woken hne hx, trivial⟩
      · refine ⟨x, ?_, hok'⟩
        rw [get_woken hne hx, hok.woken hc fun ⟨o, e'⟩ => ho k o e (e' ▸ hk)]
  · rw [Array.size_setIfInBounds, Array.size_map] at hk
    rw [setK_ne K s' (by have := h.size; omega)]
    exact h.far k hk
  · rw [Array.size_setIfInBounds, Array.size_map]
    rcases Array.mem_append.1 hop with h' | h'
    · exact h.ops op h'
    · rw [hu op h', h.size]; omega
end
end Go.L
namespace Go.L
open Go Go.Conc
open Go.ConcR (KK wgBlock WgAt stA smA rd wr)

def Role.cnt {ι : Type} : Role ι → Nat
  | .work .. | .sendB _ | .back _ | .st .r0 _ | .st .k1 _ | .st .d1 _ => 1
  | _ => 0
def Role.c4 {ι : Type} : Role ι → Nat
  | .st .d2 _ => 1
  | _ => 0
def Role.c3 {ι : Type} : Role ι → Nat
  | .st .d3 _ => 1
  | _ => 0
def Role.c2 {ι : Type} : Role ι → Nat
  | .st .d4 _ => 1
  | _ => 0
def Role.owe {ι : Type} : Role ι → Option ι
  | .work o _ | .sendB o => some o
  | _ => none
def Role.early {ι : Type} : Role ι → Prop
  | .leave _ _ c => c = false
  | .work .. | .sendB _ => True
  | _ => False
def Role.cur {ι : Type} : Role ι → Bool
  | .leave _ _ c => c
  | _ => false
def Role.left {ι : Type} : Role ι → Bool
  | .leave .. => true
  | _ => false
def tot {ι : Type} (f : Role ι → Nat) (D : List (Role ι)) : Nat := (D.map f).sum

theorem tot_set {ι : Type} (f : Role ι → Nat) {x y : Role ι} : ∀ {D : List (Role ι)} {i : Nat}, D[i]? = some x → tot f (D.set i y) + f x = tot f D + f y
  | [], i, h => by simp at h
  | a :: D, 0, h => by simp only [List.getElem?_cons_zero, Option.some.injEq] at h; subst h; simp [tot]; omega
  | a :: D, i + 1, h => by
    have := tot_set f (y := y) (D := D) (i := i) (by simpa using h)
    simp only [tot, List.set_cons_succ, List.map_cons, List.sum_cons] at this ⊢; omega

def CK.early : CK → Prop
  | .kd | .w1 _ | .w2 .. | .wr => True
  | _ => False
def CK.waits : CK → Prop
  | .wr | .w3 | .blk => True
  | _ => False
def CK.over : CK → Prop
  | .w4 | .ke | .aq | .run _ => True
  | _ => False
/-- How the group's cells hang on where everybody stands: n counted, n4, n3, n2: the last one on its way. -/
inductive Md (mx : Nat) : (n n4 n3 n2 : Nat) → Option CK → Int → Int → Prop
  | start {n : Nat} : Md mx n 0 0 0 none ((n : Int) * KK) 0
  | kd {n : Nat} : Md mx n 0 0 0 (some .kd) ((n : Int) * KK) 0
  | w1 {n b : Nat} : n ≤ b → Md mx n 0 0 0 (some (.w1 b)) ((n : Int) * KK) 0
  | w2 {n b v : Nat} : n ≤ v → 1 ≤ v → v ≤ b + 1 → Md mx n 0 0 0 (some (.w2 b v)) ((n : Int) * KK) 0
  | reg {n : Nat} {c : CK} : c.waits → 1 ≤ n → Md mx n 0 0 0 (some c) ((n : Int) * KK + 1) 0
  | l4 {c : CK} : c.waits → Md mx 0 1 0 0 (some c) 1 0
  | l3 {c : CK} : c.waits → Md mx 0 0 1 0 (some c) 1 0
  | l2 {c : CK} : c.waits → Md mx 0 0 0 1 (some c) 0 0
  | sema {c : CK} : c.waits → c ≠ .blk → Md mx 0 0 0 0 (some c) 0 1
  | over {c : CK} : c.over → Md mx 0 0 0 0 (some c) 0 0

section
variable {ι : Type} (E : Crew ι)
def AcqAll (t : Trace) (D : List (Role ι)) (ic : Nat) : Prop :=
  ∃ q, t.act? q = some (.mark (.acquire (stA E.Wg))) ∧ t.g? q = some (ic + 1) ∧ t.heard q ∧ ∀ (i : Nat) (r : Role ι), D[i]? = some r → r.cur = true → ∃ p, ConcN.RelBy (stA E.Wg) t (i + 1) p ∧ p < q

def Crew.At (x : Touch) : Prop := blk x.loc = some E.Wg ∨ blk x.loc = some E.Ch
abbrev Clo := Option (Nat × CK × Nat)
def CloOK (K : Nat → St) (gs : Array Goroutine) (t : Trace) (D : List (Role ι)) : Clo → Prop
  | none => ∀ r ∈ D, r.early
  | some (ic, c, n) => D[ic]? = some .closer ∧ (∀ k, D[k]? = some .closer → k = ic) ∧ Deaf t (ic + 1) = c.deaf ∧ (∃ gc, gs[ic + 1]? = some gc ∧ c.at E (K (ic + 1)) gc n) ∧ ((∃ tr, c = .run tr) → AcqAll E t D ic)
def Said (t : Trace) : Clo → Prop
  | none => ∀ p x, touchAt t p = some x → blk x.loc = some E.Wg → x.kind = .said → Knows t 0 p
  | some (ic, c, _) => c.early → ∀ p x, touchAt t p = some x → blk x.loc = some E.Wg → x.kind = .said → Knows t (ic + 1) p

/-- The group and the channel, while the closer has not closed it. -/
structure Sy (L : Nat → Option Obj) (K : Nat → St) (gs : Array Goroutine) (w : World) (t : Trace) (D : List (Role ι)) (pend : Nat) (cl : Clo) : Prop where
  kW : ∀ i, ¬ (K i).knows E.Wg
  kC : ∀ i, ¬ (K i).knows E.Ch
  lW : L E.Wg = none
  lC : L E.Ch = none
  ne : E.Wg ≠ E.Ch
  norel : ∀ a, NoRelease a t
  plain : ∀ i, (i = 0 ∨ ∃ k r, i = k + 1 ∧ D[k]? = some r ∧ r.left = false) → ∀ p x, touchAt t p = some x → E.At x → x.kind = .plain → Knows t i p
  said : Said E t cl
  cells : ∃ st sm, WgAt E.ty E.Wg w st sm ∧ Md E.max (tot Role.cnt D + pend) (tot Role.c4 D) (tot Role.c3 D) (tot Role.c2 D) (cl.map (·.2.1)) st sm
  most : tot Role.cnt D + pend ≤ E.max
  chan : ∃ sn rc tm, w.heap[E.Ch]? = some (.chan 0 #[] false sn rc tm)
  bal : ∀ sn rc tm, w.heap[E.Ch]? = some (.chan 0 #[] false sn rc tm) → sn = rc
  clo : CloOK E K gs t D cl
end

/-- The closer may have been let try again. -/
inductive Woke : Clo → Clo → Prop
  | same (c : Clo) : Woke c c
  | up (ic : Nat) : Woke (some (ic, .blk, 0)) (some (ic, .w3, 1))
theorem Woke.early {a b : Clo} (h : Woke a b) : ∀ {ic c n}, b = some (ic, c, n) → ∃ c' n', a = some (ic, c', n') ∧ (c = c' ∨ (c = .w3 ∧ c' = .blk)) := by
  intro ic c n hb
  cases h with
  | same => exact ⟨c, n, hb, .inl rfl⟩
  | up k => cases hb; exact ⟨_, _, rfl, .inr ⟨rfl, rfl⟩⟩

section
variable {ι : Type} {E : Crew ι}
theorem CK.at_running {s : St} {g : Goroutine} {n : Nat} : ∀ {c : CK}, c.at E s g n → c ≠ .blk → g.status = .running
  | .kd, h, _ => Pure.running (fun _ x => x.1) h
  | .w1 b, h, _ => Pure.running (fun _ x => by cases b <;> exact x.1) h
  | .w2 _ _, h, _ => Pure.running (fun _ x => x.1) h
  | .wr, h, _ => Pure.running (fun _ x => x.1) h
  | .w3, ⟨_, _, h⟩, _ => Pure.running (fun _ x => x.1) h
  | .blk, _, h => absurd rfl h
  | .w4, h, _ => Pure.running (fun _ x => x.1) h
  | .ke, h, _ => Pure.running (fun _ x => x.1) h
  | .aq, h, _ => Pure.running (fun _ x => x.1) h
  | .run _, ⟨_, h⟩, _ => Tread.running (fun _ _ x => x.1) h
/-- The closer behind a step of another's. -/
theorem CK.tries {ic n : Nat} {c : CK} {s : St} {gc : Goroutine} (h : c.at E s gc n) (a a' : Goroutine) (w' : World) :
    ∃ c' n', Woke (some (ic, c, n)) (some (ic, c', n')) ∧ c'.at E s (woken E.P a a' w' gc) n' ∧ (mayWake E.P a = true → (a'.status = .running ∨ a'.status = .finished) → c' ≠ .blk) ∧ c'.deaf = c.deaf := by
  by_cases hb : c = .blk
  · subst hb
    obtain ⟨rfl, g₀, hg, rfl⟩ := h
    by_cases hw : (mayWake E.P a && a'.status != .blocked && a'.status != .waiting) = true
    · refine ⟨.w3, 1, .up ic, ⟨0, rfl, ?_⟩, fun _ _ => by simp, rfl⟩
      have : woken E.P a a' w' { g₀ with status := .blocked } = g₀ := by
        have h1 := hg.1; have h2 := hg.2.1
        obtain ⟨f, cs, stt, dy, of⟩ := g₀
        simp only at h1 h2
        subst h1 h2
        simp [Go.Conc.woken, hw, Goroutine.again]
      rw [this]; exact hg
    · refine ⟨.blk, 0, .same _, ⟨rfl, g₀, hg, by simp [Go.Conc.woken, hw]⟩, fun h1 h2 => absurd ?_ hw, rfl⟩
      rcases h2 with h2 | h2 <;> simp [h1, h2]
  · refine ⟨c, n, .same _, ?_, fun _ _ => hb, rfl⟩
    have : woken E.P a a' w' gc = gc := by
      unfold Go.Conc.woken
      split
      · exact again_running _ (.inl (CK.at_running h hb))
      · rfl
    rw [this]; exact h
end
end Go.L
namespace Go.L
open Go Go.Conc
open Go.ConcR (KK wgBlock WgAt stA smA rd wr)

section
variable {ι : Type} {E : Crew ι} {L : Nat → Option Obj} {K : Nat → St} {gs : Array Goroutine} {w w' : World} {t u : Trace} {D : List (Role ι)} {pend : Nat} {cl : Clo}

theorem AcqAll.step {ic i : Nat} {r r' : Role ι} (h : AcqAll E t D ic) (hi : D[i]? = some r) (hu : ∀ op ∈ u, op.g = i + 1) (hcur : r'.cur = true → r.cur = true)
    (hkeep : r'.cur = true → ∀ p, ConcN.RelBy (stA E.Wg) t (i + 1) p → ConcN.RelBy (stA E.Wg) (t ++ u) (i + 1) p) : AcqAll E (t ++ u) (D.set i r') ic := by
  obtain ⟨q, h1, h2, h3, h4⟩ := h
  have hq := lt_of_act? h1
  refine ⟨q, by rw [act?_old hq]; exact h1, by rw [g?_old hq]; exact h2, (heard_old hq).2 h3, fun k x hk hc => ?_⟩
  by_cases e : k = i
  · subst e
    have hlt := (List.getElem?_eq_some_iff.1 hi).1
    have : r' = x := by simpa [List.getElem?_set, hlt] using hk
    subst this
    obtain ⟨p, hp, hpq⟩ := h4 k r hi (hcur hc)
    exact ⟨p, hkeep hc p hp, hpq⟩
  · rw [List.getElem?_set_ne (Ne.symm e)] at hk
    obtain ⟨p, hp, hpq⟩ := h4 k x hk hc
    exact ⟨p, RelBy.other hp (fun op hop => by rw [hu op hop]; omega), hpq⟩

theorem wg_old (htouch : ∀ op ∈ u, ∀ x, op.act.touch? = some x → E.At x → x.kind = .atomic) {p : Nat} {x : Touch} (hx : touchAt (t ++ u) p = some x) (hb : E.At x) (hk : x.kind ≠ .atomic) :
    touchAt t p = some x := by
  rcases touchAt_cases hx with ⟨_, h'⟩ | ⟨_, op, hm, _, hxo⟩
  · exact h'
  · exact absurd (htouch op hm x hxo hb) hk

/-- A step of goroutine i + 1, who is not the closer. -/
theorem Sy.step (h : Sy E L K gs w t D pend cl) (hsz : gs.size = D.length + 1) {i : Nat} {r r' : Role ι} {g g' : Goroutine} {s' : St} (hi : D[i]? = some r) (hnc : r ≠ .closer) (hnc' : r' ≠ .closer)
    (hu : ∀ op ∈ u, op.g = i + 1) (hs1 : ¬ s'.knows E.Wg) (hs2 : ¬ s'.knows E.Ch) (hch : w'.heap[E.Ch]? = w.heap[E.Ch]?)
    (htouch : ∀ op ∈ u, ∀ x, op.act.touch? = some x → E.At x → x.kind = .atomic) (hrel : ∀ op ∈ u, ∀ a, op.act ≠ .mark (.release a))
    (hleft : r'.left = false → r.left = false) (hearly : r.early → r'.early) (hcur : (∃ ic tr n, cl = some (ic, .run tr, n)) → r'.cur = true → r.cur = true)
    (hkeep : r.cur = true → ∀ p, ConcN.RelBy (stA E.Wg) t (i + 1) p → ConcN.RelBy (stA E.Wg) (t ++ u) (i + 1) p)
    (hmost : tot Role.cnt (D.set i r') ≤ tot Role.cnt D)
    (hcells : ∀ cl', Woke cl cl' → (mayWake E.P g = true → (g'.status = .running ∨ g'.status = .finished) → ∀ ic n, cl' ≠ some (ic, .blk, n)) →
      ∃ st sm, WgAt E.ty E.Wg w' st sm ∧ Md E.max (tot Role.cnt (D.set i r') + pend) (tot Role.c4 (D.set i r')) (tot Role.c3 (D.set i r')) (tot Role.c2 (D.set i r')) (cl'.map (·.2.1)) st sm) :
    ∃ cl', Woke cl cl' ∧ Sy E L (setK K (i + 1) s') ((gs.map (woken E.P g g' w')).setIfInBounds (i + 1) g') w' (t ++ u) (D.set i r') pend cl' := by
  have hlt := (List.getElem?_eq_some_iff.1 hi).1
  have hset : ∀ {k x}, (D.set i r')[k]? = some x → (k = i ∧ x = r') ∨ (k ≠ i ∧ D[k]? = some x) := fun {k x} hk => by
    by_cases e : k = i
    · subst e
      exact .inl ⟨rfl, by simpa [List.getElem?_set, hlt] using hk.symm⟩
    · rw [List.getElem?_set_ne (Ne.symm e)] at hk; exact .inr ⟨e, hk⟩
  have hid : ∀ b, ¬ s'.knows b → (∀ j, ¬ (K j).knows b) → ∀ j, ¬ (setK K (i + 1) s' j).knows b := fun b h1 h2 j => by
    by_cases e : j = i + 1
    · subst e; rw [setK_same]; exact h1
    · rw [setK_ne _ _ e]; exact h2 j
  have hdf : ∀ ic, ic ≠ i → Deaf (t ++ u) (ic + 1) = Deaf t (ic + 1) := fun ic hne => Deaf_others t u fun op hop => by rw [hu op hop]; omega
  -- the closer
  obtain ⟨cl', hwk, hmay, hclo⟩ : ∃ cl', Woke cl cl' ∧ (mayWake E.P g = true → (g'.status = .running ∨ g'.status = .finished) → ∀ ic n, cl' ≠ some (ic, .blk, n)) ∧
      CloOK E (setK K (i + 1) s') ((gs.map (woken E.P g g' w')).setIfInBounds (i + 1) g') (t ++ u) (D.set i r') cl' := by
    have hc := h.clo
    match cl, hc, hcur with
    | none, hc, _ =>
      refine ⟨none, .same _, fun _ _ _ _ => by simp, fun x hx => ?_⟩
      obtain ⟨k, hk⟩ := List.getElem?_of_mem hx
      rcases hset hk with ⟨_, rfl⟩ | ⟨_, hk'⟩
      · exact hearly (hc r (List.mem_of_getElem? hi))
      · exact hc x (List.mem_of_getElem? hk')
    | some (ic, c, n), ⟨h1, h2, h3, ⟨gc, hg, hat⟩, h5⟩, hcur =>
      have hne : ic ≠ i := fun e => by subst e; rw [hi] at h1; exact hnc (Option.some.inj h1)
      obtain ⟨c', n', hw, hat', hm, hdc⟩ := CK.tries (ic := ic) hat g g' w'
      refine ⟨some (ic, c', n'), hw, fun a b ic' n'' e => hm a b (by cases e; rfl), by rw [List.getElem?_set_ne (Ne.symm hne)]; exact h1, fun k hk => ?_, by rw [hdf ic hne, hdc]; exact h3, ⟨_, get_woken (by omega) hg, by rw [setK_ne _ _ (by omega)]; exact hat'⟩, fun ⟨tr, htr⟩ => ?_⟩
      · rcases hset hk with ⟨_, e⟩ | ⟨_, hk'⟩
        · exact absurd e.symm hnc'
        · exact h2 k hk'
      · subst htr
        cases hw with
        | same =>
          have hcr := hcur ⟨_, _, _, rfl⟩
          exact (h5 ⟨tr, rfl⟩).step hi hu hcr fun hc p hp => hkeep (hcr hc) p hp
  refine ⟨cl', hwk, ⟨hid _ hs1 h.kW, hid _ hs2 h.kC, h.lW, h.lC, h.ne, fun a => (h.norel a).app fun op hop => hrel op hop a, fun j hj p x hx hb hk => ?_, ?_, hcells cl' hwk hmay, Nat.le_trans (Nat.add_le_add_right hmost _) h.most, ?_, fun sn rc tm hc => h.bal sn rc tm (by rw [← hch]; exact hc), hclo⟩⟩
  · refine (h.plain j ?_ p x (wg_old htouch hx hb (by rw [hk]; simp)) hb hk).app u
    rcases hj with hj | ⟨k, y, rfl, hk', hl⟩
    · exact .inl hj
    · rcases hset hk' with ⟨rfl, rfl⟩ | ⟨_, hk''⟩
      · exact .inr ⟨_, r, rfl, hi, hleft hl⟩
      · exact .inr ⟨k, y, rfl, hk'', hl⟩
  · have hs := h.said
    match cl, cl', hwk, hs with
    | none, _, .same _, hs => exact fun p x hx hb hk => (hs p x (wg_old htouch hx (.inl hb) (by rw [hk]; simp)) hb hk).app u
    | some (ic, c, n), _, .same _, hs => exact fun he p x hx hb hk => (hs he p x (wg_old htouch hx (.inl hb) (by rw [hk]; simp)) hb hk).app u
    | _, _, .up ic, _ => exact fun he => he.elim
  · obtain ⟨sn, rc, tm, hc⟩ := h.chan
    exact ⟨sn, rc, tm, by rw [hch]; exact hc⟩
end
end Go.L
namespace Go.L
open Go Go.Conc
open Go.ConcR (KK wgBlock WgAt stA smA rd wr)

def Role.mu {ι : Type} : Role ι → Nat × Tree × Nat
  | .closer => (10, .leaf, 0)
  | .work _ tr => (9, tr, 0)
  | .sendB _ => (8, .leaf, 0)
  | .back tr => (7, tr, 0)
  | .st k n => (k.rank, .leaf, n)
  | .leave q _ _ => (0, .leaf, q)
abbrev MuLt : Nat × Tree × Nat → Nat × Tree × Nat → Prop := Prod.Lex (· < ·) (Prod.Lex Tree.Lt (· < ·))
theorem MuLt.wf : WellFounded MuLt := (Prod.lex ⟨_, Nat.lt_wfRel.wf⟩ (Prod.lex ⟨_, Tree.wf⟩ ⟨_, Nat.lt_wfRel.wf⟩)).wf
def RoleLt {ι : Type} (a b : Role ι) : Prop := MuLt a.mu b.mu
theorem RoleLt.wf {ι : Type} : WellFounded (RoleLt (ι := ι)) := InvImage.wf Role.mu MuLt.wf

theorem mul_fst {a b : Nat × Tree × Nat} (h : a.1 < b.1) : MuLt a b := by
  obtain ⟨a1, a2⟩ := a; obtain ⟨b1, b2⟩ := b
  exact Prod.Lex.left _ _ h
theorem mul_tree {n : Nat} {a b : Tree} {x y : Nat} (h : Tree.Lt a b) : MuLt (n, a, x) (n, b, y) := Prod.Lex.right _ (Prod.Lex.left _ _ h)
theorem mul_num {n : Nat} {a : Tree} {x y : Nat} (h : x < y) : MuLt (n, a, x) (n, a, y) := Prod.Lex.right _ (Prod.Lex.right _ h)

section
variable {ι : Type} {E : Crew ι}
/-- What sync's own code lists: its words, and atomic accesses to the group's cells. -/
def SyncEv (E : Crew ι) (e : Event) : Prop := e = said .disable ∨ e = said .enable ∨ e = said (.releaseMerge (stA E.Wg)) ∨ e = said (.acquire (stA E.Wg)) ∨ ∃ a wr, e = ⟨.cell a, wr, true⟩ ∧ a.block = E.Wg

theorem SyncEv.ops {es : Array Event} (h : ∀ e ∈ es, SyncEv E e) (i : Nat) (fn : FuncId) (pos : String) : ∀ op ∈ MemOp.ofEvents i fn pos es,
    op.g = i ∧ (∀ a, op.act ≠ .mark (.release a)) ∧ ∀ x, op.act.touch? = some x → blk x.loc = some E.Wg ∧ x.kind = .atomic := by
  intro op hop
  rw [ofEvents_eq] at hop
  obtain ⟨e, he, rfl⟩ := Array.mem_map.1 hop
  rcases h e he with rfl | rfl | rfl | rfl | ⟨a, wr, rfl, ha⟩
  · exact ⟨rfl, fun a => by simp [said, Go.ConcR.mk, MemAct.ofEvent], fun x hx => by cases hx⟩
  · exact ⟨rfl, fun a => by simp [said, Go.ConcR.mk, MemAct.ofEvent], fun x hx => by cases hx⟩
  · exact ⟨rfl, fun a => by simp [said, Go.ConcR.mk, MemAct.ofEvent], fun x hx => by cases hx⟩
  · exact ⟨rfl, fun a => by simp [said, Go.ConcR.mk, MemAct.ofEvent], fun x hx => by cases hx⟩
  · refine ⟨rfl, fun a => by cases wr <;> simp [MemAct.ofEvent], fun x hx => ?_⟩
    cases wr <;> (simp only [MemAct.ofEvent, MemAct.touch?, Option.some.injEq] at hx; subst hx; exact ⟨by simp [blk, ha], rfl⟩)

theorem mute_sync {i : Nat} {fn : FuncId} {pos : String} {es : Array Event} (h : ∀ e ∈ es, Event.mute e = true) : ∀ op ∈ MemOp.ofEvents i fn pos es, op.act.touch? = none := by
  intro op hop
  rw [ofEvents_eq] at hop
  obtain ⟨e, he, rfl⟩ := Array.mem_map.1 hop
  have := h e he
  obtain ⟨loc, wr, sy⟩ := e
  cases loc with
  | mark m => cases m <;> first | rfl | (simp [Event.mute] at this)
  | _ => simp [Event.mute] at this
theorem mute_rel {i : Nat} {fn : FuncId} {pos : String} {es : Array Event} (h : ∀ e ∈ es, Event.mute e = true) (a : Addr) : ∀ op ∈ MemOp.ofEvents i fn pos es, op.act ≠ .mark (.release a) := by
  intro op hop
  rw [ofEvents_eq] at hop
  obtain ⟨e, he, rfl⟩ := Array.mem_map.1 hop
  have := h e he
  obtain ⟨loc, wr, sy⟩ := e
  cases loc with
  | mark m => cases m <;> first | (simp [MemAct.ofEvent]; done) | (simp [Event.mute] at this)
  | _ => simp [Event.mute] at this

variable {L : Nat → Option Obj} {K : Nat → St} {gs : Array Goroutine} {w w' : World} {t : Trace} {D : List (Role ι)} {pend d0 : Nat} {cl : Clo} {main : Goroutine} {sl : Option (Nat × Nat)}

structure Inv (E : Crew ι) (L : Nat → Option Obj) (K : Nat → St) (gs : Array Goroutine) (w : World) (t : Trace) (D : List (Role ι)) (pend : Nat) (cl : Clo) (main : Goroutine) (d0 : Nat) : Prop where
  base : Base E L K gs w t D
  sy : Sy E L K gs w t D pend cl
  main : gs[0]? = some main
  deaf : Deaf t 0 = d0

/-- Main runs, or stands at the channel, waiting for a worker's list. -/
def MainOK (E : Crew ι) (main : Goroutine) : Prop := main.status = .running ∨ ∃ m z, main = parked m #[rcase E.Ch z] (.recv true)
theorem MainOK.woken {main : Goroutine} (h : MainOK E main) (a a' : Goroutine) {w' : World} {sn rc : Nat} {tm : Bool} (hc : w'.heap[E.Ch]? = some (.chan 0 #[] false sn rc tm)) : woken E.P a a' w' main = main := by
  rcases h with h | ⟨m, z, rfl⟩
  · unfold Go.Conc.woken
    split
    · exact again_running _ (.inl h)
    · rfl
  · exact woken_recv_open a a' hc
def owes (D : List (Role ι)) : List ι := D.filterMap Role.owe
theorem owes_set {r r' : Role ι} (ho : r'.owe = r.owe) : ∀ {D : List (Role ι)} {i : Nat}, D[i]? = some r → owes (D.set i r') = owes D
  | [], i, h => by simp at h
  | a :: D, 0, h => by simp only [List.getElem?_cons_zero, Option.some.injEq] at h; subst h; simp [owes, List.filterMap_cons, ho]
  | a :: D, i + 1, h => by
    have := owes_set ho (D := D) (i := i) (by simpa using h)
    simp only [owes, List.set_cons_succ, List.filterMap_cons] at this ⊢
    rw [this]

/-- The machine behind a step of another goroutine than main: all stands as before, one role has fallen. -/
def Goes1 (E : Crew ι) (L : Nat → Option Obj) (K : Nat → St) (D : List (Role ι)) (pend : Nat) (cl : Clo) (main : Goroutine) (d0 : Nat) (m : Machine) (sl : Option (Nat × Nat)) (t : Trace) (i : Nat) : Prop :=
  ∃ K' gs' w' u D' cl', runT E.P m i = (.next (crowd gs' w' sl), u) ∧ Inv E L K' gs' w' (t ++ u) D' pend cl' main d0 ∧ K' 0 = K 0 ∧ owes D' = owes D ∧ One RoleLt D' D ∧ (cl = none → cl' = none) ∧ (cl ≠ none → cl' ≠ none) ∧ (∀ o, Role.sendB o ∈ D' → Role.sendB o ∈ D ∨ main.status = .running)

theorem Inv.go' (h : Inv E L K gs w t D pend cl main d0) (hm : MainOK E main) {i : Nat} {r r' : Role ι} {g g' : Goroutine} {s' : St} {u : Trace} (hi : D[i]? = some r) (hnc : r ≠ .closer) (hnc' : r' ≠ .closer)
    (hg : gs[i + 1]? = some g) (hu : ∀ op ∈ u, op.g = i + 1)
    (hrun : runT E.P (crowd gs w sl) (i + 1) = (.next (crowd ((gs.map (woken E.P g g' w')).setIfInBounds (i + 1) g') w' sl), u)) (hsm : Same w w')
    (hs1 : ¬ s'.knows E.Wg) (hs2 : ¬ s'.knows E.Ch) (hch : w'.heap[E.Ch]? = w.heap[E.Ch]?)
    (hfit : Fit L (setK K (i + 1) s') w' (t ++ u)) (hr : RoleOK E (t ++ u) (i + 1) s' g' r')
    (htouch : ∀ op ∈ u, ∀ x, op.act.touch? = some x → E.At x → x.kind = .atomic)
    (hrel : ∀ op ∈ u, ∀ a, op.act ≠ .mark (.release a))
    (hleft : r'.left = false → r.left = false) (hearly : r.early → r'.early) (hcur : (∃ ic tr n, cl = some (ic, .run tr, n)) → r'.cur = true → r.cur = true)
    (hkeep : r.cur = true → ∀ p, ConcN.RelBy (stA E.Wg) t (i + 1) p → ConcN.RelBy (stA E.Wg) (t ++ u) (i + 1) p)
    (hcnt : r'.cnt ≤ r.cnt) (howe : r'.owe = r.owe) (hmu : RoleLt r' r)
    (hcells : ∀ cl', Woke cl cl' → (mayWake E.P g = true → (g'.status = .running ∨ g'.status = .finished) → ∀ ic n, cl' ≠ some (ic, .blk, n)) →
      ∃ st sm, WgAt E.ty E.Wg w' st sm ∧ Md E.max (tot Role.cnt (D.set i r') + pend) (tot Role.c4 (D.set i r')) (tot Role.c3 (D.set i r')) (tot Role.c2 (D.set i r')) (cl'.map (·.2.1)) st sm)
    (hsb : (∃ o, r' = .sendB o) → main.status = .running := by rintro ⟨o, e⟩; cases e) :
    Goes1 E L K D pend cl main d0 (crowd gs w sl) sl t (i + 1) := by
  have hlt := (List.getElem?_eq_some_iff.1 hi).1
  obtain ⟨sn, rc, tm, hc⟩ := h.sy.chan
  have hc' : w'.heap[E.Ch]? = some (.chan 0 #[] false sn rc tm) := by rw [hch]; exact hc
  have hbase := h.base.step (g := g) hlt hu hsm hfit hr fun _ _ _ _ => ⟨sn, rc, tm, hc'⟩
  have hmost : tot Role.cnt (D.set i r') ≤ tot Role.cnt D := by have := tot_set Role.cnt (y := r') hi; omega
  obtain ⟨cl', hwk, hsy⟩ := h.sy.step h.base.size hi hnc hnc' hu hs1 hs2 hch htouch hrel hleft hearly hcur hkeep hmost hcells
  refine ⟨_, _, w', _, _, cl', hrun, ⟨hbase, hsy, ?_, ?_⟩, setK_ne _ _ (by omega), owes_set howe hi, One.set hi hmu, fun e => ?_, fun e => ?_, fun o ho => ?_⟩
  · rw [get_woken (by omega) h.main, hm.woken _ _ hc']
  · rw [Deaf_others _ _ fun op hop => by rw [hu op hop]; omega]; exact h.deaf
  · subst e; cases hwk; rfl
  · cases hwk with
    | same => exact e
    | up ic => simp
  · rcases List.mem_or_eq_of_mem_set ho with h' | h'
    · exact .inl h'
    · exact .inr (hsb ⟨o, h'.symm⟩)

theorem Inv.go (h : Inv E L K gs w t D pend cl main d0) (hm : MainOK E main) {i : Nat} {r r' : Role ι} {g g' : Goroutine} {s' : St} {es : Array Event} (hi : D[i]? = some r) (hnc : r ≠ .closer) (hnc' : r' ≠ .closer)
    (hg : gs[i + 1]? = some g) (hgo : stepG E.P false g w = .go g' w' es) (hsm : Same w w')
    (hs1 : ¬ s'.knows E.Wg) (hs2 : ¬ s'.knows E.Ch) (hch : w'.heap[E.Ch]? = w.heap[E.Ch]?)
    (hfit : Fit L (setK K (i + 1) s') w' (t ++ MemOp.ofEvents (i + 1) g.frame.fn g.frame.place es)) (hr : RoleOK E (t ++ MemOp.ofEvents (i + 1) g.frame.fn g.frame.place es) (i + 1) s' g' r')
    (htouch : ∀ op ∈ MemOp.ofEvents (i + 1) g.frame.fn g.frame.place es, ∀ x, op.act.touch? = some x → E.At x → x.kind = .atomic)
    (hrel : ∀ op ∈ MemOp.ofEvents (i + 1) g.frame.fn g.frame.place es, ∀ a, op.act ≠ .mark (.release a))
    (hleft : r'.left = false → r.left = false) (hearly : r.early → r'.early) (hcur : (∃ ic tr n, cl = some (ic, .run tr, n)) → r'.cur = true → r.cur = true)
    (hkeep : r.cur = true → ∀ p, ConcN.RelBy (stA E.Wg) t (i + 1) p → ConcN.RelBy (stA E.Wg) (t ++ MemOp.ofEvents (i + 1) g.frame.fn g.frame.place es) (i + 1) p)
    (hcnt : r'.cnt ≤ r.cnt) (howe : r'.owe = r.owe) (hmu : RoleLt r' r)
    (hcells : ∀ cl', Woke cl cl' → (mayWake E.P g = true → (g'.status = .running ∨ g'.status = .finished) → ∀ ic n, cl' ≠ some (ic, .blk, n)) →
      ∃ st sm, WgAt E.ty E.Wg w' st sm ∧ Md E.max (tot Role.cnt (D.set i r') + pend) (tot Role.c4 (D.set i r')) (tot Role.c3 (D.set i r')) (tot Role.c2 (D.set i r')) (cl'.map (·.2.1)) st sm)
    (hsb : (∃ o, r' = .sendB o) → main.status = .running := by rintro ⟨o, e⟩; cases e) :
    Goes1 E L K D pend cl main d0 (crowd gs w sl) sl t (i + 1) :=
  h.go' hm hi hnc hnc' hg (fun op hop => Go.ConcR.g_of_ofEvents op hop) (runT_crowd_go (P := E.P) (sl := sl) (i := i + 1) hg (by simpa using hgo)) hsm hs1 hs2 hch hfit hr htouch hrel hleft hearly hcur hkeep hcnt howe hmu hcells hsb
end
end Go.L
namespace Go.L
open Go Go.Conc
open Go.ConcR (KK wgBlock WgAt stA smA rd wr)

section
variable {ι : Type} {E : Crew ι} {L : Nat → Option Obj} {K : Nat → St} {gs : Array Goroutine} {w w' : World} {t u : Trace} {D : List (Role ι)} {pend d0 : Nat} {cl : Clo} {main : Goroutine} {sl : Option (Nat × Nat)}
  {i : Nat} {g g' : Goroutine} {es : Array Event}

theorem setK_self (K : Nat → St) (i : Nat) : setK K i (K i) = K := by
  funext j
  by_cases e : j = i
  · subst e; rw [setK_same]
  · rw [setK_ne _ _ e]
theorem Md.woke {mx n a b c : Nat} {cl cl' : Clo} {st sm : Int} (h : Md mx n a b c (cl.map (·.2.1)) st sm) (hw : Woke cl cl') : Md mx n a b c (cl'.map (·.2.1)) st sm := by
  cases hw with
  | same => exact h
  | up ic =>
    simp only [Option.map_some] at h ⊢
    cases h with
    | reg _ h2 => exact .reg trivial h2
    | l4 _ => exact .l4 trivial
    | l3 _ => exact .l3 trivial
    | l2 _ => exact .l2 trivial
    | sema _ h2 => exact absurd rfl h2
    | over h1 => exact h1.elim

/-- Nothing of what is counted has turned, nor the group's cells. -/
theorem Inv.cells_same (h : Inv E L K gs w t D pend cl main d0) {r r' : Role ι} (hi : D[i]? = some r) (hw : w'.heap[E.Wg]? = w.heap[E.Wg]?) (h1 : r'.cnt = r.cnt) (h4 : r'.c4 = r.c4) (h3 : r'.c3 = r.c3) (h2 : r'.c2 = r.c2) :
    ∀ cl', Woke cl cl' → ∃ st sm, WgAt E.ty E.Wg w' st sm ∧ Md E.max (tot Role.cnt (D.set i r') + pend) (tot Role.c4 (D.set i r')) (tot Role.c3 (D.set i r')) (tot Role.c2 (D.set i r')) (cl'.map (·.2.1)) st sm := by
  intro cl' hwk
  obtain ⟨st, sm, ha, hm⟩ := h.sy.cells
  have e1 := tot_set Role.cnt (y := r') hi
  have e4 := tot_set Role.c4 (y := r') hi
  have e3 := tot_set Role.c3 (y := r') hi
  have e2 := tot_set Role.c2 (y := r') hi
  rw [show tot Role.cnt (D.set i r') = tot Role.cnt D by omega, show tot Role.c4 (D.set i r') = tot Role.c4 D by omega, show tot Role.c3 (D.set i r') = tot Role.c3 D by omega, show tot Role.c2 (D.set i r') = tot Role.c2 D by omega]
  exact ⟨st, sm, by unfold WgAt; rw [hw]; exact ha, hm.woke hwk⟩

theorem KnownTo0.quiet {j : Nat} (h : KnownTo0 t j) (hu : ∀ op ∈ u, op.act.touch? = none) : KnownTo0 (t ++ u) j := by
  intro p hp hc
  obtain ⟨op, ho, hg⟩ := Option.map_eq_some_iff.1 hp
  rcases getElem?_append_cases ho with ⟨hlt, _⟩ | ⟨_, hm⟩
  · obtain ⟨q, h1, h2⟩ := h p (by rw [← g?_old (u := u) hlt]; exact hp) ((counts_old hlt).1 hc)
    have hq : q < t.size := by
      obtain ⟨o, ho, _⟩ := Option.map_eq_some_iff.1 h1
      exact lt_size_of_getElem? ho
    exact ⟨q, by rw [g?_old hq]; exact h1, hb_app u h2⟩
  · obtain ⟨x, hx, _⟩ := hc
    obtain ⟨o', ho', hx'⟩ := touch_of hx
    rw [ho] at ho'; cases ho'
    rw [hu op hm] at hx'; cases hx'
theorem mute_touch {e : Event} (h : Event.mute e = true) : (MemAct.ofEvent e).touch? = none := by
  obtain ⟨loc, wr, sy⟩ := e
  cases loc with
  | mark m => cases m <;> first | rfl | (simp [Event.mute] at h)
  | _ => simp [Event.mute] at h
theorem quiet_touch {j : Nat} {u : Trace} (hu : ∀ op ∈ u, op.act.touch? = none) (P : Prop) : ∀ op ∈ u, ∀ x, op.act.touch? = some x → blk x.loc = some j → P := fun op hop x hx => by rw [hu op hop] at hx; cases hx

/-- One who leaves. -/
theorem Inv.leave (h : Inv E L K gs w t D pend cl main d0) (hm : MainOK E main) {q d : Nat} {cur : Bool} (hi : D[i]? = some (.leave q d cur)) (hg : gs[i + 1]? = some g) (hs : g.status = .running) :
    Goes1 E L K D pend cl main d0 (crowd gs w sl) sl t (i + 1) := by
  obtain ⟨g₁, hg₁, hok⟩ := h.base.ok i _ hi
  obtain rfl : g₁ = g := by rw [hg] at hg₁; exact (Option.some.inj hg₁).symm
  obtain ⟨hK, hq, hd, hc, hk⟩ := hok
  cases q with
  | zero => have := hq.1; rw [hs] at this; cases this
  | succ q =>
    rcases hq with ⟨h1, _⟩ | ⟨_, g', es, hmu, hst, hq'⟩
    · rw [hs] at h1; cases h1
    · have hu := mute_sync (i := i + 1) (fn := g₁.frame.fn) (pos := g₁.frame.place) hmu
      have hrb : ∀ p, ConcN.RelBy (stA E.Wg) t (i + 1) p → ConcN.RelBy (stA E.Wg) (t ++ MemOp.ofEvents (i + 1) g₁.frame.fn g₁.frame.place es) (i + 1) p := fun p hp =>
        ConcN.RelBy.appOwn hp _ _ _ fun j e he => .inl (mute_touch (hmu e (Array.mem_of_getElem? he)))
      refine h.go hm (r' := .leave q (deafBehind d es) cur) (s' := K (i + 1)) (w' := w) hi (by simp) (by simp) hg (hst w) ⟨rfl, rfl⟩ (h.sy.kW _) (h.sy.kC _) rfl ?_ ?_ (fun op hop x hx => by rw [hu op hop] at hx; cases hx) (fun op hop a => mute_rel hmu a op hop)
        (fun e => e) (fun e => e) (fun _ e => e) (fun _ p hp => hrb p hp) (Nat.le_refl _) rfl (mul_num (Nat.lt_succ_self q)) fun cl' hw _ => h.cells_same (r' := .leave q (deafBehind d es) cur) hi rfl rfl rfl rfl rfl cl' hw
      · rw [setK_self]
        exact h.base.fit.quiet E.Wg h.sy.kW h.sy.lW (Nat.le_refl _) (fun _ _ _ => rfl) hu
      · refine ⟨hK, hq', ?_, fun e => let ⟨r, hr⟩ := hc e; ⟨r, hrb r hr⟩, fun e => (hk e).quiet hu⟩
        rw [Deaf_own, hd]

/-- What a step of one's own leaves of the group and the channel. -/
theorem Sy.own_side (h : Sy E L K gs w t D pend cl) {j : Nat} {s' : St} (ht : Trans (K j) w s' w' es) (fn : FuncId) (pos : String) :
    ¬ s'.knows E.Wg ∧ ¬ s'.knows E.Ch ∧ w'.heap[E.Wg]? = w.heap[E.Wg]? ∧ w'.heap[E.Ch]? = w.heap[E.Ch]? ∧
    (∀ op ∈ MemOp.ofEvents j fn pos es, ∀ x, op.act.touch? = some x → ¬ E.At x) ∧ (∀ op ∈ MemOp.ofEvents j fn pos es, ∀ a, op.act ≠ .mark (.release a)) := by
  obtain ⟨st, sm, ha, _⟩ := h.cells
  obtain ⟨sn, rc, tm, hc⟩ := h.chan
  have hW : E.Wg < w.heap.size := lt_size ha
  have hC : E.Ch < w.heap.size := lt_size hc
  have kn : ∀ b, b < w.heap.size → ¬ (K j).knows b → ¬ s'.knows b := fun b hb hk hk' => by
    rcases hk' with h' | h'
    · rcases ht.ros b h' with h1 | h1 | h1
      · omega
      · exact hk (.inl h1)
      · exact hk (.inr h1)
    · rcases ht.own b h' with h1 | h1
      · omega
      · exact hk (.inr h1)
  refine ⟨kn _ hW (h.kW j), kn _ hC (h.kC j), ht.frame _ hW fun ho => h.kW j (.inr ho), ht.frame _ hC fun ho => h.kC j (.inr ho), fun op hop x hx hb => ?_, fun op hop a e => ?_⟩
  · obtain ⟨_, b, hb', hcc, _⟩ := (touch_of_ok ht.evs hop).2 x hx
    rcases hb with hb | hb
    · obtain rfl : b = E.Wg := by rw [hb] at hb'; exact (Option.some.inj hb').symm
      rcases hcc with h1 | h1 | h1
      · omega
      · exact h.kW j (.inr h1)
      · exact h.kW j (.inl h1.2)
    · obtain rfl : b = E.Ch := by rw [hb] at hb'; exact (Option.some.inj hb').symm
      rcases hcc with h1 | h1 | h1
      · omega
      · exact h.kC j (.inr h1)
      · exact h.kC j (.inl h1.2)
  · rw [ofEvents_eq] at hop
    obtain ⟨e', he, rfl⟩ := Array.mem_map.1 hop
    have hl := Go.ConcR.loc_of_ofEvent e
    have := ht.evs e' he
    unfold EvOK at this
    rw [hl] at this
    simp [okMark] at this

theorem deafBehind_ok {s : St} {n : Nat} : ∀ (es : List Event) (d : Nat), (∀ e ∈ es, EvOK s n e) → es.foldl (fun d e => match e.loc with | .mark .disable => d + 1 | .mark .enable => d - 1 | _ => d) d = d
  | [], _, _ => rfl
  | e :: es, d, h => by
    have he := h e (by simp)
    have : (match e.loc with | .mark .disable => d + 1 | .mark .enable => d - 1 | _ => d) = d := by
      unfold EvOK at he
      split <;> simp_all [okMark]
    rw [List.foldl_cons, this]
    exact deafBehind_ok es d fun x hx => h x (by simp [hx])
theorem Trans.deaf {s s' : St} (ht : Trans s w s' w' es) (d : Nat) : deafBehind d es = d := by
  obtain ⟨l⟩ := es
  rw [deafBehind, List.foldl_toArray']
  · exact deafBehind_ok l d fun e he => ht.evs e (by simpa using he)
  · simp

/-- A step of a worker's own. -/
theorem Inv.work (h : Inv E L K gs w t D pend cl main d0) (hm : MainOK E main) {o : ι} {f : World → Tree} (hi : D[i]? = some (.work o (.node f))) (hg : gs[i + 1]? = some g) :
    Goes1 E L K D pend cl main d0 (crowd gs w sl) sl t (i + 1) := by
  obtain ⟨g₁, hg₁, hok⟩ := h.base.ok i _ hi
  obtain rfl : g₁ = g := by rw [hg] at hg₁; exact (Option.some.inj hg₁).symm
  obtain ⟨hd, hs, hstep⟩ := hok
  obtain ⟨g', w', es, s', hst, hrun, ht, htr⟩ := hstep w (h.base.fit.agr _)
  obtain ⟨k1, k2, k3, k4, k5, k6⟩ := h.sy.own_side ht g₁.frame.fn g₁.frame.place
  refine h.go hm (r' := .work o (f w)) hi (by simp) (by simp) hg hst ⟨ht.os, ht.output⟩ k1 k2 k4 (h.base.fit.own ht _ _) ⟨?_, htr⟩ (fun op hop x hx hb => absurd hb (k5 op hop x hx)) k6
    (fun _ => rfl) (fun e => e) (fun _ e => e) (fun e => (by cases e)) (Nat.le_refl _) rfl (mul_tree (.mk f w)) fun cl' hw _ => h.cells_same (r' := .work o (f w)) hi k3 rfl rfl rfl rfl cl' hw
  rw [Deaf_own, ht.deaf]; exact hd
theorem Inv.back (h : Inv E L K gs w t D pend cl main d0) (hm : MainOK E main) {f : World → Tree} (hi : D[i]? = some (.back (.node f))) (hg : gs[i + 1]? = some g) :
    Goes1 E L K D pend cl main d0 (crowd gs w sl) sl t (i + 1) := by
  obtain ⟨g₁, hg₁, hok⟩ := h.base.ok i _ hi
  obtain rfl : g₁ = g := by rw [hg] at hg₁; exact (Option.some.inj hg₁).symm
  obtain ⟨hd, hs, hstep⟩ := hok
  obtain ⟨g', w', es, s', hst, hrun, ht, htr⟩ := hstep w (h.base.fit.agr _)
  obtain ⟨k1, k2, k3, k4, k5, k6⟩ := h.sy.own_side ht g₁.frame.fn g₁.frame.place
  refine h.go hm (r' := .back (f w)) hi (by simp) (by simp) hg hst ⟨ht.os, ht.output⟩ k1 k2 k4 (h.base.fit.own ht _ _) ⟨?_, htr⟩ (fun op hop x hx hb => absurd hb (k5 op hop x hx)) k6
    (fun _ => rfl) (fun e => e) (fun _ e => e) (fun e => (by cases e)) (Nat.le_refl _) rfl (mul_tree (.mk f w)) fun cl' hw _ => h.cells_same (r' := .back (f w)) hi k3 rfl rfl rfl rfl cl' hw
  rw [Deaf_own, ht.deaf]; exact hd
/-- A move of a worker's in the library's code. -/
theorem Inv.stPure (h : Inv E L K gs w t D pend cl main d0) (hm : MainOK E main) {k : WK} {n : Nat} (hi : D[i]? = some (.st k (n + 1))) (hg : gs[i + 1]? = some g) :
    Goes1 E L K D pend cl main d0 (crowd gs w sl) sl t (i + 1) := by
  obtain ⟨g₁, hg₁, hok⟩ := h.base.ok i _ hi
  obtain rfl : g₁ = g := by rw [hg] at hg₁; exact (Option.some.inj hg₁).symm
  obtain ⟨hK, hd, ⟨hs, g', hst, hp⟩, hsaid⟩ := hok
  obtain ⟨st, sm, ha, _⟩ := h.sy.cells
  have e0 : MemOp.ofEvents (i + 1) g₁.frame.fn g₁.frame.place #[] = #[] := rfl
  refine h.go hm (r' := .st k n) (s' := K (i + 1)) hi (by simp) (by simp) hg (hst w ⟨st, sm, ha⟩) ⟨rfl, rfl⟩ (h.sy.kW _) (h.sy.kC _) rfl ?_ ?_ (by rw [e0]; simp) (by rw [e0]; simp)
    (fun _ => rfl) (fun e => e) (fun _ e => e) (fun e => (by cases e)) (by cases k <;> exact Nat.le_refl _) rfl (mul_num (Nat.lt_succ_self n)) fun cl' hw _ => h.cells_same (r' := .st k n) hi rfl (by cases k <;> rfl) (by cases k <;> rfl) (by cases k <;> rfl) (by cases k <;> rfl) cl' hw
  · rw [setK_self, e0, Array.append_empty]; exact h.base.fit
  · rw [e0, Array.append_empty]; exact ⟨hK, hd, hp, hsaid⟩
end
end Go.L
namespace Go.L
open Go Go.Conc
open Go.ConcR (KK wgBlock WgAt stA smA rd wr)

theorem Md.d1 {mx n a b c : Nat} {o : Option CK} {st sm : Int} (h : Md mx n a b c o st sm) (hn : 1 ≤ n) (ho : o ≠ none) :
    ∃ v wt : Nat, v + 1 = n ∧ wt ≤ 1 ∧ st = ((v + 1 : Nat) : Int) * KK + (wt : Int) ∧ sm = 0 ∧ a = 0 ∧ b = 0 ∧ c = 0 ∧
      ((v = 0 ∧ wt = 1) → Md mx v 1 0 0 o ((v : Int) * KK + (wt : Int)) 0) ∧ (¬ (v = 0 ∧ wt = 1) → Md mx v 0 0 0 o ((v : Int) * KK + (wt : Int)) 0) := by
  cases h with
  | start => exact absurd rfl ho
  | kd => exact ⟨n - 1, 0, by omega, by omega, by rw [show n - 1 + 1 = n by omega]; simp, rfl, rfl, rfl, rfl, fun h => by omega, fun _ => by simpa using .kd⟩
  | w1 h1 => exact ⟨n - 1, 0, by omega, by omega, by rw [show n - 1 + 1 = n by omega]; simp, rfl, rfl, rfl, rfl, fun h => by omega, fun _ => by simpa using .w1 (by omega)⟩
  | w2 h1 h2 h3 => exact ⟨n - 1, 0, by omega, by omega, by rw [show n - 1 + 1 = n by omega]; simp, rfl, rfl, rfl, rfl, fun h => by omega, fun _ => by simpa using .w2 (by omega) h2 h3⟩
  | reg h1 h2 =>
    refine ⟨n - 1, 1, by omega, by omega, by rw [show n - 1 + 1 = n by omega]; simp, rfl, rfl, rfl, rfl, fun h => ?_, fun h => ?_⟩
    · rw [h.1]; simpa using .l4 h1
    · exact .reg h1 (by omega)
  | l4 _ => omega
  | l3 _ => omega
  | l2 _ => omega
  | sema _ _ => omega
  | over _ => omega
theorem Md.d2 {mx n a b c : Nat} {o : Option CK} {st sm : Int} (h : Md mx n a b c o st sm) (hn : 1 ≤ a) : st = 1 ∧ sm = 0 ∧ n = 0 ∧ a = 1 ∧ b = 0 ∧ c = 0 ∧ Md mx 0 0 1 0 o 1 0 := by
  cases h with
  | l4 h1 => exact ⟨rfl, rfl, rfl, rfl, rfl, rfl, .l3 h1⟩
  | _ => omega
theorem Md.d3 {mx n a b c : Nat} {o : Option CK} {st sm : Int} (h : Md mx n a b c o st sm) (hn : 1 ≤ b) : st = 1 ∧ sm = 0 ∧ n = 0 ∧ a = 0 ∧ b = 1 ∧ c = 0 ∧ Md mx 0 0 0 1 o 0 0 := by
  cases h with
  | l3 h1 => exact ⟨rfl, rfl, rfl, rfl, rfl, rfl, .l2 h1⟩
  | _ => omega
theorem Md.d4 {mx n a b c : Nat} {o : Option CK} {st sm : Int} (h : Md mx n a b c o st sm) (hn : 1 ≤ c) : st = 0 ∧ sm = 0 ∧ n = 0 ∧ a = 0 ∧ b = 0 ∧ c = 1 ∧ (o ≠ some .blk → Md mx 0 0 0 0 o 0 1) := by
  cases h with
  | l2 h1 => exact ⟨rfl, rfl, rfl, rfl, rfl, rfl, fun h' => .sema h1 fun e => h' (by rw [e])⟩
  | _ => omega
theorem Md.run {mx n a b c : Nat} {o : Option CK} {st sm : Int} (h : Md mx n a b c o st sm) {k : CK} (ho : o = some k) (hk : k.over) : n = 0 ∧ a = 0 ∧ b = 0 ∧ c = 0 ∧ st = 0 ∧ sm = 0 := by
  have nw : ¬ k.waits := by cases k <;> simp_all [CK.over, CK.waits]
  cases h with
  | start => cases ho
  | kd => cases ho; exact hk.elim
  | w1 _ => cases ho; exact hk.elim
  | w2 _ _ _ => cases ho; exact hk.elim
  | reg h1 _ => cases ho; exact absurd h1 nw
  | l4 h1 => cases ho; exact absurd h1 nw
  | l3 h1 => cases ho; exact absurd h1 nw
  | l2 h1 => cases ho; exact absurd h1 nw
  | sema h1 _ => cases ho; exact absurd h1 nw
  | over _ => exact ⟨rfl, rfl, rfl, rfl, rfl, rfl⟩

section
variable {ι : Type} {E : Crew ι} {L : Nat → Option Obj} {K : Nat → St} {gs : Array Goroutine} {w w' : World} {t u : Trace} {D : List (Role ι)} {pend d0 : Nat} {cl : Clo} {main : Goroutine} {sl : Option (Nat × Nat)}
  {i : Nat} {g g' : Goroutine} {es : Array Event}

/-- The world with the group's block turned. -/
structure Turned (E : Crew ι) (w w' : World) : Prop where
  size : w'.heap.size = w.heap.size
  block : ∀ b, b ≠ E.Wg → w'.heap[b]? = w.heap[b]?
  same : Same w w'
theorem Turned.refl (w : World) : Turned E w w := ⟨rfl, fun _ _ => rfl, rfl, rfl⟩
theorem Turned.set (w : World) (k : Nat) (v : Value) : Turned E w (w.setCell ⟨E.Wg, k, none⟩ v) :=
  ⟨by simp [World.setCell], fun b hb => by simp [World.setCell, Array.getElem?_modify, Ne.symm hb], rfl, rfl⟩

theorem Sy.fit_sync (h : Sy E L K gs w t D pend cl) (hf : Fit L K w t) {j : Nat} (hj : j = 0 ∨ ∃ k r, j = k + 1 ∧ D[k]? = some r ∧ r.left = false) (hw : Turned E w w') (hes : ∀ e ∈ es, SyncEv E e) (fn : FuncId) (pos : String) :
    Fit L K w' (t ++ MemOp.ofEvents j fn pos es) := by
  have ho := SyncEv.ops hes j fn pos
  obtain ⟨st, sm, ha, _⟩ := h.cells
  refine hf.beside E.Wg j h.kW h.lW (lt_size ha) (Nat.le_of_eq hw.size.symm) (fun b hb _ => hw.block b hb) (fun op hop => (ho op hop).1) fun op hop x hx => ?_
  obtain ⟨h1, h2⟩ := (ho op hop).2.2 x hx
  refine ⟨h1, fun sd p a ha' hc => h.plain j hj p a ha' (.inl (by rw [hc.1]; exact h1)) ?_⟩
  rcases hc.2.2.2 with h3 | h3 | h3
  · exact h3
  · rw [h2] at h3; cases h3
  · rw [h2] at h3; cases h3.2.2

/-- A step of a worker's in the library's code that others notice. -/
theorem Inv.stSync (h : Inv E L K gs w t D pend cl main d0) (hm : MainOK E main) {k : WK} {r' : Role ι} (hi : D[i]? = some (.st k 0)) (hg : gs[i + 1]? = some g) (hgo : stepG E.P false g w = .go g' w' es)
    (hw : Turned E w w') (hes : ∀ e ∈ es, SyncEv E e) (hnc' : r' ≠ .closer) (hr : RoleOK E (t ++ MemOp.ofEvents (i + 1) g.frame.fn g.frame.place es) (i + 1) (K (i + 1)) g' r')
    (hcur : (∃ ic tr n, cl = some (ic, .run tr, n)) → r'.cur = true → False)
    (hcnt : r'.cnt ≤ (Role.st (ι := ι) k 0).cnt) (howe : r'.owe = none) (hmu : RoleLt r' (.st k 0))
    {st sm : Int} (hmd : Md E.max (tot Role.cnt D + pend) (tot Role.c4 D) (tot Role.c3 D) (tot Role.c2 D) (cl.map (·.2.1)) st sm)
    (hcells : ∀ cl' : Clo, cl' ≠ none → Md E.max (tot Role.cnt D + pend) (tot Role.c4 D) (tot Role.c3 D) (tot Role.c2 D) (cl'.map (·.2.1)) st sm →
      (mayWake E.P g = true → (g'.status = .running ∨ g'.status = .finished) → ∀ ic n, cl' ≠ some (ic, .blk, n)) →
      ∃ st sm, WgAt E.ty E.Wg w' st sm ∧ Md E.max (tot Role.cnt (D.set i r') + pend) (tot Role.c4 (D.set i r')) (tot Role.c3 (D.set i r')) (tot Role.c2 (D.set i r')) (cl'.map (·.2.1)) st sm)
    (hsb : (∃ o, r' = .sendB o) → main.status = .running := by rintro ⟨o, e⟩; cases e) :
    Goes1 E L K D pend cl main d0 (crowd gs w sl) sl t (i + 1) := by
  have ho := SyncEv.ops hes (i + 1) g.frame.fn g.frame.place
  have hcl : cl ≠ none := fun e => by
    have := h.sy.clo
    subst e
    exact this _ (List.mem_of_getElem? hi)
  refine h.go hm (r' := r') (s' := K (i + 1)) hi (by simp) hnc' hg hgo hw.same (h.sy.kW _) (h.sy.kC _) (hw.block _ (Ne.symm h.sy.ne)) ?_ hr (fun op hop x hx _ => ((ho op hop).2.2 x hx).2) (fun op hop => (ho op hop).2.1)
    (fun _ => rfl) (fun e => e.elim) (fun e e' => (hcur e e').elim) (fun e => (by cases e)) hcnt (by rw [howe]; rfl) hmu (fun cl' hwk hb => ?_) hsb
  · rw [setK_self]
    exact h.sy.fit_sync h.base.fit (.inr ⟨i, _, rfl, hi, rfl⟩) hw hes _ _
  · refine hcells cl' ?_ (hmd.woke hwk) hb
    cases hwk with
    | same => exact hcl
    | up ic => simp

theorem WgAt.eq {st sm st' sm' : Int} (h : WgAt E.ty E.Wg w st sm) (h' : WgAt E.ty E.Wg w st' sm') : st = st' ∧ sm = sm' := by
  unfold WgAt at h h'
  rw [h] at h'
  simp only [wgBlock, Option.some.injEq, Obj.cells.injEq, Array.mk.injEq, List.cons.injEq, Value.int.injEq, true_and, and_true] at h'
  exact ⟨h'.1, h'.2⟩
theorem map_ne {cl : Clo} (h : cl ≠ none) : cl.map (·.2.1) ≠ none := by cases cl <;> simp_all
theorem map_blk {cl : Clo} (h : ∀ ic n, cl ≠ some (ic, .blk, n)) : cl.map (·.2.1) ≠ some .blk := by
  match cl with
  | none => simp
  | some (ic, c, n) => intro e; simp only [Option.map_some, Option.some.injEq] at e; subst e; exact h ic n rfl

theorem tots {mx st4 st3 st2 n : Nat} {o : Option CK} {st sm : Int} {r r' : Role ι} (hi : D[i]? = some r)
    (e1 : n + r.cnt = tot Role.cnt D + pend + r'.cnt) (e4 : st4 + r.c4 = tot Role.c4 D + r'.c4) (e3 : st3 + r.c3 = tot Role.c3 D + r'.c3) (e2 : st2 + r.c2 = tot Role.c2 D + r'.c2) (h : Md mx n st4 st3 st2 o st sm) :
    Md mx (tot Role.cnt (D.set i r') + pend) (tot Role.c4 (D.set i r')) (tot Role.c3 (D.set i r')) (tot Role.c2 (D.set i r')) o st sm := by
  have f1 := tot_set Role.cnt (y := r') hi
  have f4 := tot_set Role.c4 (y := r') hi
  have f3 := tot_set Role.c3 (y := r') hi
  have f2 := tot_set Role.c2 (y := r') hi
  rw [show tot Role.cnt (D.set i r') + pend = n by omega, show tot Role.c4 (D.set i r') = st4 by omega, show tot Role.c3 (D.set i r') = st3 by omega, show tot Role.c2 (D.set i r') = st2 by omega]
  exact h
theorem le_tot (f : Role ι → Nat) {r : Role ι} (hi : D[i]? = some r) : f r ≤ tot f D := by
  have := tot_set f (y := Role.closer) hi
  have h0 := tot_set f (D := D.set i .closer) (i := i) (x := .closer) (y := r) (by rw [List.getElem?_set_self (List.getElem?_eq_some_iff.1 hi).1])
  rw [List.set_set, show D.set i r = D from by obtain ⟨hl, rfl⟩ := List.getElem?_eq_some_iff.1 hi; simp] at h0
  have key : ∀ (D : List (Role ι)) (i : Nat) (r : Role ι), D[i]? = some r → f r ≤ tot f D := by
    intro D
    induction D with
    | nil => intro i r h; simp at h
    | cons a D ih =>
      intro i r h
      cases i with
      | zero => simp only [List.getElem?_cons_zero, Option.some.injEq] at h; subst h; simp [tot]
      | succ i => have := ih i r (by simpa using h); simp only [tot, List.map_cons, List.sum_cons] at this ⊢; omega
  exact key D i r hi

theorem wg_sync (k : Nat) (b : Bool) : SyncEv E ⟨.cell ⟨E.Wg, k, none⟩, b, true⟩ := .inr (.inr (.inr (.inr ⟨_, _, rfl, rfl⟩)))

/-- The worker's word 'release and merge'. -/
theorem Inv.r0 (h : Inv E L K gs w t D pend cl main d0) (hm : MainOK E main) (hi : D[i]? = some (.st .r0 0)) (hg : gs[i + 1]? = some g) : Goes1 E L K D pend cl main d0 (crowd gs w sl) sl t (i + 1) := by
  obtain ⟨g₁, hg₁, hok⟩ := h.base.ok i _ hi
  obtain rfl : g₁ = g := by rw [hg] at hg₁; exact (Option.some.inj hg₁).symm
  obtain ⟨hK, hd, ⟨hs, g', hst, n, hp⟩, _⟩ := hok
  obtain ⟨st, sm, ha, hmd⟩ := h.sy.cells
  refine h.stSync hm (r' := .st .k1 n) hi hg (hst w) (Turned.refl w) (by intro e he; simp at he; subst he; exact .inr (.inr (.inl rfl))) (by simp) ?_ (fun _ e => (by cases e)) (Nat.le_refl _) rfl (mul_fst (by simp [Role.mu, WK.rank])) hmd fun cl' hc hmd' _ => ?_
  · refine ⟨hK, ?_, hp, fun _ => ⟨_, ConcN.RelBy.new hd _ _⟩⟩
    rw [Deaf_own, hd]; rfl
  · exact ⟨st, sm, ha, tots hi rfl rfl rfl rfl hmd'⟩
/-- .. 'disable'. -/
theorem Inv.k1 (h : Inv E L K gs w t D pend cl main d0) (hm : MainOK E main) (hi : D[i]? = some (.st .k1 0)) (hg : gs[i + 1]? = some g) : Goes1 E L K D pend cl main d0 (crowd gs w sl) sl t (i + 1) := by
  obtain ⟨g₁, hg₁, hok⟩ := h.base.ok i _ hi
  obtain rfl : g₁ = g := by rw [hg] at hg₁; exact (Option.some.inj hg₁).symm
  obtain ⟨hK, hd, ⟨hs, g', hst, n, hp⟩, hsd⟩ := hok
  obtain ⟨p, hrel⟩ := hsd rfl
  obtain ⟨st, sm, ha, hmd⟩ := h.sy.cells
  refine h.stSync hm (r' := .st .d1 n) hi hg (hst w) (Turned.refl w) (by intro e he; simp at he; subst he; exact .inl rfl) (by simp) ?_ (fun _ e => (by cases e)) (Nat.le_refl _) rfl (mul_fst (by simp [Role.mu, WK.rank])) hmd fun cl' hc hmd' _ => ?_
  · refine ⟨hK, ?_, hp, fun _ => ⟨p, ConcN.RelBy.appOwn hrel _ _ _ fun j e he => .inl ?_⟩⟩
    · rw [Deaf_own, hd]; rfl
    · have := Array.mem_of_getElem? he; simp at this; subst this; rfl
  · exact ⟨st, sm, ha, tots hi rfl rfl rfl rfl hmd'⟩
/-- .. the atomic add of -1. -/
theorem Inv.d1 (h : Inv E L K gs w t D pend cl main d0) (hm : MainOK E main) (hi : D[i]? = some (.st .d1 0)) (hg : gs[i + 1]? = some g) : Goes1 E L K D pend cl main d0 (crowd gs w sl) sl t (i + 1) := by
  obtain ⟨g₁, hg₁, hok⟩ := h.base.ok i _ hi
  obtain rfl : g₁ = g := by rw [hg] at hg₁; exact (Option.some.inj hg₁).symm
  obtain ⟨hK, hd, hstop, hsd⟩ := hok
  obtain ⟨p, hrel⟩ := hsd rfl
  obtain ⟨st, sm, ha, hmd⟩ := h.sy.cells
  have hcl : cl ≠ none := fun e => by
    have := h.sy.clo
    subst e
    exact this _ (List.mem_of_getElem? hi)
  have hn : 1 ≤ tot Role.cnt D + pend := Nat.le_trans (le_tot Role.cnt hi) (Nat.le_add_right _ _)
  obtain ⟨v, wt, hv, hwt, rfl, rfl, ea, eb, ec, _, _⟩ := hmd.d1 hn (map_ne hcl)
  have hmx := h.sy.most
  obtain ⟨hs, hall⟩ := hstop
  obtain ⟨g', hst, hlast, hnot⟩ := hall v wt hwt (by omega)
  have hrel' : ConcN.RelBy (stA E.Wg) (t ++ MemOp.ofEvents (i + 1) g₁.frame.fn g₁.frame.place #[rd (stA E.Wg), wr (stA E.Wg)]) (i + 1) p := by
    refine ConcN.RelBy.appOwn hrel _ _ _ fun j e he => .inr ?_
    have hd' : Deaf t (i + 1) = 1 := hd
    match j, he with
    | 0, he => simp at he; subst he; exact ⟨⟨_, _, rfl⟩, by simp [deafBehind, hd']⟩
    | 1, he => simp at he; subst he; exact ⟨⟨_, _, rfl⟩, by simp [deafBehind, hd', rd]⟩
    | j + 2, he => simp at he
  have hdf : Deaf (t ++ MemOp.ofEvents (i + 1) g₁.frame.fn g₁.frame.place #[rd (stA E.Wg), wr (stA E.Wg)]) (i + 1) = 1 := by rw [Deaf_own, hd]; rfl
  have hes : ∀ e ∈ #[rd (stA E.Wg), wr (stA E.Wg)], SyncEv E e := by intro e he; simp at he; rcases he with rfl | rfl <;> exact wg_sync 0 _
  have hrun : ¬ ∃ ic tr n, cl = some (ic, CK.run tr, n) := fun ⟨ic, tr, n, e⟩ => by
    have := hmd.run (k := .run tr) (by rw [e]; rfl) trivial
    omega
  by_cases hb : v = 0 ∧ wt = 1
  · obtain ⟨n, hp⟩ := hlast hb
    refine h.stSync hm (r' := .st .d2 n) hi hg (hst w ha) (Turned.set w 0 _) hes (by simp) ⟨hK, hdf, hp, fun _ => ⟨p, hrel'⟩⟩ (fun _ e => (by cases e)) (Nat.zero_le _) rfl (mul_fst (by simp [Role.mu, WK.rank])) hmd fun cl' hc hmd' _ => ?_
    obtain ⟨v', wt', hv', hwt', est, _, _, _, _, h1, _⟩ := hmd'.d1 hn (map_ne hc)
    have : v' = v := by omega
    subst this
    have : wt' = wt := by omega
    subst this
    exact ⟨_, _, Go.ConcR.WgAt.setSt ha _, tots hi (by simp [Role.cnt]; omega) (by simp [Role.c4]; omega) (by simp [Role.c3]; omega) (by simp [Role.c2]; omega) (h1 hb)⟩
  · obtain ⟨q, hq⟩ := hnot hb
    refine h.stSync hm (r' := .leave q 1 true) hi hg (hst w ha) (Turned.set w 0 _) hes (by simp) ⟨hK, hq, hdf, fun _ => ⟨p, hrel'⟩, fun e => (by cases e)⟩ (fun e _ => hrun e) (Nat.zero_le _) rfl (mul_fst (by simp [Role.mu, WK.rank])) hmd fun cl' hc hmd' _ => ?_
    obtain ⟨v', wt', hv', hwt', est, _, _, _, _, _, h1⟩ := hmd'.d1 hn (map_ne hc)
    have : v' = v := by omega
    subst this
    have : wt' = wt := by omega
    subst this
    exact ⟨_, _, Go.ConcR.WgAt.setSt ha _, tots hi (by simp [Role.cnt]; omega) (by simp [Role.c4]; omega) (by simp [Role.c3]; omega) (by simp [Role.c2]; omega) (h1 hb)⟩
/-- .. the last one reads. -/
theorem Inv.d2 (h : Inv E L K gs w t D pend cl main d0) (hm : MainOK E main) (hi : D[i]? = some (.st .d2 0)) (hg : gs[i + 1]? = some g) : Goes1 E L K D pend cl main d0 (crowd gs w sl) sl t (i + 1) := by
  obtain ⟨g₁, hg₁, hok⟩ := h.base.ok i _ hi
  obtain rfl : g₁ = g := by rw [hg] at hg₁; exact (Option.some.inj hg₁).symm
  obtain ⟨hK, hd, ⟨hs, g', hst, n, hp⟩, hsd⟩ := hok
  obtain ⟨p, hrel⟩ := hsd rfl
  obtain ⟨st, sm, ha, hmd⟩ := h.sy.cells
  have hn : 1 ≤ tot Role.c4 D := le_tot Role.c4 hi
  obtain ⟨rfl, rfl, e1, e4, e3, e2, _⟩ := hmd.d2 hn
  refine h.stSync hm (r' := .st .d3 n) hi hg (hst w ha) (Turned.refl w) (by intro e he; simp at he; subst he; exact wg_sync 0 _) (by simp) ?_ (fun _ e => (by cases e)) (Nat.le_refl _) rfl (mul_fst (by simp [Role.mu, WK.rank])) hmd fun cl' hc hmd' _ => ?_
  · refine ⟨hK, ?_, hp, fun _ => ⟨p, ConcN.RelBy.appOwn hrel _ _ _ fun j e he => .inr ?_⟩⟩
    · rw [Deaf_own, hd]; rfl
    · have hd' : Deaf t (i + 1) = 1 := hd
      match j, he with
      | 0, he => simp at he; subst he; exact ⟨⟨_, _, rfl⟩, by simp [deafBehind, hd']⟩
      | j + 1, he => simp at he
  · exact ⟨_, _, ha, tots hi (by simp [Role.cnt]; omega) (by simp [Role.c4]; omega) (by simp [Role.c3]; omega) (by simp [Role.c2]; omega) (hmd'.d2 hn).2.2.2.2.2.2⟩
/-- .. and stores nought. -/
theorem Inv.d3 (h : Inv E L K gs w t D pend cl main d0) (hm : MainOK E main) (hi : D[i]? = some (.st .d3 0)) (hg : gs[i + 1]? = some g) : Goes1 E L K D pend cl main d0 (crowd gs w sl) sl t (i + 1) := by
  obtain ⟨g₁, hg₁, hok⟩ := h.base.ok i _ hi
  obtain rfl : g₁ = g := by rw [hg] at hg₁; exact (Option.some.inj hg₁).symm
  obtain ⟨hK, hd, ⟨hs, g', hst, n, hp⟩, hsd⟩ := hok
  obtain ⟨p, hrel⟩ := hsd rfl
  obtain ⟨st, sm, ha, hmd⟩ := h.sy.cells
  have hn : 1 ≤ tot Role.c3 D := le_tot Role.c3 hi
  obtain ⟨rfl, rfl, e1, e4, e3, e2, _⟩ := hmd.d3 hn
  refine h.stSync hm (r' := .st .d4 n) hi hg (hst w ha) (Turned.set w 0 _) (by intro e he; simp at he; subst he; exact wg_sync 0 _) (by simp) ?_ (fun _ e => (by cases e)) (Nat.le_refl _) rfl (mul_fst (by simp [Role.mu, WK.rank])) hmd fun cl' hc hmd' _ => ?_
  · refine ⟨hK, ?_, hp, fun _ => ⟨p, ConcN.RelBy.appOwn hrel _ _ _ fun j e he => .inr ?_⟩⟩
    · rw [Deaf_own, hd]; rfl
    · have hd' : Deaf t (i + 1) = 1 := hd
      match j, he with
      | 0, he => simp at he; subst he; exact ⟨⟨_, _, rfl⟩, by simp [deafBehind, hd']⟩
      | j + 1, he => simp at he
  · exact ⟨_, _, Go.ConcR.WgAt.setSt ha _, tots hi (by simp [Role.cnt]; omega) (by simp [Role.c4]; omega) (by simp [Role.c3]; omega) (by simp [Role.c2]; omega) (hmd'.d3 hn).2.2.2.2.2.2⟩
/-- .. and raises the semaphore. -/
theorem Inv.d4 (h : Inv E L K gs w t D pend cl main d0) (hm : MainOK E main) (hi : D[i]? = some (.st .d4 0)) (hg : gs[i + 1]? = some g) : Goes1 E L K D pend cl main d0 (crowd gs w sl) sl t (i + 1) := by
  obtain ⟨g₁, hg₁, hok⟩ := h.base.ok i _ hi
  obtain rfl : g₁ = g := by rw [hg] at hg₁; exact (Option.some.inj hg₁).symm
  obtain ⟨hK, hd, ⟨hs, hmw, g', hst, q, hq⟩, hsd⟩ := hok
  obtain ⟨p, hrel⟩ := hsd rfl
  obtain ⟨st, sm, ha, hmd⟩ := h.sy.cells
  have hn : 1 ≤ tot Role.c2 D := le_tot Role.c2 hi
  obtain ⟨rfl, rfl, e1, e4, e3, e2, _⟩ := hmd.d4 hn
  have hd' : Deaf t (i + 1) = 1 := hd
  have hrun : ¬ ∃ ic tr n, cl = some (ic, CK.run tr, n) := fun ⟨ic, tr, n, e⟩ => by
    have := hmd.run (k := .run tr) (by rw [e]; rfl) trivial
    omega
  refine h.stSync hm (r' := .leave q 1 true) hi hg (hst w ha) (Turned.set w 1 _) (by
    intro e he; simp [semEvents] at he
    rcases he with rfl | rfl | rfl | rfl
    · exact .inl rfl
    · exact wg_sync 1 _
    · exact wg_sync 1 _
    · exact .inr (.inl rfl)) (by simp) ?_ (fun e _ => hrun e) (Nat.le_refl _) rfl (mul_fst (by simp [Role.mu, WK.rank])) hmd fun cl' hc hmd' hb => ?_
  · refine ⟨hK, hq, ?_, fun _ => ⟨p, ConcN.RelBy.appOwn hrel _ _ _ fun j e he => ?_⟩, fun e => (by cases e)⟩
    · rw [Deaf_own, hd]; rfl
    · match j, he with
      | 0, he => simp [semEvents] at he; subst he; exact .inl rfl
      | 1, he => simp [semEvents] at he; subst he; exact .inr ⟨⟨_, _, rfl⟩, by simp [deafBehind, hd', semEvents]⟩
      | 2, he => simp [semEvents] at he; subst he; exact .inr ⟨⟨_, _, rfl⟩, by simp [deafBehind, hd', semEvents]⟩
      | 3, he => simp [semEvents] at he; subst he; exact .inl rfl
      | j + 4, he => simp [semEvents] at he
  · exact ⟨_, _, Go.ConcR.WgAt.setSm ha _, tots hi (by simp [Role.cnt]; omega) (by simp [Role.c4]; omega) (by simp [Role.c3]; omega) (by simp [Role.c2]; omega) ((hmd'.d4 hn).2.2.2.2.2.2 (map_blk (hb hmw hq.status)))⟩
end
end Go.L
