/- The library of this proof, part 1: a program logic, an executor with its soundness, a theorem on goroutines. -/
import Derived.Calls
import Derived.Conc.Own
import Derived.IntWalk
import Derived.Laws.Sem
set_option linter.all false
namespace Go.L
open Go

/-- What a goroutine knows: 'ro' blocks that nobody writes any more; 'rw' blocks that it owns. -/
structure St where
  ro : Nat → Option Obj
  rw : List (Nat × Obj)

def St.has (s : St) (b : Nat) (o : Obj) : Prop := s.ro b = some o ∨ (b, o) ∈ s.rw
def St.owns (s : St) (b : Nat) : Prop := ∃ o, (b, o) ∈ s.rw
def St.knows (s : St) (b : Nat) : Prop := s.ro b ≠ none ∨ s.owns b

structure Agrees (s : St) (w : World) : Prop where
  ro : ∀ b o, s.ro b = some o → w.heap[b]? = some o
  rw : ∀ b o, (b, o) ∈ s.rw → w.heap[b]? = some o
  nodup : (s.rw.map (·.1)).Nodup
  apart : ∀ b o, (b, o) ∈ s.rw → s.ro b = none

theorem Agrees.has {s : St} {w : World} (h : Agrees s w) {b : Nat} {o : Obj} (hb : s.has b o) : w.heap[b]? = some o :=
  hb.elim (h.ro b o) (h.rw b o)

theorem Agrees.lt {s : St} {w : World} (h : Agrees s w) {b : Nat} {o : Obj} (hb : s.has b o) : b < w.heap.size := by
  have := h.has hb
  rcases Nat.lt_or_ge b w.heap.size with hl | hl
  · exact hl
  · simp [Array.getElem?_eq_none hl] at this

def okMark : Mark → Bool
  | .acquire _ | .release _ | .releaseMerge _ | .disable | .enable | .read _ | .write _ => false
  | _ => true

/-- Which accesses a goroutine that knows s may make; n: how many blocks there were. -/
def EvOK (s : St) (n : Nat) (e : Event) : Prop :=
  match e.loc with
  | .cell a => e.sync = false ∧ (n ≤ a.block ∨ s.owns a.block ∨ (e.write = false ∧ s.ro a.block ≠ none))
  | .obj r => e.sync = false ∧ (n ≤ r ∨ s.owns r ∨ (e.write = false ∧ s.ro r ≠ none))
  | .mark m => okMark m = true
  | _ => False

def blk : Loc → Option Nat
  | .cell a => some a.block
  | .obj r => some r
  | _ => none

structure Trans (s : St) (w : World) (s' : St) (w' : World) (es : Array Event) : Prop where
  agr : Agrees s' w'
  size : w.heap.size ≤ w'.heap.size
  frame : ∀ b, b < w.heap.size → ¬ s.owns b → w'.heap[b]? = w.heap[b]?
  own : ∀ b, s'.owns b → w.heap.size ≤ b ∨ s.owns b
  ros : ∀ b, s'.ro b ≠ none → w.heap.size ≤ b ∨ s.ro b ≠ none ∨ s.owns b
  os : w'.os = w.os
  output : w'.output = w.output
  tape : w'.tape = w.tape
  evs : ∀ e ∈ es, EvOK s w.heap.size e
  low : ∀ e ∈ es, ∀ b, blk e.loc = some b → b < w'.heap.size

theorem Trans.refl {s : St} {w : World} (h : Agrees s w) : Trans s w s w #[] where
  agr := h
  size := Nat.le_refl _
  frame := fun _ _ _ => rfl
  own := fun _ h => .inr h
  ros := fun _ h => .inr (.inl h)
  os := rfl
  output := rfl
  tape := rfl
  evs := by simp
  low := by simp

theorem Trans.trans {s₁ s₂ s₃ : St} {w₁ w₂ w₃ : World} {e₁ e₂ : Array Event} (h : Trans s₁ w₁ s₂ w₂ e₁) (k : Trans s₂ w₂ s₃ w₃ e₂) :
    Trans s₁ w₁ s₃ w₃ (e₁ ++ e₂) where
  agr := k.agr
  size := Nat.le_trans h.size k.size
  frame := fun b hb hn => by
    rw [k.frame b (Nat.lt_of_lt_of_le hb h.size) (fun ho => by rcases h.own b ho with h1 | h1; omega; exact hn h1), h.frame b hb hn]
  own := fun b hb => by
    rcases k.own b hb with h1 | h1
    · exact .inl (Nat.le_trans h.size h1)
    · exact h.own b h1
  ros := fun b hb => by
    rcases k.ros b hb with h1 | h1 | h1
    · exact .inl (Nat.le_trans h.size h1)
    · exact h.ros b h1
    · rcases h.own b h1 with h2 | h2
      · exact .inl h2
      · exact .inr (.inr h2)
  os := k.os.trans h.os
  output := k.output.trans h.output
  tape := k.tape.trans h.tape
  low := fun e he b hb => by
    rcases Array.mem_append.1 he with he | he
    · exact Nat.lt_of_lt_of_le (h.low e he b hb) k.size
    · exact k.low e he b hb
  evs := fun e he => by
    rcases Array.mem_append.1 he with he | he
    · exact h.evs e he
    · have := k.evs e he
      unfold EvOK at *
      split at this
      · rename_i a _
        refine ⟨this.1, ?_⟩
        rcases this.2 with h1 | h1 | h1
        · exact .inl (Nat.le_trans h.size h1)
        · rcases h.own _ h1 with h2 | h2
          · exact .inl h2
          · exact .inr (.inl h2)
        · rcases h.ros _ h1.2 with h2 | h2 | h2
          · exact .inl h2
          · exact .inr (.inr ⟨h1.1, h2⟩)
          · exact .inr (.inl h2)
      · rename_i r _
        refine ⟨this.1, ?_⟩
        rcases this.2 with h1 | h1 | h1
        · exact .inl (Nat.le_trans h.size h1)
        · rcases h.own _ h1 with h2 | h2
          · exact .inl h2
          · exact .inr (.inl h2)
        · rcases h.ros _ h1.2 with h2 | h2 | h2
          · exact .inl h2
          · exact .inr (.inr ⟨h1.1, h2⟩)
          · exact .inr (.inl h2)
      · exact this
      · exact this

/-! ### The predicate transformer of an operation -/
def single : Value → Bool
  | .agg _ | .tuple _ => false
  | _ => true
def Obj.isCells : Obj → Bool
  | .cells .. => true
  | _ => false
def Obj.shapeOf : Obj → Option (TypeId × Nat)
  | .cells c t _ => some (t, c.size)
  | _ => none
def Obj.frozenAt (a : Addr) : Obj → Bool
  | .cells _ _ (lo, hi) => lo ≤ a.off && a.off < hi
  | _ => false
def Obj.freezeAt (a : Addr) (n : Nat) : Obj → Obj
  | .cells c elem (lo, hi) => .cells c elem (if lo == hi then (a.off, a.off + n) else (min lo a.off, max hi (a.off + n)))
  | o => o
def tri (P : Program) {α : Type} : Sem α → St → (α → St → Prop) → (Halt → St → Prop) → Prop
  | .pure a, s, Q, _ => Q a s
  | .load m a k, s, Q, E => m = .plain ∧ a.spot = none ∧ ∃ c t fz v, s.has a.block (.cells c t fz) ∧ c[a.off]? = some v ∧ tri P (k v) s Q E
  | .store m a v k, s, Q, E => m = .plain ∧ a.spot = none ∧ single v = true ∧ ∃ L c t fz R, s.rw = L ++ (a.block, .cells c t fz) :: R ∧ a.off < c.size ∧
      (fz.1 ≤ a.off && a.off < fz.2) = false ∧ tri P k ⟨s.ro, L ++ (a.block, .cells (c.setIfInBounds a.off v) t fz) :: R⟩ Q E
  | .new o k, s, Q, E => ∀ b, ¬ s.knows b → tri P (k b) ⟨s.ro, (b, o) :: s.rw⟩ Q E
  | .shape r k, s, Q, E => ∃ o, s.has r o ∧ tri P (k (Obj.shapeOf o)) s Q E
  | .freeze a n k, s, Q, E => if n = 0 then tri P k s Q E else
      ∃ L o R, s.rw = L ++ (a.block, o) :: R ∧ tri P k ⟨s.ro, L ++ (a.block, Obj.freezeAt a n o) :: R⟩ Q E
  | .frozen a k, s, Q, E => ∃ o, s.has a.block o ∧ tri P (k (Obj.frozenAt a o)) s Q E
  | .getObj r k, s, Q, E => ∃ o, s.has r o ∧ Obj.isCells o = false ∧ o.isChan = false ∧ tri P (k o) s Q E
  | .setObj r o k, s, Q, E => o.isChan = false ∧ ∃ L o' R, s.rw = L ++ (r, o') :: R ∧ Obj.isCells o' = false ∧ tri P k ⟨s.ro, L ++ (r, o) :: R⟩ Q E
  | .choose q k, s, Q, E => if q.forced then tri P (k 0) s Q E else ∀ n, tri P (k (q.cut n)) s Q E
  | .sys _ _, _, _, _ => False
  | .program k, s, Q, E => tri P (k P) s Q E
  | .mark m k, s, Q, E => okMark m = true ∧ tri P k s Q E
  | .halt h, s, _, E => E h s

theorem tri_bind {P : Program} {α β : Type} (x : Sem α) (f : α → Sem β) (s : St) (Q : β → St → Prop) (E : Halt → St → Prop)
    (h : tri P x s (fun a s' => tri P (f a) s' Q E) E) : tri P (x.bind f) s Q E := by
  induction x generalizing s with
  | pure a => exact h
  | load m a k ih => obtain ⟨h1, h2, c, t, fz, v, h3, h4, h5⟩ := h; exact ⟨h1, h2, c, t, fz, v, h3, h4, ih _ _ h5⟩
  | store m a v k ih => obtain ⟨h1, h2, h3, L, c, t, fz, R, h4, h5, h6, h7⟩ := h; exact ⟨h1, h2, h3, L, c, t, fz, R, h4, h5, h6, ih _ h7⟩
  | new o k ih => exact fun b hb => ih _ _ (h b hb)
  | shape r k ih => obtain ⟨o, h1, h2⟩ := h; exact ⟨o, h1, ih _ _ h2⟩
  | freeze a n k ih =>
    simp only [Sem.bind, tri] at h ⊢
    split
    · rename_i hn; rw [if_pos hn] at h; exact ih _ h
    · rename_i hn; rw [if_neg hn] at h; obtain ⟨L, o, R, h1, h2⟩ := h; exact ⟨L, o, R, h1, ih _ h2⟩
  | frozen a k ih => obtain ⟨o, h1, h2⟩ := h; exact ⟨o, h1, ih _ _ h2⟩
  | getObj r k ih => obtain ⟨o, h1, h2, h3, h4⟩ := h; exact ⟨o, h1, h2, h3, ih _ _ h4⟩
  | setObj r o k ih => obtain ⟨h1, L, o', R, h2, h3, h4⟩ := h; exact ⟨h1, L, o', R, h2, h3, ih _ h4⟩
  | choose q k ih =>
    simp only [Sem.bind, tri] at h ⊢
    split
    · rename_i hn; rw [if_pos hn] at h; exact ih _ _ h
    · rename_i hn; rw [if_neg hn] at h; exact fun n => ih _ _ (h n)
  | sys c k ih => exact h.elim
  | program k ih => exact ih _ _ h
  | mark m k ih => exact ⟨h.1, ih _ h.2⟩
  | halt hh => exact h

theorem tri_mono {P : Program} {α : Type} (x : Sem α) (s : St) (Q Q' : α → St → Prop) (E E' : Halt → St → Prop)
    (hq : ∀ a s, Q a s → Q' a s) (he : ∀ a s, E a s → E' a s) (h : tri P x s Q E) : tri P x s Q' E' := by
  induction x generalizing s with
  | pure a => exact hq _ _ h
  | load m a k ih => obtain ⟨h1, h2, c, t, fz, v, h3, h4, h5⟩ := h; exact ⟨h1, h2, c, t, fz, v, h3, h4, ih _ _ h5⟩
  | store m a v k ih => obtain ⟨h1, h2, h3, L, c, t, fz, R, h4, h5, h6, h7⟩ := h; exact ⟨h1, h2, h3, L, c, t, fz, R, h4, h5, h6, ih _ h7⟩
  | new o k ih => exact fun b hb => ih _ _ (h b hb)
  | shape r k ih => obtain ⟨o, h1, h2⟩ := h; exact ⟨o, h1, ih _ _ h2⟩
  | freeze a n k ih =>
    simp only [tri] at h ⊢
    split
    · rename_i hn; rw [if_pos hn] at h; exact ih _ h
    · rename_i hn; rw [if_neg hn] at h; obtain ⟨L, o, R, h1, h2⟩ := h; exact ⟨L, o, R, h1, ih _ h2⟩
  | frozen a k ih => obtain ⟨o, h1, h2⟩ := h; exact ⟨o, h1, ih _ _ h2⟩
  | getObj r k ih => obtain ⟨o, h1, h2, h3, h4⟩ := h; exact ⟨o, h1, h2, h3, ih _ _ h4⟩
  | setObj r o k ih => obtain ⟨h1, L, o', R, h2, h3, h4⟩ := h; exact ⟨h1, L, o', R, h2, h3, ih _ h4⟩
  | choose q k ih =>
    simp only [tri] at h ⊢
    split
    · rename_i hn; rw [if_pos hn] at h; exact ih _ _ h
    · rename_i hn; rw [if_neg hn] at h; exact fun n => ih _ _ (h n)
  | sys c k ih => exact h.elim
  | program k ih => exact ih _ _ h
  | mark m k ih => exact ⟨h.1, ih _ h.2⟩
  | halt hh => exact he _ _ h

/-! ### What the primitives do to a world that agrees -/
theorem mem_mid {L R : List (Nat × Obj)} {b : Nat} {o : Obj} : (b, o) ∈ L ++ (b, o) :: R := by simp

theorem agrees_set {s : St} {w : World} (h : Agrees s w) {L R : List (Nat × Obj)} {b : Nat} {o o' : Obj} (hl : s.rw = L ++ (b, o) :: R)
    {w' : World} (hw : ∀ j, w'.heap[j]? = if j = b then some o' else w.heap[j]?) : Agrees ⟨s.ro, L ++ (b, o') :: R⟩ w' := by
  have hmem : (b, o) ∈ s.rw := by rw [hl]; exact mem_mid
  have hnd := h.nodup
  rw [hl] at hnd
  simp only [List.map_append, List.map_cons] at hnd
  rw [List.nodup_append] at hnd
  obtain ⟨nL, nR, nLR⟩ := hnd
  rw [List.nodup_cons] at nR
  have notin : ∀ c x, (c, x) ∈ L ∨ (c, x) ∈ R → c ≠ b := by
    rintro c x (hc | hc) rfl
    · exact nLR c (List.mem_map.2 ⟨_, hc, rfl⟩) c (by simp) rfl
    · exact nR.1 (List.mem_map.2 ⟨_, hc, rfl⟩)
  refine ⟨fun c x hc => ?_, fun c x hc => ?_, ?_, fun c x hc => ?_⟩
  · rw [hw]
    by_cases e : c = b
    · subst e; rw [h.apart c o hmem] at hc; cases hc
    · rw [if_neg e]; exact h.ro c x hc
  · simp only [List.mem_append, List.mem_cons] at hc
    rw [hw]
    rcases hc with hc | hc | hc
    · rw [if_neg (notin c x (.inl hc))]; exact h.rw c x (by rw [hl]; simp [hc])
    · cases hc; simp
    · rw [if_neg (notin c x (.inr hc))]; exact h.rw c x (by rw [hl]; simp [hc])
  · simp only [List.map_append, List.map_cons]
    rw [List.nodup_append]
    exact ⟨nL, List.nodup_cons.2 nR, nLR⟩
  · simp only [List.mem_append, List.mem_cons] at hc
    rcases hc with hc | hc | hc
    · exact h.apart c x (by rw [hl]; simp [hc])
    · cases hc; exact h.apart b o hmem
    · exact h.apart c x (by rw [hl]; simp [hc])

theorem owns_set {ro : Nat → Option Obj} {L R : List (Nat × Obj)} {b c : Nat} {o o' : Obj} (h : (⟨ro, L ++ (b, o') :: R⟩ : St).owns c) : (⟨ro, L ++ (b, o) :: R⟩ : St).owns c := by
  obtain ⟨x, hx⟩ := h
  simp only [List.mem_append, List.mem_cons] at hx
  rcases hx with hx | hx | hx
  · exact ⟨x, by simp [hx]⟩
  · cases hx; exact ⟨o, by simp⟩
  · exact ⟨x, by simp [hx]⟩

theorem trans_set {s : St} {w : World} (h : Agrees s w) {L R : List (Nat × Obj)} {b : Nat} {o o' : Obj} (hl : s.rw = L ++ (b, o) :: R)
    {w' : World} (hs : w'.heap.size = w.heap.size) (hw : ∀ j, w'.heap[j]? = if j = b then some o' else w.heap[j]?)
    (ho : w'.os = w.os) (hu : w'.output = w.output) (ht : w'.tape = w.tape) {es : Array Event} (he : ∀ e ∈ es, EvOK s w.heap.size e ∧ ∀ b, blk e.loc = some b → b < w.heap.size) :
    Trans s w ⟨s.ro, L ++ (b, o') :: R⟩ w' es where
  agr := agrees_set h hl hw
  size := by omega
  frame := fun c _ hn => by
    rw [hw]
    by_cases e : c = b
    · subst e; exact absurd ⟨o, by rw [hl]; simp⟩ hn
    · rw [if_neg e]
  own := fun c hc => .inr (by have := owns_set (o := o) hc; obtain ⟨x, hx⟩ := this; exact ⟨x, by rw [hl]; exact hx⟩)
  ros := fun c hc => .inr (.inl hc)
  os := ho
  output := hu
  tape := ht
  evs := fun e h' => (he e h').1
  low := fun e h' b hb => hs ▸ (he e h').2 b hb

theorem trans_new {s : St} {w : World} (h : Agrees s w) (o : Obj) : Trans s w ⟨s.ro, (w.heap.size, o) :: s.rw⟩ { w with heap := w.heap.push o } #[] where
  agr := by
    refine ⟨fun b x hb => ?_, fun b x hb => ?_, ?_, fun b x hb => ?_⟩
    · have := h.ro b x hb
      have hlt := h.lt (.inl hb)
      simp [Array.getElem?_push, Nat.ne_of_lt hlt, this]
    · rcases List.mem_cons.1 hb with hb | hb
      · cases hb; simp
      · have := h.rw b x hb
        have hlt := h.lt (.inr hb)
        simp [Array.getElem?_push, Nat.ne_of_lt hlt, this]
    · simp only [List.map_cons]
      refine List.nodup_cons.2 ⟨fun hm => ?_, h.nodup⟩
      obtain ⟨⟨b, x⟩, hx, rfl⟩ := List.mem_map.1 hm
      have := h.lt (.inr hx)
      simp at this
    · rcases List.mem_cons.1 hb with hb | hb
      · cases hb
        cases hr : s.ro w.heap.size with
        | none => rfl
        | some y => have := h.lt (.inl hr); omega
      · exact h.apart b x hb
  size := by simp
  frame := fun b hb _ => by simp [Array.getElem?_push, Nat.ne_of_lt hb]
  own := fun b hb => by
    obtain ⟨x, hx⟩ := hb
    rcases List.mem_cons.1 hx with hx | hx
    · cases hx; exact .inl (Nat.le_refl _)
    · exact .inr ⟨x, hx⟩
  ros := fun b hb => .inr (.inl hb)
  os := rfl
  output := rfl
  tape := rfl
  evs := by simp
  low := by simp

theorem fresh_knows {s : St} {w : World} (h : Agrees s w) : ¬ s.knows w.heap.size := by
  rintro (hk | ⟨o, hk⟩)
  · cases hr : s.ro w.heap.size with
    | none => exact hk hr
    | some y => have := h.lt (.inl hr); omega
  · have := h.lt (.inr hk); omega

theorem trans_drawn {s : St} {w : World} (h : Agrees s w) (n : Nat) : Trans s w s { w with drawn := n } #[] where
  agr := ⟨h.ro, h.rw, h.nodup, h.apart⟩
  size := Nat.le_refl _
  frame := fun _ _ _ => rfl
  own := fun _ h => .inr h
  ros := fun _ h => .inr (.inl h)
  os := rfl
  output := rfl
  tape := rfl
  evs := by simp
  low := by simp

theorem trans_ev {s : St} {w : World} (h : Agrees s w) {e : Event} (he : EvOK s w.heap.size e) (hb : ∀ b, blk e.loc = some b → b < w.heap.size) : Trans s w s w #[e] where
  agr := h
  size := Nat.le_refl _
  frame := fun _ _ _ => rfl
  own := fun _ h => .inr h
  ros := fun _ h => .inr (.inl h)
  os := rfl
  output := rfl
  tape := rfl
  evs := by simpa using he
  low := by simpa using hb

def Lands {α : Type} (s : St) (w : World) (Q : α → St → Prop) (E : Halt → St → Prop) (es : Array Event) : Result α → Prop
  | .ok a w' => ∃ s', Trans s w s' w' es ∧ Q a s'
  | .halt h w' => ∃ s', Trans s w s' w' es ∧ E h s'

theorem Lands.after {α : Type} {s s₁ : St} {w w₁ : World} {Q : α → St → Prop} {E : Halt → St → Prop} {e₁ e₂ : Array Event} {r : Result α}
    (ht : Trans s w s₁ w₁ e₁) (h : Lands s₁ w₁ Q E e₂ r) : Lands s w Q E (e₁ ++ e₂) r := by
  cases r with
  | ok a w' => obtain ⟨s', h1, h2⟩ := h; exact ⟨s', ht.trans h1, h2⟩
  | halt a w' => obtain ⟨s', h1, h2⟩ := h; exact ⟨s', ht.trans h1, h2⟩

theorem World.cell_of {s : St} {w : World} (h : Agrees s w) {a : Addr} (ha : a.spot = none) {c : Array Value} {t : TypeId} {fz : Nat × Nat} (hb : s.has a.block (.cells c t fz)) :
    w.cell? a = c[a.off]? := by
  simp [World.cell?, h.has hb, ha]

theorem tri_sound {P : Program} {α : Type} (x : Sem α) (s : St) (Q : α → St → Prop) (E : Halt → St → Prop) (w : World) (es : Array Event)
    (h : tri P x s Q E) (ha : Agrees s w) : ∃ r es', x.runT P w es = (r, es ++ es') ∧ Lands s w Q E es' r := by
  induction x generalizing s w es with
  | pure a => exact ⟨.ok a w, #[], by simp only [Sem.runT, Array.append_empty], s, Trans.refl ha, h⟩
  | load m a k ih =>
    obtain ⟨rfl, hsp, c, t, fz, v, hb, hv, hk⟩ := h
    have hc : w.cell? a = some v := by rw [World.cell_of ha hsp hb, hv]
    obtain ⟨r, e', hr, hl⟩ := ih v s w (es.push ⟨.cell a, false, false⟩) hk ha
    refine ⟨r, #[⟨.cell a, false, false⟩] ++ e', ?_, Lands.after (trans_ev ha ?_ (fun b h' => by cases h'; exact ha.lt hb)) hl⟩
    · simp only [Sem.runT, hc]
      rw [show (Mode.plain == Mode.atomic) = false from rfl, hr, ← Array.append_singleton, Array.append_assoc]
    · refine ⟨rfl, ?_⟩
      rcases hb with hb | hb
      · exact .inr (.inr ⟨rfl, by rw [hb]; simp⟩)
      · exact .inr (.inl ⟨_, hb⟩)
  | store m a v k ih =>
    obtain ⟨rfl, hsp, ho, L, c, t, fz, R, hl, hlt, hfz, hk⟩ := h
    have hb : s.has a.block (.cells c t fz) := .inr (by rw [hl]; exact mem_mid)
    have hc : w.cell? a = some c[a.off] := by rw [World.cell_of ha hsp hb]; simp [hlt]
    have hh := ha.has hb
    have hblt := ha.lt hb
    have hfr : w.frozen? a = false := by simp only [World.frozen?, hh]; exact hfz
    have ht : Trans s w ⟨s.ro, L ++ (a.block, .cells (c.setIfInBounds a.off v) t fz) :: R⟩ (w.setCell a v) #[⟨.cell a, true, false⟩] := by
      refine trans_set (w' := w.setCell a v) ha hl (by simp [World.setCell]) (fun j => ?_) rfl rfl rfl ?_
      · simp only [World.setCell, Array.getElem?_modify]
        by_cases e : a.block = j
        · subst e; simp [hh, hsp]
        · simp [e, Ne.symm e]
      · simp only [List.mem_toArray, List.mem_singleton, forall_eq]
        exact ⟨⟨rfl, .inr (.inl ⟨_, hb.resolve_left (by rw [ha.apart _ _ (show (a.block, _) ∈ s.rw by rw [hl]; exact mem_mid)]; simp)⟩)⟩, fun b h' => by cases h'; exact hblt⟩
    obtain ⟨r, e', hr, hl'⟩ := ih _ (w.setCell a v) (es.push ⟨.cell a, true, false⟩) hk ht.agr
    refine ⟨r, #[⟨.cell a, true, false⟩] ++ e', ?_, Lands.after ht hl'⟩
    cases v <;> simp only [single, Bool.false_eq_true] at ho <;>
      (simp only [Sem.runT, hc, hfr]
       rw [show (Mode.plain == Mode.atomic) = false from rfl]
       simp only [Bool.false_eq_true, if_false]
       rw [hr, ← Array.append_singleton, Array.append_assoc])
  | new o k ih =>
    have ht := trans_new ha o
    obtain ⟨r, e', hr, hl⟩ := ih _ _ { w with heap := w.heap.push o } es (h w.heap.size (fresh_knows ha)) ht.agr
    exact ⟨r, #[] ++ e', by simp only [Sem.runT]; rw [hr, Array.empty_append], Lands.after ht hl⟩
  | shape r k ih =>
    obtain ⟨o, hb, hk⟩ := h
    have hs : w.shape? r = Obj.shapeOf o := by
      simp only [World.shape?, ha.has hb]; cases o <;> rfl
    obtain ⟨r', e', hr, hl⟩ := ih _ s w es hk ha
    exact ⟨r', e', by simp only [Sem.runT, hs]; exact hr, hl⟩
  | freeze a n k ih =>
    simp only [tri] at h
    by_cases hn : n = 0
    · rw [if_pos hn] at h
      obtain ⟨r', e', hr, hl⟩ := ih s w es h ha
      exact ⟨r', e', by simp only [Sem.runT, World.freeze, hn, if_true]; exact hr, hl⟩
    · rw [if_neg hn] at h
      obtain ⟨L, o, R, hl, hk⟩ := h
      have hb : s.has a.block o := .inr (by rw [hl]; exact mem_mid)
      have hh := ha.has hb
      have ht : Trans s w ⟨s.ro, L ++ (a.block, Obj.freezeAt a n o) :: R⟩ (w.freeze a n) #[] := by
        refine trans_set (w' := w.freeze a n) ha hl (by simp [World.freeze, hn]) (fun j => ?_) (by simp [World.freeze, hn]) (by simp [World.freeze, hn]) (by simp [World.freeze, hn]) (by simp)
        simp only [World.freeze, hn, if_false, Array.getElem?_modify]
        by_cases e : a.block = j
        · subst e; simp only [hh, if_true, Option.map_some]; cases o <;> rfl
        · simp [e, Ne.symm e]
      obtain ⟨r', e', hr, hl'⟩ := ih _ (w.freeze a n) es hk ht.agr
      exact ⟨r', #[] ++ e', by simp only [Sem.runT]; rw [hr, Array.empty_append], Lands.after ht hl'⟩
  | frozen a k ih =>
    obtain ⟨o, hb, hk⟩ := h
    have hs : w.frozen? a = Obj.frozenAt a o := by
      simp only [World.frozen?, ha.has hb]; cases o <;> rfl
    obtain ⟨r', e', hr, hl⟩ := ih _ s w es hk ha
    exact ⟨r', e', by simp only [Sem.runT, hs]; exact hr, hl⟩
  | getObj r k ih =>
    obtain ⟨o, hb, hnc, hch, hk⟩ := h
    have hh := ha.has hb
    obtain ⟨r', e', hr, hl⟩ := ih o s w (es.push ⟨.obj r, false, false⟩) hk ha
    refine ⟨r', #[⟨.obj r, false, false⟩] ++ e', ?_, Lands.after (trans_ev ha ?_ (fun b h' => by cases h'; exact ha.lt hb)) hl⟩
    · cases o <;> simp only [Obj.isCells, Obj.isChan, Bool.true_eq_false] at hnc hch <;>
        (simp only [Sem.runT, hh, Obj.isChan]; rw [hr, ← Array.append_singleton, Array.append_assoc])
    · refine ⟨rfl, ?_⟩
      rcases hb with hb | hb
      · exact .inr (.inr ⟨rfl, by rw [hb]; simp⟩)
      · exact .inr (.inl ⟨_, hb⟩)
  | setObj r o k ih =>
    obtain ⟨hch, L, o', R, hl, hnc, hk⟩ := h
    have hb : s.has r o' := .inr (by rw [hl]; exact mem_mid)
    have hh := ha.has hb
    have hblt := ha.lt hb
    have ht : Trans s w ⟨s.ro, L ++ (r, o) :: R⟩ { w with heap := w.heap.setIfInBounds r o } #[⟨.obj r, true, false⟩] := by
      refine trans_set (w' := { w with heap := w.heap.setIfInBounds r o }) ha hl (by simp) (fun j => ?_) rfl rfl rfl ?_
      · simp only [Array.getElem?_setIfInBounds]
        by_cases e : r = j
        · subst e; simp [hblt]
        · simp [e, Ne.symm e]
      · simp only [List.mem_toArray, List.mem_singleton, forall_eq]
        exact ⟨⟨rfl, .inr (.inl ⟨o', by rw [hl]; exact mem_mid⟩)⟩, fun b h' => by cases h'; exact hblt⟩
    obtain ⟨r', e', hr, hl'⟩ := ih _ _ (es.push ⟨.obj r, true, false⟩) hk ht.agr
    refine ⟨r', #[⟨.obj r, true, false⟩] ++ e', ?_, Lands.after ht hl'⟩
    cases o' <;> simp only [Obj.isCells, Bool.true_eq_false] at hnc <;>
      (simp only [Sem.runT, hh, hch]; rw [hr, ← Array.append_singleton, Array.append_assoc])
  | choose q k ih =>
    simp only [tri] at h
    by_cases hq : q.forced
    · rw [if_pos hq] at h
      obtain ⟨r', e', hr, hl⟩ := ih 0 s w es h ha
      exact ⟨r', e', by simp only [Sem.runT, hq, if_true]; exact hr, hl⟩
    · rw [if_neg hq] at h
      have ht := trans_drawn ha (w.drawn + 1)
      obtain ⟨r', e', hr, hl⟩ := ih _ s { w with drawn := w.drawn + 1 } es (h (w.tape w.drawn q)) ht.agr
      exact ⟨r', #[] ++ e', by simp only [Sem.runT, hq, Bool.false_eq_true, if_false]; rw [hr, Array.empty_append], Lands.after ht hl⟩
  | sys c k ih => exact h.elim
  | program k ih =>
    obtain ⟨r', e', hr, hl⟩ := ih P s w es h ha
    exact ⟨r', e', by simp only [Sem.runT]; exact hr, hl⟩
  | mark m k ih =>
    obtain ⟨r', e', hr, hl⟩ := ih s w (es.push ⟨.mark m, false, true⟩) h.2 ha
    refine ⟨r', #[⟨.mark m, false, true⟩] ++ e', ?_, Lands.after (trans_ev ha ?_ (fun b h' => by cases h')) hl⟩
    · simp only [Sem.runT]; rw [hr, ← Array.append_singleton, Array.append_assoc]
    · exact h.1
  | halt hh => exact ⟨.halt hh w, #[], by simp only [Sem.runT, Array.append_empty], s, Trans.refl ha, h⟩
end Go.L
namespace Go.L
open Go Go.Conc

/-! ### Predicates on goroutines that are closed under own steps -/
/-- 's' knows and owns no more than s' (what is owned in s' may be known in 's'). -/
def St.le (s s' : St) : Prop := ∃ R, s'.rw.Perm (s.rw ++ R) ∧ ∀ b o, s.ro b = some o → s'.ro b = some o ∨ (b, o) ∈ R
theorem St.le_refl (s : St) : s.le s := ⟨[], by simp, fun _ _ h => .inl h⟩
theorem St.le_cons {s : St} {ro : Nat → Option Obj} {l : List (Nat × Obj)} (x : Nat × Obj) (h : s.le ⟨ro, l⟩) : s.le ⟨ro, x :: l⟩ := by
  obtain ⟨R, h1, h2⟩ := h
  refine ⟨x :: R, ?_, fun b o hb => (h2 b o hb).imp id (List.mem_cons_of_mem _)⟩
  exact (List.Perm.cons x h1).trans List.perm_middle.symm
theorem Agrees.of_le {s s' : St} {w : World} (hl : s.le s') (h : Agrees s' w) : Agrees s w := by
  obtain ⟨R, hR, h1⟩ := hl
  have hm : ∀ x, x ∈ s.rw → x ∈ s'.rw := fun x hx => hR.mem_iff.2 (by simp [hx])
  have hm' : ∀ x, x ∈ R → x ∈ s'.rw := fun x hx => hR.mem_iff.2 (by simp [hx])
  have hnd := (hR.map (·.1)).nodup_iff.1 h.nodup
  rw [List.map_append, List.nodup_append] at hnd
  refine ⟨fun b o hb => (h1 b o hb).elim (h.ro b o) (fun hx => h.rw b o (hm' _ hx)), fun b o hb => h.rw b o (hm _ hb), hnd.1, fun b o hb => ?_⟩
  have := h.apart b o (hm _ hb)
  cases hr : s.ro b with
  | none => rfl
  | some y =>
    rcases h1 b y hr with h3 | h3
    · rw [h3] at this; cases this
    · exact absurd rfl (hnd.2.2 b (List.mem_map.2 ⟨_, hb, rfl⟩) b (List.mem_map.2 ⟨_, h3, rfl⟩))

structure Closed (P : Program) (main : Bool) (T : Goroutine → St → Prop) : Prop where
  step : ∀ g s, g.status = .running → (∀ w, Agrees s w → ∃ g' w' es s', stepG P main g w = .go g' w' es ∧ g'.status = .running ∧ Trans s w s' w' es ∧ T g' s') → T g s
  mono : ∀ g s s', s.le s' → T g s → T g s'

theorem Closed.go {P : Program} {main : Bool} {T : Goroutine → St → Prop} (C : Closed P main T) {g g' : Goroutine} {s : St} (hs : g.status = .running) (hs' : g'.status = .running)
    (h : ∀ w, stepG P main g w = .go g' w #[]) (ht : T g' s) : T g s :=
  C.step g s hs fun w hw => ⟨g', w, #[], s, h w, hs', Trans.refl hw, ht⟩

abbrev Class := Bool → (Goroutine → St → Prop) → Prop
abbrev Post := Exit → Act → St → Prop

def fat (b : Frame) (a : Act) (todo : List Item) : Frame := { fn := b.fn, tmps := a.tmps, todo, defers := a.defers, mode := .run, kind := b.kind, roundOf := b.roundOf }

def After (T : Goroutine → St → Prop) (b : Frame) (k : List Item) (cs : List Frame) : Post
  | .normal, a, s => T (G (fat b a k) cs) s
  | .exit id, a, s => match exitTo id k with
    | some k' => T (G (fat b a k') cs) s
    | none => ∀ todo, exitTo id todo = none → T (G (fat b a (.code (.exit id) :: todo)) cs) s
  | .ret, a, s => ∀ todo, T (G (fat b a (.code .ret :: todo)) cs) s
  | .panic ch, a, s => ∀ todo, T (G { fat b a todo with mode := .panicking ch } cs) s
  | _, _, _ => False

/-- The piece of code c of function fn, run in state a with knowledge s, in whatever company, is left in a way that satisfies Q. -/
def Wp (C : Class) (fn : FuncId) (rnd : Option Nat) (c : Code) (Q : Post) (a : Act) (s : St) : Prop :=
  ∀ main T, C main T → ∀ (b : Frame) (k : List Item) (cs : List Frame), b.fn = fn → b.kind ≠ .early → b.roundOf = rnd →
    (∀ e a' s', Q e a' s' → After T b k cs e a' s') → T (G (fat b a (.code c :: k)) cs) s

def OpsWp (C : Class) (fn : FuncId) (rnd : Option Nat) (ops : Array Oper) (todo : List Nat) (Q : Post) (a : Act) (s : St) : Prop :=
  ∀ main T, C main T → ∀ (b : Frame) (k : List Item) (cs : List Frame), b.fn = fn → b.kind ≠ .early → b.roundOf = rnd →
    (∀ e a' s', Q e a' s' → After T b k cs e a' s') → T (G (fat b a (.inRegion ops todo :: k)) cs) s

/-- A call of function f. -/
def Fn (C : Class) (P : Program) (f : FuncId) (args : Array Value) (s : St) (R : Ending → St → Prop) : Prop :=
  ∀ main T, C main T → ∀ (c : Frame) (cs : List Frame), (∀ v s', R (.returned v) s' → T (G (c.finish v) cs) s') → (∀ ch s', R (.panicked ch) s' → T (G (c.raise ch) cs) s') →
    T (G (Frame.enter P f args .normal) (c :: cs)) s
/-- A round of a loop over a function. -/
def Round (C : Class) (l : Nat) (f : FuncId) (tmps : Array Value) (assign body : Code) (s : St) (R : Ending → St → Prop) : Prop :=
  ∀ main T, C main T → ∀ (c : Frame) (cs : List Frame), (∀ v s', R (.returned v) s' → T (G (c.finish v) cs) s') → (∀ ch s', R (.panicked ch) s' → T (G (c.raise ch) cs) s') →
    T (G (Frame.round l f tmps assign body .normal) (c :: cs)) s

section rules
variable {P : Program} {C : Class} {fn : FuncId} {rnd : Option Nat} {Q : Post} {a : Act} {s : St}

theorem Fn.mono {f : FuncId} {args : Array Value} {R R' : Ending → St → Prop} (h : Fn C P f args s R) (hr : ∀ e s, R e s → R' e s) : Fn C P f args s R' :=
  fun main T hT c cs h1 h2 => h main T hT c cs (fun v s' hv => h1 v s' (hr _ _ hv)) fun ch s' hv => h2 ch s' (hr _ _ hv)
theorem Fn.weaken {C' : Class} (hc : ∀ main T, C' main T → C main T) {f : FuncId} {args : Array Value} {R : Ending → St → Prop} (h : Fn C P f args s R) : Fn C' P f args s R :=
  fun main T hT => h main T (hc _ _ hT)
theorem Wp.mono {c : Code} {Q' : Post} (h : Wp C fn rnd c Q a s) (hq : ∀ e a s, Q e a s → Q' e a s) : Wp C fn rnd c Q' a s :=
  fun main T hT b k cs h1 h2 h3 h4 => h main T hT b k cs h1 h2 h3 fun e a' s' q => h4 e a' s' (hq e a' s' q)
theorem Wp.more (hC : ∀ main T, C main T → Closed P main T) {c : Code} {s' : St} (hl : s.le s') (h : Wp C fn rnd c Q a s) : Wp C fn rnd c Q a s' :=
  fun main T hT b k cs h1 h2 h3 h4 => (hC _ _ hT).mono _ _ _ hl (h main T hT b k cs h1 h2 h3 h4)

theorem wp_skip (hC : ∀ main T, C main T → Closed P main T) (h : Q .normal a s) : Wp C fn rnd .skip Q a s :=
  fun main T hT b k cs _ _ _ h4 => (hC main T hT).go rfl rfl (g' := G (fat b a k) cs) (fun w => by simp [G, stepG, stepG.exec, fat]) (h4 _ _ _ h)

theorem After.push {T : Goroutine → St → Prop} {b : Frame} {x : Item} {k : List Item} {cs : List Frame} {e : Exit} (hx : x.plain = true) (he : e ≠ .normal)
    (h : After T b k cs e a s) : After T b (x :: k) cs e a s := by
  cases e with
  | normal => exact absurd rfl he
  | exit id =>
    have hh : exitTo id (x :: k) = exitTo id k := by cases x <;> simp_all [exitTo, Item.plain]
    simp only [After, hh] at h ⊢; exact h
  | ret => exact h
  | panic ch => exact h
  | goto l => exact h
  | outgrown => exact h

def thenQ (K : Act → St → Prop) (Q : Post) : Post
  | .normal, a, s => K a s
  | e, a, s => Q e a s

theorem wp_seq (hC : ∀ main T, C main T → Closed P main T) {x y : Code} (h : Wp C fn rnd x (thenQ (fun a' s' => Wp C fn rnd y Q a' s') Q) a s) : Wp C fn rnd (.seq x y) Q a s := by
  intro main T hT b k cs h1 h2 h3 h4
  refine (hC main T hT).go rfl rfl (g' := G (fat b a (.code x :: .code y :: k)) cs) (fun w => by simp [G, stepG, stepG.exec, fat]) ?_
  refine h main T hT b (.code y :: k) cs h1 h2 h3 fun e a' s' q => ?_
  cases e with
  | normal => exact q main T hT b k cs h1 h2 h3 h4
  | exit id => exact (h4 _ _ _ q).push rfl (by simp)
  | ret => exact (h4 _ _ _ q).push (x := .code y) rfl (by simp)
  | panic ch => exact (h4 _ _ _ q).push (x := .code y) rfl (by simp)
  | goto l => exact (h4 _ _ _ q).elim
  | outgrown => exact (h4 _ _ _ q).elim

theorem wp_seq_k (hC : ∀ main T, C main T → Closed P main T) {x y : Code} (h : ∀ K : Act → St → Prop, (∀ a s, Wp C fn rnd y Q a s → K a s) → Wp C fn rnd x (thenQ K Q) a s) : Wp C fn rnd (.seq x y) Q a s :=
  wp_seq hC (h _ fun _ _ h => h)

theorem fat_eval (b : Frame) (a : Act) (todo : List Item) (x : Operand) : (fat b a todo).eval x = a.eval x := by cases x <;> rfl
theorem fat_eval' (b : Frame) (a : Act) (todo : List Item) : (fat b a todo).eval = a.eval := funext (fat_eval b a todo)

theorem wp_cond (hC : ∀ main T, C main T → Closed P main T) {c : Operand} {x y : Code} {t : Bool} (hc : a.eval c = .bool t) (h : Wp C fn rnd (if t then x else y) Q a s) : Wp C fn rnd (.cond c x y) Q a s := by
  intro main T hT b k cs h1 h2 h3 h4
  refine (hC main T hT).go rfl rfl (g' := G (fat b a (.code (if t then x else y) :: k)) cs) (fun w => ?_) (h main T hT b k cs h1 h2 h3 h4)
  have h' : (fat b a (.code (.cond c x y) :: k)).eval c = .bool t := by rw [fat_eval]; exact hc
  simp only [fat] at h'
  simp [G, stepG, stepG.exec, fat, h']
theorem wp_cond_true (hC : ∀ main T, C main T → Closed P main T) {c : Operand} {x y : Code} {t : Bool} (hc : a.eval c = .bool t) (ht : t = true) (h : Wp C fn rnd x Q a s) : Wp C fn rnd (.cond c x y) Q a s :=
  wp_cond hC (t := true) (ht ▸ hc) h
theorem wp_cond_false (hC : ∀ main T, C main T → Closed P main T) {c : Operand} {x y : Code} {t : Bool} (hc : a.eval c = .bool t) (ht : t = false) (h : Wp C fn rnd y Q a s) : Wp C fn rnd (.cond c x y) Q a s :=
  wp_cond hC (t := false) (ht ▸ hc) h
theorem wp_cond_split (hC : ∀ main T, C main T → Closed P main T) {c : Operand} {x y : Code} {t : Bool} (hc : a.eval c = .bool t) (h1 : t = true → Wp C fn rnd x Q a s) (h2 : t = false → Wp C fn rnd y Q a s) :
    Wp C fn rnd (.cond c x y) Q a s := by
  cases t
  · exact wp_cond hC hc (h2 rfl)
  · exact wp_cond hC hc (h1 rfl)

def blockQ (id : Nat) (Q : Post) : Post
  | .exit id', a, s => if id' = id then Q .normal a s else Q (.exit id') a s
  | e, a, s => Q e a s

theorem wp_block (hC : ∀ main T, C main T → Closed P main T) {id : Nat} {c : Code} (h : Wp C fn rnd c (blockQ id Q) a s) : Wp C fn rnd (.block id c) Q a s := by
  intro main T hT b k cs h1 h2 h3 h4
  refine (hC main T hT).go rfl rfl (g' := G (fat b a (.code c :: .inBlock id :: k)) cs) (fun w => by simp [G, stepG, stepG.exec, fat]) ?_
  refine h main T hT b (.inBlock id :: k) cs h1 h2 h3 fun e a' s' q => ?_
  cases e with
  | normal => exact (hC main T hT).go rfl rfl (g' := G (fat b a' k) cs) (fun w => by simp [G, stepG, stepG.exec, fat]) (h4 _ _ _ q)
  | exit id' =>
    by_cases hid : id' = id
    · simp only [blockQ, hid, if_true] at q
      have := h4 _ _ _ q
      simp only [After, exitTo, hid, beq_self_eq_true, if_true]
      exact this
    · simp only [blockQ, hid, if_false] at q
      have := h4 _ _ _ q
      have hne : (id == id') = false := by simp; exact fun h => hid h.symm
      simp only [After, exitTo, hne, Bool.false_eq_true, if_false] at this ⊢
      exact this
  | ret => exact h4 _ _ _ q
  | panic ch => exact h4 _ _ _ q
  | goto l => exact (h4 _ _ _ q).elim
  | outgrown => exact (h4 _ _ _ q).elim

theorem wp_exit (hC : ∀ main T, C main T → Closed P main T) {id : Nat} (h : Q (.exit id) a s) : Wp C fn rnd (.exit id) Q a s := by
  intro main T hT b k cs h1 h2 h3 h4
  have h' := h4 _ _ _ h
  simp only [After] at h'
  cases hk : exitTo id k with
  | some k' =>
    rw [hk] at h'
    exact (hC main T hT).go rfl rfl (g' := G (fat b a k') cs) (fun w => by simp [G, stepG, stepG.exec, fat, hk]) h'
  | none => rw [hk] at h'; exact h' k hk

theorem wp_ret {fn : FuncId} (h : Q .ret a s) : Wp C fn rnd .ret Q a s := fun _ _ _ _ _ _ _ _ _ h4 => h4 _ _ _ h _

theorem wp_loop (hC : ∀ main T, C main T → Closed P main T) {c : Code} (I : Act → St → Prop) (μ : Act → St → Nat) (h₀ : I a s)
    (round : ∀ a s, I a s → Wp C fn rnd c (thenQ (fun a' s' => I a' s' ∧ μ a' s' < μ a s) Q) a s) : Wp C fn rnd (.loop c) Q a s := by
  intro main T hT b k cs h1 h2 h3 h4
  have key : ∀ n a s, μ a s = n → I a s → T (G (fat b a (.code c :: .inLoop c :: k)) cs) s := by
    intro n
    induction n using Nat.strongRecOn with
    | _ n ih =>
      intro a s hn hI
      refine round a s hI main T hT b (.inLoop c :: k) cs h1 h2 h3 fun e a' s' q => ?_
      cases e with
      | normal =>
        obtain ⟨hI', hlt⟩ := q
        exact (hC main T hT).go rfl rfl (g' := G (fat b a' (.code c :: .inLoop c :: k)) cs) (fun w => by simp [G, stepG, stepG.exec, fat]) (ih _ (hn ▸ hlt) a' s' rfl hI')
      | exit id => exact (h4 _ _ _ q).push rfl (by simp)
      | ret => exact (h4 _ _ _ q).push (x := .inLoop c) rfl (by simp)
      | panic ch => exact (h4 _ _ _ q).push (x := .inLoop c) rfl (by simp)
      | goto l => exact (h4 _ _ _ q).elim
      | outgrown => exact (h4 _ _ _ q).elim
  exact (hC main T hT).go rfl rfl (g' := G (fat b a (.code c :: .inLoop c :: k)) cs) (fun w => by simp [G, stepG, stepG.exec, fat]) (key _ a s rfl h₀)

theorem wp_region (hC : ∀ main T, C main T → Closed P main T) {id : Nat} {ops : Array Oper} (h : OpsWp C fn rnd ops (List.range ops.size) Q a s) : Wp C fn rnd (.region id ops false) Q a s :=
  fun main T hT b k cs h1 h2 h3 h4 => (hC main T hT).go rfl rfl (g' := G (fat b a (.inRegion ops (List.range ops.size) :: k)) cs) (fun w => by simp [G, stepG, stepG.exec, fat]) (h main T hT b k cs h1 h2 h3 h4)

theorem wp_region_draw (hC : ∀ main T, C main T → Closed P main T) {id : Nat} {ops : Array Oper} (h : ∀ t, OpsWp C fn rnd ops (Region.schedule (P.follows .mixedOrders) ops t) Q a s) : Wp C fn rnd (.region id ops true) Q a s := by
  intro main T hT b k cs h1 h2 h3 h4
  refine (hC main T hT).step _ _ rfl fun w hw => ?_
  refine ⟨G (fat b a (.inRegion ops (Region.schedule (P.follows .mixedOrders) ops (w.tape w.drawn (.order b.fn id))) :: k)) cs, { w with drawn := w.drawn + 1 }, #[], s, ?_, rfl, trans_drawn hw _, h _ main T hT b k cs h1 h2 h3 h4⟩
  simp [G, stepG, stepG.exec, fat, choose, Sem.run, Question.forced, Question.cut]

theorem ops_nil (hC : ∀ main T, C main T → Closed P main T) {ops : Array Oper} (h : Q .normal a s) : OpsWp C fn rnd ops [] Q a s :=
  fun main T hT b k cs _ _ _ h4 => (hC main T hT).go rfl rfl (g' := G (fat b a k) cs) (fun w => by simp [G, stepG, stepG.exec, fat]) (h4 _ _ _ h)

theorem fat_finish (b : Frame) (a : Act) (ops : Array Oper) (i : Nat) (rest : List Nat) (k : List Item) (v : Value) :
    (fat b a (.inRegion ops (i :: rest) :: k)).finish v = fat b (a.put ((ops[i]?).bind (·.dst)) v) (.inRegion ops rest :: k) := by
  cases h : (ops[i]?).bind (·.dst) <;> simp [Frame.finish, fat, Act.put, h]

theorem ops_unwanted (hC : ∀ main T, C main T → Closed P main T) {ops : Array Oper} {i : Nat} {rest : List Nat} {o : Oper} (ho : ops[i]? = some o) (hw : Region.wanted o (yielded ops a.tmps) = false)
    (h : OpsWp C fn rnd ops rest Q (a.put o.dst undef) s) : OpsWp C fn rnd ops (i :: rest) Q a s := by
  intro main T hT b k cs h1 h2 h3 h4
  refine (hC main T hT).go rfl rfl (g' := G (fat b (a.put o.dst undef) (.inRegion ops rest :: k)) cs) (fun w => ?_) (h main T hT b k cs h1 h2 h3 h4)
  have := fat_finish b a ops i rest k undef
  rw [ho] at this
  simp only [Option.bind_some] at this
  rw [← this]
  simp [G, stepG, stepG.exec, fat, ho, hw]

def retQ (dst : Option Tmp) (a : Act) (K : Act → St → Prop) (Q : Post) : Ending → St → Prop
  | .returned v, s => K (a.put dst v) s
  | .panicked ch, s => Q (.panic ch) a s
  | .outgrown, _ => False

def upon (C : Class) (P : Program) (rnd : Option Nat) (dst : Option Tmp) (a : Act) (K : Act → St → Prop) (Q : Post) : Next → St → Prop
  | .value v, s => K (a.put dst v) s
  | .skip, s => K (a.put dst undef) s
  | .enter f args, s => Fn C P f args s (retQ dst a K Q)
  | .round l f tmps assign body, s => Round C l f tmps assign body s (retQ dst a K Q)
  | .defer d, s => rnd = none ∧ K ({ a with defers := d :: a.defers }.put dst undef) s
  | _, _ => False

def onHalt (a : Act) (Q : Post) : Halt → St → Prop
  | .panic v, s => Q (.panic [{ v, recovered := false }]) a s
  | _, _ => False

theorem foldl_sub (g : Bool × Array Event → Event → Bool × Array Event) (hg : ∀ x y, (g x y).2 = x.2 ∨ (g x y).2 = x.2.push y) :
    ∀ (l : List Event) (x : Bool × Array Event), ∀ e ∈ (l.foldl g x).2, e ∈ x.2 ∨ e ∈ l := by
  intro l
  induction l with
  | nil => intro x e he; exact .inl he
  | cons y l ih =>
    intro x e he
    simp only [List.foldl_cons] at he
    rcases ih _ e he with h | h
    · rcases hg x y with h' | h'
      · rw [h'] at h; exact .inl h
      · rw [h'] at h
        rcases Array.mem_push.1 h with h | h
        · exact .inl h
        · exact .inr (by simp [h])
    · exact .inr (List.mem_cons_of_mem _ h)

theorem seen_sub (P : Program) (f : FuncId) (es : Array Event) : ∀ e ∈ seen P f es, e ∈ es := by
  intro e he
  unfold seen at he
  simp only at he
  rw [← Array.foldl_toList] at he
  rcases foldl_sub _ (fun x y => by
    rcases x with ⟨q, kept⟩
    dsimp only
    split
    · exact .inl rfl
    · dsimp only
      split
      · exact .inl rfl
      · exact .inr rfl) es.toList _ e he with h | h
  · simp at h
  · exact Array.mem_toList_iff.1 h

theorem Trans.sub {s s' : St} {w w' : World} {es es' : Array Event} (h : Trans s w s' w' es) (hs : ∀ e ∈ es', e ∈ es) : Trans s w s' w' es' :=
  ⟨h.agr, h.size, h.frame, h.own, h.ros, h.os, h.output, h.tape, fun e he => h.evs e (hs e he), fun e he => h.low e (hs e he)⟩


theorem ops_op (hC : ∀ main T, C main T → Closed P main T) {ops : Array Oper} {i : Nat} {rest : List Nat} {o : Oper} (ho : ops[i]? = some o) (hw : Region.wanted o (yielded ops a.tmps) = true)
    (hd : rnd = none ∨ ∀ c, o.op ≠ .defer c)
    (h : tri P (execOp a.eval o) s (upon C P rnd o.dst a (fun a' s' => OpsWp C fn rnd ops rest Q a' s') Q) (onHalt a Q)) : OpsWp C fn rnd ops (i :: rest) Q a s := by
  intro main T hT b k cs h1 h2 h3 h4
  have hcl := hC main T hT
  have hfin : ∀ (a : Act) v, (fat b a (.inRegion ops (i :: rest) :: k)).finish v = fat b (a.put o.dst v) (.inRegion ops rest :: k) := by
    intro a v; rw [fat_finish, ho]; rfl
  have hk : (b.kind == CallKind.early) = false := by simpa using h2
  have hstep : ∀ w, stepG P main (G (fat b a (.inRegion ops (i :: rest) :: k)) cs) w = stepG.apply P true (fat b a (.inRegion ops (i :: rest) :: k)) cs none (execOp a.eval o) w := by
    intro w
    have he := fat_eval' b a (.inRegion ops (i :: rest) :: k)
    simp only [fat] at he
    simp only [G, stepG, stepG.exec, fat, ho, Option.map_some, Option.getD_some, hw, if_true, stepG.oper, Frame.oper?, he]
    rcases hd with hd | hd
    · rw [h3, hd]
    · split
      · rename_i hx hy; exact absurd hy (hd _)
      · rfl
  -- by the kind of what it yields
  refine hcl.step _ _ rfl fun w hag => ?_
  obtain ⟨r, es, hr, hl⟩ := tri_sound _ _ _ _ w #[] h hag
  rw [Array.empty_append] at hr
  have hap := hstep w
  simp only [stepG.apply, if_true, hr] at hap
  simp only [fat, hk, Bool.false_eq_true, if_false] at hap
  have hsub := seen_sub P b.fn es
  cases r with
  | ok nx w' =>
    obtain ⟨s', ht, hu⟩ := hl
    have ht' := ht.sub hsub
    cases nx with
    | value v =>
      simp only [GStep.after, Array.append_empty] at hap
      refine ⟨_, _, _, s', hap, rfl, ht', ?_⟩
      have := hu main T hT b k cs h1 h2 h3 h4
      rw [← hfin] at this; exact this
    | skip =>
      simp only [GStep.after, Array.append_empty] at hap
      refine ⟨_, _, _, s', hap, rfl, ht', ?_⟩
      have := hu main T hT b k cs h1 h2 h3 h4
      rw [← hfin] at this; exact this
    | enter f args =>
      simp only [GStep.after, Array.append_empty] at hap
      refine ⟨_, _, _, s', hap, rfl, ht', ?_⟩
      refine hu main T hT (fat b a (.inRegion ops (i :: rest) :: k)) cs (fun v s'' hv => ?_) (fun ch s'' hv => ?_)
      · rw [hfin]; exact hv main T hT b k cs h1 h2 h3 h4
      · exact h4 _ _ _ hv _
    | round l f tmps assign body =>
      simp only [GStep.after, Array.append_empty] at hap
      refine ⟨_, _, _, s', hap, rfl, ht', ?_⟩
      refine hu main T hT (fat b a (.inRegion ops (i :: rest) :: k)) cs (fun v s'' hv => ?_) (fun ch s'' hv => ?_)
      · rw [hfin]; exact hv main T hT b k cs h1 h2 h3 h4
      · exact h4 _ _ _ hv _
    | defer d =>
      simp only [GStep.after, Array.append_empty] at hap
      refine ⟨_, _, _, s', hap, rfl, ht', ?_⟩
      have := hu.2 main T hT b k cs h1 h2 h3 h4
      rw [← hfin] at this
      exact this
    | _ => exact hu.elim
  | halt hh w' =>
    obtain ⟨s', ht, hu⟩ := hl
    have ht' := ht.sub hsub
    cases hh with
    | panic v =>
      simp only [GStep.after, Array.append_empty] at hap
      refine ⟨_, _, _, s', hap, rfl, ht', ?_⟩
      have hp : onHalt a Q (.panic v) s' := hu
      exact h4 _ _ _ hp _
    | _ => exact absurd hu id

/-! ### From a body to a function -/
def bodyQ (P : Program) (fn : Func) (R : Ending → St → Prop) : Post
  | .normal, a, s | .ret, a, s => a.defers = [] ∧ tri P (results fn a.tmps) s (fun v s' => ∃ s0, s0.le s' ∧ R (.returned v) s0) (fun _ _ => False)
  | .panic ch, a, s => a.defers = [] ∧ R (.panicked ch) s
  | _, _, _ => False

theorem ret_step (hC : ∀ main T, C main T → Closed P main T) {main : Bool} {T : Goroutine → St → Prop} (hT : C main T) {f : FuncId} {fn : Func} (hf : P.funcs[f]? = some fn) {fr c : Frame} {cs : List Frame}
    (h1 : fr.fn = f) (h2 : fr.kind = .normal) (h3 : fr.mode = .returning) (h4 : fr.defers = []) {R : Ending → St → Prop} {s : St}
    (hr : tri P (results fn fr.tmps) s (fun v s' => ∃ s0, s0.le s' ∧ R (.returned v) s0) (fun _ _ => False)) (hk : ∀ v s', R (.returned v) s' → T (G (c.finish v) cs) s') : T (G fr (c :: cs)) s := by
  refine (hC main T hT).step _ _ rfl fun w hag => ?_
  obtain ⟨r, es, hrun, hl⟩ := tri_sound _ _ _ _ w #[] hr hag
  clear hr
  rw [Array.empty_append] at hrun
  cases r with
  | ok v w' =>
    obtain ⟨s', ht, hu⟩ := hl
    refine ⟨G (c.finish v) cs, w', seen P fr.fn es, s', ?_, rfl, ht.sub (seen_sub _ _ _), by obtain ⟨s0, hl0, hr0⟩ := hu; exact (hC main T hT).mono _ _ _ hl0 (hk _ _ hr0)⟩
    rcases fr with ⟨fn', tmps, todo, defers, mode, kind, ro⟩
    simp only at h1 h2 h3 h4 hrun ⊢
    subst h1 h2 h3 h4
    simp only [G, stepG, unwind, hf, hrun, doReturn, GStep.after, Array.append_empty]
  | halt _ _ => obtain ⟨_, _, hu⟩ := hl; exact hu.elim

theorem fn_of_wp (hC : ∀ main T, C main T → Closed P main T) {f : FuncId} {fn : Func} {c : Code} {args : Array Value} {R : Ending → St → Prop}
    (hf : P.funcs[f]? = some fn) (hb : fn.body = some c) (h : Wp C f none c (bodyQ P fn R) ⟨args ++ Array.replicate (fn.ntmps - args.size) undef, []⟩ s) : Fn C P f args s R := by
  intro main T hT cl cs k1 k2
  let b : Frame := { (default : Frame) with fn := f, kind := .normal, roundOf := none }
  have henter : Frame.enter P f args .normal = fat b ⟨args ++ Array.replicate (fn.ntmps - args.size) undef, []⟩ [.code c] := by
    simp [Frame.enter, fat, hf, hb, b]
  rw [henter]
  refine h main T hT b [] (cl :: cs) rfl (by simp [b]) rfl fun e a' s' q => ?_
  have hret : ∀ (todo : List Item), a'.defers = [] → tri P (results fn a'.tmps) s' (fun v s' => ∃ s0, s0.le s' ∧ R (.returned v) s0) (fun _ _ => False) → T (G { fat b a' todo with mode := .returning } (cl :: cs)) s' :=
    fun todo hd hr => ret_step hC hT hf rfl rfl rfl hd hr k1
  cases e with
  | normal =>
    exact (hC main T hT).go rfl rfl (g' := G { fat b a' [] with mode := .returning } (cl :: cs)) (fun w => by simp [G, stepG, stepG.exec, fat, b]) (hret _ q.1 q.2)
  | ret =>
    exact fun todo => (hC main T hT).go rfl rfl (g' := G { fat b a' (.code .ret :: todo) with mode := .returning } (cl :: cs)) (fun w => by simp [G, stepG, stepG.exec, fat, b]) (hret _ q.1 q.2)
  | panic ch =>
    intro todo
    refine (hC main T hT).go rfl rfl (g' := G (cl.raise ch) cs) (fun w => ?_) (k2 _ _ q.2)
    have hnc : ∀ fr : Frame, fr.fn = f → fr.catches P = false := by
      intro fr hfr; simp [Frame.catches, hfr, hf]
    have := hnc { fat b a' todo with mode := .panicking ch } rfl
    simp only [fat, q.1] at this
    simp [G, stepG, unwind, fat, b, q.1, this]
  | exit id => exact q.elim
  | goto l => exact q.elim
  | outgrown => exact q.elim

end rules
end Go.L
namespace Go.L
open Go Go.Conc

/-! ### Slots as a list of what was written last -/
abbrev Env := List (Nat × Value)
def get : Env → Nat → Value
  | [], _ => undef
  | (k, v) :: r, t => bif Nat.beq k t then v else get r t
def A (n : Nat) (env : Env) (D : List Deferred) : Act := ⟨Array.ofFn (n := n) fun i => get env i, D⟩
def ev (n : Nat) (env : Env) : Operand → Value
  | .tmp t => bif Nat.blt t n then get env t else undef
  | .const v => v
  | .global g => .pointer (some ⟨g, 0, none⟩)
  | .func f => .func (.func f) #[] #[]

/-- .. with 'some' ahead: so that whoever asks for it by 'rfl' is handed the value itself. -/
def geto : Env → Nat → Option Value
  | [], _ => none
  | (k, v) :: r, t => bif Nat.beq k t then some v else geto r t
def evo (n : Nat) (env : Env) : Operand → Option Value
  | .tmp t => bif Nat.blt t n then geto env t else none
  | .const v => some v
  | .global g => some (.pointer (some ⟨g, 0, none⟩))
  | .func f => some (.func (.func f) #[] #[])
def evl (n : Nat) (env : Env) : List Operand → Option (List Value)
  | [] => some []
  | x :: l => match evo n env x with
    | some v => match evl n env l with
      | some r => some (v :: r)
      | none => none
    | none => none
def evs (n : Nat) (env : Env) (xs : Array Operand) : Option (List Value) := evl n env xs.toList
theorem geto_get {env : Env} {t : Nat} {v : Value} (h : geto env t = some v) : get env t = v := by
  induction env with
  | nil => cases h
  | cons x env ih =>
    rcases x with ⟨k, u⟩
    simp only [geto, get] at h ⊢
    cases hb : Nat.beq k t with
    | true => rw [hb] at h; simpa using h
    | false => rw [hb] at h; exact ih h
theorem ev_of {n : Nat} {env : Env} {x : Operand} {v : Value} (h : evo n env x = some v) : ev n env x = v := by
  cases x with
  | tmp t =>
    simp only [evo, ev] at h ⊢
    cases hb : Nat.blt t n with
    | true => rw [hb] at h; exact geto_get h
    | false => rw [hb] at h; cases h
  | const u => simpa [evo, ev] using h
  | global g => simpa [evo, ev] using h
  | func f => simpa [evo, ev] using h
theorem evl_of {n : Nat} {env : Env} : ∀ {xs : List Operand} {l : List Value}, evl n env xs = some l → xs.map (ev n env) = l
  | [], l, h => by simpa [evl] using h
  | x :: xs, l, h => by
    simp only [evl] at h
    cases hx : evo n env x with
    | none => rw [hx] at h; cases h
    | some v =>
      rw [hx] at h
      cases hr : evl n env xs with
      | none => rw [hr] at h; cases h
      | some r => rw [hr] at h; simp only [Option.some.injEq] at h; subst h; simp [ev_of hx, evl_of hr]
theorem evs_of {n : Nat} {env : Env} {xs : Array Operand} {l : List Value} (h : evs n env xs = some l) : xs.map (ev n env) = ⟨l⟩ := by
  have := evl_of h
  rcases xs with ⟨xs⟩
  simpa using this

def upd (dst : Option Tmp) (v : Value) (env : Env) : Env :=
  match dst with
  | some d => (d, v) :: env
  | none => env

theorem A_size (n : Nat) (env : Env) (D : List Deferred) : (A n env D).tmps.size = n := by simp [A]
theorem A_get? (n : Nat) (env : Env) (D : List Deferred) (t : Nat) : (A n env D).tmps[t]? = if t < n then some (get env t) else none := by
  simp only [A, Array.getElem?_ofFn]
  split <;> rfl
theorem A_eval (n : Nat) (env : Env) (D : List Deferred) : (A n env D).eval = ev n env := by
  funext x
  cases x with
  | tmp t =>
    simp only [Act.eval, ev, Array.getD_eq_getD_getElem?, A_get?]
    by_cases h : t < n
    · rw [if_pos h, show Nat.blt t n = true from by simpa [Nat.blt_eq] using h]; rfl
    · rw [if_neg h, show Nat.blt t n = false from by simpa [Nat.blt_eq, ← Bool.not_eq_true] using h]; rfl
  | _ => rfl
theorem get_cons (k t : Nat) (v : Value) (r : Env) : get ((k, v) :: r) t = if k = t then v else get r t := by
  simp only [get]
  by_cases h : k = t
  · subst h; simp
  · rw [if_neg h, show Nat.beq k t = false from by simpa [← Bool.not_eq_true] using h]; rfl
theorem A_put (n : Nat) (env : Env) (D : List Deferred) (dst : Option Tmp) (v : Value) : (A n env D).put dst v = A n (upd dst v env) D := by
  cases dst with
  | none => rfl
  | some d =>
    simp only [Act.put, upd, A, Act.mk.injEq, and_true]
    apply Array.ext_getElem?
    intro i
    rw [Array.getElem?_setIfInBounds]
    simp only [Array.getElem?_ofFn, Array.size_ofFn]
    by_cases h : d = i
    · subst h
      by_cases h2 : d < n <;> simp [h2, get_cons]
    · simp only [h, if_false]
      split
      · simp [get_cons, h]
      · rfl
theorem A_defers (n : Nat) (env : Env) (D : List Deferred) : (A n env D).defers = D := rfl

/-- What is known of the slots, said of whatever state: it can be written as 'A' with these on top. -/
def Holds (n : Nat) (env : Env) (D : List Deferred) (a : Act) : Prop := ∃ rest, a = A n (env ++ rest) D
theorem get_append (env rest : Env) (t : Nat) : get (env ++ rest) t = if (env.any fun x => x.1 == t) then get env t else get rest t := by
  induction env with
  | nil => simp
  | cons x env ih =>
    rcases x with ⟨k, v⟩
    simp only [List.cons_append, get_cons, List.any_cons]
    by_cases h : k = t
    · simp [h]
    · have hk : (k == t) = false := by simpa using h
      rw [if_neg h, if_neg h, ih, hk, Bool.false_or]
theorem holds_of (n : Nat) (env env' : Env) (D : List Deferred) (h : ∀ x ∈ env, get env' x.1 = x.2) (hd : ∀ x ∈ env, get env x.1 = x.2) : Holds n env D (A n env' D) := by
  refine ⟨env', ?_⟩
  simp only [A, Act.mk.injEq, and_true]
  congr 1
  funext i
  rw [get_append]
  split
  · rename_i ha
    obtain ⟨x, hx, hk⟩ := List.any_eq_true.1 ha
    have hk : x.1 = i.val := by simpa using hk
    rw [← hk, h x hx, hd x hx]
  · rfl

def wantedE (ops : Array Oper) (n : Nat) (env : Env) : Option (Nat × Bool) → Bool
  | none => true
  | some (j, want) => match (ops[j]?).bind (·.dst) with
    | some d => match evo n env (.tmp d) with
      | some (.bool b) => b == want
      | _ => false
    | none => false
theorem yielded_eq {ops : Array Oper} {n : Nat} {env : Env} {D : List Deferred} {j : Nat} {d : Tmp} {b : Bool} (hd : (ops[j]?).bind (·.dst) = some d) (hv : evo n env (.tmp d) = some (.bool b)) : yielded ops (A n env D).tmps j = some b := by
  simp only [yielded, hd, Option.bind_some, A_get?]
  simp only [evo] at hv
  by_cases hlt : d < n
  · rw [show Nat.blt d n = true from by simpa [Nat.blt_eq] using hlt] at hv
    simp only [cond_true] at hv
    rw [if_pos hlt, geto_get hv]
  · rw [show Nat.blt d n = false from by simpa [Nat.blt_eq, ← Bool.not_eq_true] using hlt] at hv
    cases hv
theorem wanted_eq (ops : Array Oper) (n : Nat) (env : Env) (D : List Deferred) (o : Oper) (h : wantedE ops n env o.guard = true) : Region.wanted o (yielded ops (A n env D).tmps) = true := by
  unfold Region.wanted
  cases hg : o.guard with
  | none => rfl
  | some x =>
    rcases x with ⟨j, want⟩
    rw [hg] at h
    simp only [wantedE] at h
    cases hd : (ops[j]?).bind (·.dst) with
    | none => rw [hd] at h; cases h
    | some d =>
      rw [hd] at h
      simp only at h
      cases hv : evo n env (.tmp d) with
      | none => rw [hv] at h; cases h
      | some v =>
        rw [hv] at h
        cases v <;> first
          | (simp only at h; simp only [yielded_eq hd hv]; simpa using h)
          | (cases h; done)
theorem unwanted_eq (ops : Array Oper) (n : Nat) (env : Env) (D : List Deferred) (o : Oper) (j : Nat) (want : Bool) (d : Tmp) (b : Bool) (hg : o.guard = some (j, want)) (hd : (ops[j]?).bind (·.dst) = some d)
    (hv : evo n env (.tmp d) = some (.bool b)) (hb : (b == want) = false) : Region.wanted o (yielded ops (A n env D).tmps) = false := by
  unfold Region.wanted
  rw [hg]
  simp only [yielded_eq hd hv]
  simpa using hb

/-! ### Facts on the program's tables -/
structure TF (P : Program) (t : TypeId) (d : TypeDesc) (size bytes : Nat) (zero : List Value) (agg : Bool) : Prop where
  und : P.underlying t = some d
  info : ∃ i, P.info? t = some i ∧ i.size = size ∧ i.bytes = bytes ∧ ∃ z, i.zero = some z ∧ z.cells = ⟨zero⟩ ∧ z = if agg then .agg ⟨zero⟩ else zero.headD undef
  isAgg : agg = (match d with | .struct _ | .array _ _ => true | _ => false)
structure FF (P : Program) (f : FuncId) : Prop where
  ff : ∃ fn, P.funcs[f]? = some fn ∧ (fn.name == "runtime.NumGoroutine") = false ∧ fn.body.isNone = false

section rules
variable {P : Program} {C : Class} {fn : FuncId} {rnd : Option Nat} {Q : Post} {s : St} {n : Nat} {env : Env} {D : List Deferred}
variable {ops : Array Oper} {i : Nat} {rest : List Nat} {dst : Option Tmp} {ty : TypeId} {pos : String} {aft : Array Edge} {g : Option (Nat × Bool)}

/-- The common shape: an operation whose transformer is known. -/
theorem o_step (hC : ∀ main T, C main T → Closed P main T) {o : Oper} (ho : ops[i]? = some o) (hw : wantedE ops n env o.guard = true) (hd : ∀ c, o.op ≠ .defer c)
    (h : tri P (execOp (ev n env) o) s (upon C P rnd o.dst (A n env D) (fun a' s' => OpsWp C fn rnd ops rest Q a' s') Q) (onHalt (A n env D) Q)) : OpsWp C fn rnd ops (i :: rest) Q (A n env D) s := by
  rw [← A_eval n env D] at h
  exact ops_op hC ho (wanted_eq _ _ _ _ _ hw) (.inr hd) h

theorem o_unwanted (hC : ∀ main T, C main T → Closed P main T) {o : Oper} (ho : ops[i]? = some o) {j : Nat} {want : Bool} {d : Tmp} {b : Bool} (hg : o.guard = some (j, want)) (hd : (ops[j]?).bind (·.dst) = some d)
    (hv : evo n env (.tmp d) = some (.bool b)) (hb : (b == want) = false) (h : OpsWp C fn rnd ops rest Q (A n (upd o.dst undef env) D) s) : OpsWp C fn rnd ops (i :: rest) Q (A n env D) s := by
  refine ops_unwanted hC ho (unwanted_eq _ _ _ _ _ _ _ _ _ hg hd hv hb) ?_
  rw [A_put]; exact h

theorem tri_pure {α : Type} {a : α} {Q : α → St → Prop} {E : Halt → St → Prop} (h : Q a s) : tri P (Sem.pure a) s Q E := h

/-- A value, at once. -/
theorem o_val (hC : ∀ main T, C main T → Closed P main T) {o : Oper} {v : Value} (ho : ops[i]? = some o) (hw : wantedE ops n env o.guard = true) (hd : ∀ c, o.op ≠ .defer c)
    (hv : execOp (ev n env) o = Sem.pure (.value v)) (h : OpsWp C fn rnd ops rest Q (A n (upd o.dst v env) D) s) : OpsWp C fn rnd ops (i :: rest) Q (A n env D) s := by
  refine o_step hC ho hw hd ?_
  rw [hv]
  show OpsWp _ _ _ _ _ _ _ _
  rw [A_put]; exact h

theorem o_move (hC : ∀ main T, C main T → Closed P main T) {x : Operand} {v : Value} (ho : ops[i]? = some ⟨dst, .move x, ty, pos, aft, g⟩) (hw : wantedE ops n env g = true) (hx : evo n env x = some (v))
    (h : OpsWp C fn rnd ops rest Q (A n (upd dst v env) D) s) : OpsWp C fn rnd ops (i :: rest) Q (A n env D) s :=
  o_val hC ho hw (by simp) (by simp only [execOp, ev_of hx]; rfl) h
theorem o_assign (hC : ∀ main T, C main T → Closed P main T) {x : Operand} {v : Value} (ho : ops[i]? = some ⟨dst, .assign x, ty, pos, aft, g⟩) (hw : wantedE ops n env g = true) (hx : evo n env x = some (v))
    (h : OpsWp C fn rnd ops rest Q (A n (upd dst v env) D) s) : OpsWp C fn rnd ops (i :: rest) Q (A n env D) s :=
  o_val hC ho hw (by simp) (by simp only [execOp, ev_of hx]; rfl) h
theorem o_makeFunc (hC : ∀ main T, C main T → Closed P main T) {f : Go.Fn} {x y : Array Operand} {x' y' : List Value} (ho : ops[i]? = some ⟨dst, .makeFunc f x y, ty, pos, aft, g⟩) (hw : wantedE ops n env g = true)
    (hx : evs n env x = some x') (hy : evs n env y = some y') (h : OpsWp C fn rnd ops rest Q (A n (upd dst (.func f ⟨x'⟩ ⟨y'⟩) env) D) s) : OpsWp C fn rnd ops (i :: rest) Q (A n env D) s :=
  o_val hC ho hw (by simp) (by simp only [execOp, evs_of hx, evs_of hy]; rfl) h
theorem o_pick (hC : ∀ main T, C main T → Closed P main T) {c x y : Operand} {b : Bool} {v w : Value} (ho : ops[i]? = some ⟨dst, .pick c x y, ty, pos, aft, g⟩) (hw : wantedE ops n env g = true)
    (hc : evo n env c = some (.bool b)) (hx : evo n env x = some (v)) (hy : evo n env y = some (w)) (h : OpsWp C fn rnd ops rest Q (A n (upd dst (if b then v else w) env) D) s) : OpsWp C fn rnd ops (i :: rest) Q (A n env D) s :=
  o_val hC ho hw (by simp) (by simp only [execOp, ev_of hc, ev_of hx, ev_of hy]; cases b <;> rfl) h

/-! integers -/
theorem o_int (hC : ∀ main T, C main T → Closed P main T) {op : BinOp} {x y : Operand} {T T' : TypeId} {k : IntKind} {a b : Int} {v : Value} (ho : ops[i]? = some ⟨dst, .binOp op T x y T', ty, pos, aft, g⟩) (hw : wantedE ops n env g = true)
    (hx : evo n env x = some (.int k a)) (hy : evo n env y = some (.int k b)) (hv : binOp op T (.int k a) (.int k b) = Sem.pure v) (h : OpsWp C fn rnd ops rest Q (A n (upd dst v env) D) s) : OpsWp C fn rnd ops (i :: rest) Q (A n env D) s := by
  refine o_val hC ho hw (by simp) ?_ h
  simp only [execOp, ev_of hx, ev_of hy]
  have he : eqGuard op T x y (.int k a) (.int k b) = Sem.pure () := by
    unfold eqGuard
    cases op <;> rfl
  rw [he]
  show Sem.bind (Sem.bind (Sem.pure ()) fun _ => binOp op T (.int k a) (.int k b)) _ = _
  simp only [Sem.bind, hv]
  rfl

theorem wrap64_id (x : Int) (h : -9223372036854775808 ≤ x ∧ x ≤ 9223372036854775807) : IntKind.i64.wrap x = x := IntWalk.i64_in x h
end rules
end Go.L
namespace Go.L
open Go Go.Conc

section sem
variable {P : Program} {α : Type} {s : St} {Q : α → St → Prop} {E : Halt → St → Prop} {t : TypeId} {d : TypeDesc} {sz by_ : Nat} {z : List Value} {ag : Bool}

theorem t_pure {β : Type} {a : β} {k : β → Sem α} : tri P (pure a >>= k) s Q E = tri P (k a) s Q E := rfl
theorem t_bind {β γ : Type} {x : Sem β} {f : β → Sem γ} {k : γ → Sem α} : tri P ((x >>= f) >>= k) s Q E = tri P (x >>= fun a => f a >>= k) s Q E := by
  have : ∀ (x : Sem β), ((x.bind f).bind k) = x.bind fun a => (f a).bind k := by
    intro x
    induction x with
    | pure a => rfl
    | halt h => rfl
    | load m a k ih => simp only [Sem.bind, ih]
    | store m a v k ih => simp only [Sem.bind, ih]
    | new o k ih => simp only [Sem.bind, ih]
    | shape r k ih => simp only [Sem.bind, ih]
    | freeze a n k ih => simp only [Sem.bind, ih]
    | frozen a k ih => simp only [Sem.bind, ih]
    | getObj r k ih => simp only [Sem.bind, ih]
    | setObj r o k ih => simp only [Sem.bind, ih]
    | choose q k ih => simp only [Sem.bind, ih]
    | sys c k ih => simp only [Sem.bind, ih]
    | program k ih => simp only [Sem.bind, ih]
    | mark m k ih => simp only [Sem.bind, ih]
  show tri P ((x.bind f).bind k) s Q E = tri P (x.bind fun a => (f a).bind k) s Q E
  rw [this]
theorem t_program {k : Program → Sem α} : tri P (program >>= k) s Q E = tri P (k P) s Q E := rfl
theorem t_und (h : TF P t d sz by_ z ag) {k : TypeDesc → Sem α} : tri P (underlying t >>= k) s Q E = tri P (k d) s Q E := by
  simp only [underlying, t_bind, t_program, h.und, t_pure]
theorem t_size (h : TF P t d sz by_ z ag) {k : Nat → Sem α} : tri P (sizeOf t >>= k) s Q E = tri P (k sz) s Q E := by
  obtain ⟨i, hi, h1, _⟩ := h.info
  simp only [sizeOf, typeInfo, t_bind, t_program, hi, t_pure, h1]
theorem t_bytes (h : TF P t d sz by_ z ag) {k : TypeInfo → Sem α} {R : Prop} (hk : ∀ i, P.info? t = some i → i.bytes = by_ → tri P (k i) s Q E = R) : tri P (typeInfo t >>= k) s Q E = R := by
  obtain ⟨i, hi, h1, h2, _⟩ := h.info
  simp only [typeInfo, t_bind, t_program, hi, t_pure]
  exact hk i hi h2
def zval (z : List Value) (ag : Bool) : Value := if ag then .agg ⟨z⟩ else z.headD undef
theorem t_zero (h : TF P t d sz by_ z ag) {k : Value → Sem α} : tri P (zeroValue t >>= k) s Q E = tri P (k (zval z ag)) s Q E := by
  obtain ⟨i, hi, h1, h2, x, hx, hc, he⟩ := h.info
  simp only [zeroValue, typeInfo, t_bind, t_program, hi, t_pure, hx, he, zval]
theorem zval_cells (h : TF P t d sz by_ z ag) : (zval z ag).cells = ⟨z⟩ := by
  obtain ⟨i, hi, h1, h2, x, hx, hc, he⟩ := h.info
  rw [← hc, he]; rfl
theorem t_isAgg (h : TF P t d sz by_ z ag) {k : Bool → Sem α} : tri P (isAgg t >>= k) s Q E = tri P (k ag) s Q E := by
  simp only [isAgg, t_bind, t_und h]
  rw [h.isAgg]
  cases d <;> rfl
theorem t_newObj {o : Obj} {k : Nat → Sem α} : tri P (newObj o >>= k) s Q E = ∀ b, ¬ s.knows b → tri P (k b) ⟨s.ro, (b, o) :: s.rw⟩ Q E := rfl
theorem t_newRow {e : TypeId} {cs : Array Value} {k : Addr → Sem α} : tri P (newRow e cs >>= k) s Q E = ∀ b, ¬ s.knows b → tri P (k ⟨b, 0, none⟩) ⟨s.ro, (b, .cells cs e) :: s.rw⟩ Q E := rfl
theorem t_newVar {e : TypeId} {v : Value} {k : Addr → Sem α} : tri P (newVar e v >>= k) s Q E = ∀ b, ¬ s.knows b → tri P (k ⟨b, 0, none⟩) ⟨s.ro, (b, .cells v.cells e) :: s.rw⟩ Q E := rfl

theorem add_none (b o k : Nat) : (⟨b, o, none⟩ : Addr).add k = ⟨b, o + k, none⟩ := by
  unfold Addr.add; split
  · rename_i h; subst h; rfl
  · rfl

/-- The value at a place of a list, a part of it, and a part put into it: by recursion on the list, so that 'rfl' hands over the values themselves. -/
def nth : List Value → Nat → Option Value
  | [], _ => none
  | v :: _, 0 => some v
  | _ :: l, o + 1 => nth l o
def takeO : List Value → Nat → Option (List Value)
  | _, 0 => some []
  | [], _ + 1 => none
  | v :: l, n + 1 => match takeO l n with
    | some r => some (v :: r)
    | none => none
def sub : List Value → Nat → Nat → Option (List Value)
  | l, 0, n => takeO l n
  | [], _ + 1, _ => none
  | _ :: l, o + 1, n => sub l o n
def putL : List Value → Nat → List Value → List Value
  | [], _, _ => []
  | x :: l, _, [] => x :: l
  | _ :: l, 0, v :: vs => v :: putL l 0 vs
  | x :: l, o + 1, v :: vs => x :: putL l o (v :: vs)
theorem nth_eq : ∀ (l : List Value) (o : Nat), nth l o = l[o]?
  | [], _ => rfl
  | _ :: _, 0 => rfl
  | _ :: l, o + 1 => by simp [nth, nth_eq l o]
theorem takeO_eq : ∀ (l : List Value) (n : Nat) (vs : List Value), takeO l n = some vs → vs.length = n ∧ ∀ (j : Nat) (v : Value), vs[j]? = some v → l[j]? = some v
  | l, 0, vs, h => by simp [takeO] at h; subst h; simp
  | [], n + 1, vs, h => by simp [takeO] at h
  | x :: l, n + 1, vs, h => by
    simp only [takeO] at h
    cases hr : takeO l n with
    | none => rw [hr] at h; cases h
    | some r =>
      rw [hr] at h; simp only [Option.some.injEq] at h; subst h
      obtain ⟨h1, h2⟩ := takeO_eq l n r hr
      refine ⟨by simp [h1], fun j v hj => ?_⟩
      cases j with
      | zero => simpa using hj
      | succ j => simp at hj ⊢; exact h2 j v hj
theorem sub_eq : ∀ (l : List Value) (o n : Nat) (vs : List Value), sub l o n = some vs → vs.length = n ∧ ∀ (j : Nat) (v : Value), vs[j]? = some v → l[o + j]? = some v
  | l, 0, n, vs, h => by
    have h : takeO l n = some vs := by cases l <;> exact h
    obtain ⟨h1, h2⟩ := takeO_eq l n vs h
    exact ⟨h1, fun j v hj => by rw [Nat.zero_add]; exact h2 j v hj⟩
  | [], o + 1, n, vs, h => by simp [sub] at h
  | x :: l, o + 1, n, vs, h => by
    obtain ⟨h1, h2⟩ := sub_eq l o n vs (by simpa [sub] using h)
    refine ⟨h1, fun j v hj => ?_⟩
    rw [show o + 1 + j = (o + j) + 1 from by omega]
    simpa using h2 j v hj
theorem putL_len : ∀ (l : List Value) (o : Nat) (vs : List Value), (putL l o vs).length = l.length
  | [], _, _ => rfl
  | _ :: _, _, [] => by simp [putL]
  | _ :: l, 0, v :: vs => by simp [putL, putL_len l 0 vs]
  | x :: l, o + 1, v :: vs => by simp [putL, putL_len l o (v :: vs)]
theorem putL_nil (l : List Value) (o : Nat) : putL l o [] = l := by cases l <;> cases o <;> rfl
theorem putL_cons : ∀ (l : List Value) (o : Nat) (v : Value) (vs : List Value), o < l.length → putL l o (v :: vs) = putL (l.set o v) (o + 1) vs
  | x :: l, 0, v, vs, _ => by
    cases vs with
    | nil => simp [putL, putL_nil]
    | cons w ws => simp [putL]
  | x :: l, o + 1, v, vs, h => by
    have := putL_cons l o v vs (by simpa using h)
    cases vs with
    | nil => simp only [putL, this, putL_nil, List.set_cons_succ]
    | cons w ws => simp only [putL, this, List.set_cons_succ]

/-- What stands at place 'o' of block 'b' is 'v'. -/
def Reads (s : St) (b o : Nat) (v : Value) : Prop := ∃ l t fz, s.has b (.cells ⟨l⟩ t fz) ∧ nth l o = some v
/-- The n cells from place 'o' of block 'b' on. -/
def ReadsN (s : St) (b o n : Nat) (vs : List Value) : Prop := ∃ l t fz, s.has b (.cells ⟨l⟩ t fz) ∧ sub l o n = some vs
theorem t_load {b o : Nat} {v : Value} (h : Reads s b o v) {k : Value → Sem α} (hk : tri P (k v) s Q E) : tri P (load ⟨b, o, none⟩ >>= k) s Q E := by
  obtain ⟨l, t, fz, h1, h2⟩ := h
  exact ⟨rfl, rfl, ⟨l⟩, t, fz, v, h1, by rw [nth_eq] at h2; simpa using h2, hk⟩
theorem t_loadCellsFrom {b o : Nat} {c : List Value} {t : TypeId} {fz : Nat × Nat} (hb : s.has b (.cells ⟨c⟩ t fz)) (l : List Value) : ∀ (i : Nat) (acc : Array Value) {k : Array Value → Sem α}, (∀ (j : Nat) (v : Value), l[j]? = some v → c[o + i + j]? = some v) → tri P (k (acc ++ l.toArray)) s Q E →
    tri P (loadCellsFrom ⟨b, o, none⟩ i l.length acc >>= k) s Q E := by
  induction l with
  | nil => intro i acc k _ hk; simpa [loadCellsFrom, t_pure] using hk
  | cons v l ih =>
    intro i acc k h2 hk
    simp only [List.length_cons, loadCellsFrom, t_bind, add_none]
    refine t_load ⟨c, t, fz, hb, by rw [nth_eq]; exact h2 0 v rfl⟩ ?_
    refine ih (i + 1) (acc.push v) (fun j x hx => ?_) (by simpa using hk)
    have := h2 (j + 1) x (by simpa using hx)
    rw [show o + (i + 1) + j = o + i + (j + 1) from by omega]; exact this
theorem t_loadCells {b o m : Nat} {l : List Value} (h : ReadsN s b o m l) {k : Array Value → Sem α} (hk : tri P (k ⟨l⟩) s Q E) : tri P (loadCells ⟨b, o, none⟩ m >>= k) s Q E := by
  obtain ⟨c, t, fz, h1, h2⟩ := h
  obtain ⟨h3, h4⟩ := sub_eq _ _ _ _ h2
  subst h3
  exact t_loadCellsFrom h1 l 0 #[] (by simpa using h4) (by simpa using hk)
theorem t_store {L R : List (Nat × Obj)} {b o : Nat} {v : Value} {c : List Value} {e : TypeId} (hs : s.rw = L ++ (b, .cells ⟨c⟩ e (0, 0)) :: R) (ho : o < c.length) (h1 : single v = true) {k : Unit → Sem α}
    (hk : tri P (k ()) ⟨s.ro, L ++ (b, .cells ⟨c.set o v⟩ e (0, 0)) :: R⟩ Q E) : tri P (store ⟨b, o, none⟩ v >>= k) s Q E :=
  ⟨rfl, rfl, h1, L, ⟨c⟩, e, (0, 0), R, hs, by simpa using ho, by simp, by
    rw [show (⟨c⟩ : Array Value).setIfInBounds o v = ⟨c.set o v⟩ from by simp]; exact hk⟩
theorem t_storeCells {L R : List (Nat × Obj)} {b o : Nat} {e : TypeId} (l : List Value) : ∀ (i : Nat) (c : List Value) (s : St) {k : Unit → Sem α}, s.rw = L ++ (b, .cells ⟨c⟩ e (0, 0)) :: R → o + i + l.length ≤ c.length → (∀ v ∈ l, single v = true) →
    tri P (k ()) ⟨s.ro, L ++ (b, .cells ⟨putL c (o + i) l⟩ e (0, 0)) :: R⟩ Q E → tri P (storeCells ⟨b, o, none⟩ l i >>= k) s Q E := by
  induction l with
  | nil => intro i c s k hs _ _ hk; rcases s with ⟨ro, rw_⟩; simp only at hs; subst hs; rw [putL_nil] at hk; simpa [storeCells, t_pure] using hk
  | cons v l ih =>
    intro i c s k hs ho h1 hk
    simp only [List.length_cons] at ho
    simp only [storeCells, t_bind, add_none]
    refine t_store hs (by omega) (h1 v (by simp)) ?_
    refine ih (i + 1) _ _ rfl (by simp; omega) (fun x hx => h1 x (by simp [hx])) ?_
    rw [putL_cons _ _ _ _ (by omega)] at hk
    simpa [Nat.add_assoc] using hk
end sem

section rules
variable {P : Program} {C : Class} {fn : FuncId} {rnd : Option Nat} {Q : Post} {s : St} {n : Nat} {env : Env} {D : List Deferred}
variable {ops : Array Oper} {i : Nat} {rest : List Nat} {dst : Option Tmp} {ty : TypeId} {pos : String} {aft : Array Edge} {g : Option (Nat × Bool)}
variable {T : TypeId} {d : TypeDesc} {sz by_ : Nat} {z : List Value} {ag : Bool}

theorem upon_value {a : Act} {K : Act → St → Prop} {v : Value} : upon C P rnd dst a K Q (.value v) s = K (a.put dst v) s := rfl

theorem o_alloc (hC : ∀ main T, C main T → Closed P main T) (ho : ops[i]? = some ⟨dst, .alloc T, ty, pos, aft, g⟩) (hw : wantedE ops n env g = true) (tf : TF P T d sz by_ z ag)
    (h : ∀ b, ¬ s.knows b → OpsWp C fn rnd ops rest Q (A n (upd dst (.pointer (some ⟨b, 0, none⟩)) env) D) ⟨s.ro, (b, .cells ⟨z⟩ T) :: s.rw⟩) : OpsWp C fn rnd ops (i :: rest) Q (A n env D) s := by
  refine o_step hC ho hw (by simp) ?_
  simp only [execOp, Instr.alloc, t_bind, t_zero tf, t_newVar, t_pure, zval_cells tf]
  intro b hb
  have := h b hb
  rw [← A_put] at this
  exact this

theorem o_box (hC : ∀ main T, C main T → Closed P main T) {x : Operand} {v : Value} {l : List Value} (ho : ops[i]? = some ⟨dst, .box T x, ty, pos, aft, g⟩) (hw : wantedE ops n env g = true) (hx : evo n env x = some (v)) (hl : v.cells = ⟨l⟩)
    (h : ∀ b, ¬ s.knows b → OpsWp C fn rnd ops rest Q (A n (upd dst (.pointer (some ⟨b, 0, none⟩)) env) D) ⟨s.ro, (b, .cells ⟨l⟩ T) :: s.rw⟩) : OpsWp C fn rnd ops (i :: rest) Q (A n env D) s := by
  refine o_step hC ho hw (by simp) ?_
  simp only [execOp, Instr.box, t_bind, t_newVar, t_pure, ev_of hx, hl]
  intro b hb
  have := h b hb
  rw [← A_put] at this
  exact this

theorem o_load1 (hC : ∀ main T, C main T → Closed P main T) {x : Operand} {b o : Nat} {v : Value} (ho : ops[i]? = some ⟨dst, .load T x, ty, pos, aft, g⟩) (hw : wantedE ops n env g = true) (tf : TF P T d sz by_ z false)
    (hx : evo n env x = some (.pointer (some ⟨b, o, none⟩))) (hr : Reads s b o v) (h : OpsWp C fn rnd ops rest Q (A n (upd dst v env) D) s) : OpsWp C fn rnd ops (i :: rest) Q (A n env D) s := by
  refine o_step hC ho hw (by simp) ?_
  simp only [execOp, Instr.loadAt, ev_of hx, Instr.sureAddr, loadVar, t_bind, t_pure, t_isAgg tf, Bool.false_eq_true, if_false]
  refine t_load hr ?_
  rw [← A_put] at h
  exact h

theorem o_loadN (hC : ∀ main T, C main T → Closed P main T) {x : Operand} {b o : Nat} {l : List Value} (ho : ops[i]? = some ⟨dst, .load T x, ty, pos, aft, g⟩) (hw : wantedE ops n env g = true) (tf : TF P T d sz by_ z true)
    (hx : evo n env x = some (.pointer (some ⟨b, o, none⟩))) (hr : ReadsN s b o sz l) (h : OpsWp C fn rnd ops rest Q (A n (upd dst (.agg ⟨l⟩) env) D) s) : OpsWp C fn rnd ops (i :: rest) Q (A n env D) s := by
  refine o_step hC ho hw (by simp) ?_
  simp only [execOp, Instr.loadAt, ev_of hx, Instr.sureAddr, loadVar, t_bind, t_pure, t_isAgg tf, if_true, t_size tf]
  refine t_loadCells hr ?_
  rw [← A_put] at h
  exact h

theorem o_store (hC : ∀ main T, C main T → Closed P main T) {x y : Operand} {b o : Nat} {v : Value} {l : List Value} {L R : List (Nat × Obj)} {c : List Value} {e : TypeId} (ho : ops[i]? = some ⟨dst, .store T x y, ty, pos, aft, g⟩) (hw : wantedE ops n env g = true) (tf : TF P T d sz by_ z ag)
    (hx : evo n env x = some (.pointer (some ⟨b, o, none⟩))) (hy : evo n env y = some (v)) (hl : v.cells = ⟨l⟩) (hn : l.length = sz) (h1 : ∀ v ∈ l, single v = true) (hs : s.rw = L ++ (b, .cells ⟨c⟩ e (0, 0)) :: R) (hb : o + l.length ≤ c.length)
    (h : OpsWp C fn rnd ops rest Q (A n (upd dst undef env) D) ⟨s.ro, L ++ (b, .cells ⟨putL c o l⟩ e (0, 0)) :: R⟩) : OpsWp C fn rnd ops (i :: rest) Q (A n env D) s := by
  refine o_step hC ho hw (by simp) ?_
  have hsz : v.cells.size = sz := by rw [hl]; simpa using hn
  simp only [execOp, Instr.storeAt, ev_of hx, ev_of hy, Instr.sureAddr, storeVar, t_bind, t_pure, t_size tf, hsz, ne_eq, not_true, if_false]
  rw [show v.cells.toList = l from by rw [hl]]
  refine t_storeCells l 0 c s hs (by simpa using hb) h1 ?_
  rw [← A_put] at h
  rw [Nat.add_zero]
  exact h

theorem o_fieldAddr (hC : ∀ main T, C main T → Closed P main T) {x : Operand} {fields : Array Field} {f : Field} {k b o : Nat} {d' : TypeDesc} {sz' by' : Nat} {z' : List Value} {ag' : Bool} (ho : ops[i]? = some ⟨dst, .fieldAddr T x k, ty, pos, aft, g⟩) (hw : wantedE ops n env g = true)
    (tf : TF P T (.struct fields) sz by_ z ag) (hf : fields[k]? = some f) (tf' : TF P f.type d' sz' by' z' ag') (h0 : sz' ≠ 0) (hx : evo n env x = some (.pointer (some ⟨b, o, none⟩)))
    (h : OpsWp C fn rnd ops rest Q (A n (upd dst (.pointer (some ⟨b, o + f.offset, none⟩)) env) D) s) : OpsWp C fn rnd ops (i :: rest) Q (A n env D) s := by
  refine o_step hC ho hw (by simp) ?_
  simp only [execOp, Instr.fieldAt, ev_of hx, Instr.sureAddr, fieldPlace, t_bind, t_pure, t_und tf, hf, t_size tf', h0, if_false, add_none]
  rw [← A_put] at h
  exact h

theorem o_indexSlice (hC : ∀ main T, C main T → Closed P main T) {x y : Operand} {E : TypeId} {k : IntKind} {ix : Int} {b o len cap : Nat} {d' : TypeDesc} {sz' by' : Nat} {z' : List Value} {ag' : Bool} (ho : ops[i]? = some ⟨dst, .indexAddr T x y, ty, pos, aft, g⟩) (hw : wantedE ops n env g = true)
    (tf : TF P T (.slice E) sz by_ z ag) (tf' : TF P E d' sz' by' z' ag') (hx : evo n env x = some (.slice (some ⟨b, o, none⟩) len cap)) (hy : evo n env y = some (.int k ix)) (hi : 0 ≤ ix ∧ ix < len)
    (h : OpsWp C fn rnd ops rest Q (A n (upd dst (.pointer (some ⟨b, o + ix.toNat * sz', none⟩)) env) D) s) : OpsWp C fn rnd ops (i :: rest) Q (A n env D) s := by
  refine o_step hC ho hw (by simp) ?_
  simp only [execOp, Instr.indexAt, ev_of hx, ev_of hy, asIntOf, t_bind, t_pure, t_und tf, hi, and_self, if_true, t_size tf', add_none]
  rw [← A_put] at h
  exact h

theorem o_indexArr (hC : ∀ main T, C main T → Closed P main T) {x y : Operand} {E : TypeId} {k : IntKind} {ix : Int} {b o len : Nat} {d' : TypeDesc} {sz' by' : Nat} {z' : List Value} {ag' : Bool} (ho : ops[i]? = some ⟨dst, .indexAddr T x y, ty, pos, aft, g⟩) (hw : wantedE ops n env g = true)
    (tf : TF P T (.array len E) sz by_ z ag) (tf' : TF P E d' sz' by' z' ag') (hx : evo n env x = some (.pointer (some ⟨b, o, none⟩))) (hy : evo n env y = some (.int k ix)) (hi : 0 ≤ ix ∧ ix < len)
    (h : OpsWp C fn rnd ops rest Q (A n (upd dst (.pointer (some ⟨b, o + ix.toNat * sz', none⟩)) env) D) s) : OpsWp C fn rnd ops (i :: rest) Q (A n env D) s := by
  refine o_step hC ho hw (by simp) ?_
  simp only [execOp, Instr.indexAt, ev_of hx, ev_of hy, asIntOf, Instr.sureAddr, t_bind, t_pure, t_und tf, hi, and_self, if_true, t_size tf', add_none]
  rw [← A_put] at h
  exact h

theorem o_extract (hC : ∀ main T, C main T → Closed P main T) {x : Operand} {k : Nat} {l : Array Value} {v : Value} (ho : ops[i]? = some ⟨dst, .extract x k, ty, pos, aft, g⟩) (hw : wantedE ops n env g = true)
    (hx : evo n env x = some (.tuple l)) (hv : l[k]? = some v) (h : OpsWp C fn rnd ops rest Q (A n (upd dst v env) D) s) : OpsWp C fn rnd ops (i :: rest) Q (A n env D) s :=
  o_val hC ho hw (by simp) (by simp only [execOp, Instr.extract, ev_of hx, hv]; rfl) h

theorem o_nilCheck (hC : ∀ main T, C main T → Closed P main T) {x : Operand} {a : Addr} (ho : ops[i]? = some ⟨dst, .nilCheck x, ty, pos, aft, g⟩) (hw : wantedE ops n env g = true)
    (hx : evo n env x = some (.pointer (some a))) (h : OpsWp C fn rnd ops rest Q (A n (upd dst (.pointer (some a)) env) D) s) : OpsWp C fn rnd ops (i :: rest) Q (A n env D) s :=
  o_val hC ho hw (by simp) (by simp only [execOp, ev_of hx]; rfl) h

theorem o_not (hC : ∀ main T, C main T → Closed P main T) {x : Operand} {b : Bool} (ho : ops[i]? = some ⟨dst, .unOp .not T x, ty, pos, aft, g⟩) (hw : wantedE ops n env g = true)
    (hx : evo n env x = some (.bool b)) (h : OpsWp C fn rnd ops rest Q (A n (upd dst (.bool !b) env) D) s) : OpsWp C fn rnd ops (i :: rest) Q (A n env D) s :=
  o_val hC ho hw (by simp) (by simp only [execOp, ev_of hx]; rfl) h

theorem o_len (hC : ∀ main T, C main T → Closed P main T) {x : Operand} {E : TypeId} {a : Option Addr} {len cap : Nat} (ho : ops[i]? = some ⟨dst, .call ⟨.builtin .len, #[x], #[T]⟩, ty, pos, aft, g⟩) (hw : wantedE ops n env g = true)
    (tf : TF P T (.slice E) sz by_ z ag) (hx : evo n env x = some (.slice a len cap)) (h : OpsWp C fn rnd ops rest Q (A n (upd dst (.int .i64 len) env) D) s) : OpsWp C fn rnd ops (i :: rest) Q (A n env D) s := by
  refine o_step hC ho hw (by simp) ?_
  simp only [execOp, resolve, invoke, builtin, Builtin.len_, List.map_toArray, List.map_cons, List.map_nil, ev_of hx, t_pure]
  simp only [List.getElem?_toArray, List.getElem?_cons_zero, t_und tf, t_pure, t_bind]
  rw [← A_put] at h
  exact h
theorem o_lenStr (hC : ∀ main T, C main T → Closed P main T) {x : Operand} {b : ByteArray} (ho : ops[i]? = some ⟨dst, .call ⟨.builtin .len, #[x], #[T]⟩, ty, pos, aft, g⟩) (hw : wantedE ops n env g = true)
    (tf : TF P T .string sz by_ z ag) (hx : evo n env x = some (.string b)) (h : OpsWp C fn rnd ops rest Q (A n (upd dst (.int .i64 b.size) env) D) s) : OpsWp C fn rnd ops (i :: rest) Q (A n env D) s := by
  refine o_step hC ho hw (by simp) ?_
  simp only [execOp, resolve, invoke, builtin, Builtin.len_, List.map_toArray, List.map_cons, List.map_nil, ev_of hx, t_pure]
  simp only [List.getElem?_toArray, List.getElem?_cons_zero, t_und tf, t_pure, t_bind]
  rw [← A_put] at h
  exact h

theorem t_callFunc {f : FuncId} {args : Array Value} {Q : Next → St → Prop} {E : Halt → St → Prop} (ff : FF P f) (h : Q (.enter f args) s) : tri P (callFunc f args) s Q E := by
  obtain ⟨fn, h1, h2, h3⟩ := ff.ff
  simp only [callFunc, t_program, h1, h2, h3, Bool.false_eq_true, if_false]
  exact h

/-- A call of a function that is named. -/
theorem o_call (hC : ∀ main T, C main T → Closed P main T) {f : FuncId} {xs : Array Operand} {at_ : Array TypeId} {vs : List Value} {R : Ending → St → Prop} (ho : ops[i]? = some ⟨dst, .call ⟨.value (.func f), xs, at_⟩, ty, pos, aft, g⟩) (hw : wantedE ops n env g = true)
    (ff : FF P f) (hx : evs n env xs = some vs) (hf : Fn C P f ⟨vs⟩ s R) (h : ∀ v s', R (.returned v) s' → OpsWp C fn rnd ops rest Q (A n (upd dst v env) D) s') (hp : ∀ ch s', R (.panicked ch) s' → Q (.panic ch) (A n env D) s') (hg : ∀ s', ¬ R .outgrown s') :
    OpsWp C fn rnd ops (i :: rest) Q (A n env D) s := by
  refine o_step hC ho hw (by simp) ?_
  simp only [execOp, resolve, ev, Deferred.ofValue, t_pure, evs_of hx]
  simp only [invoke, Array.append_empty, Array.empty_append]
  refine t_callFunc ff ?_
  refine Fn.mono hf fun e s' hr => ?_
  cases e with
  | returned v => have := h v s' hr; rw [← A_put] at this; exact this
  | panicked ch => exact hp ch s' hr
  | outgrown => exact (hg s' hr).elim

/-- A call of a function value. -/
theorem o_callV (hC : ∀ main T, C main T → Closed P main T) {x : Operand} {f : FuncId} {fi ca : Array Value} {xs : Array Operand} {at_ : Array TypeId} {vs ws : List Value} {R : Ending → St → Prop} (ho : ops[i]? = some ⟨dst, .call ⟨.value x, xs, at_⟩, ty, pos, aft, g⟩) (hw : wantedE ops n env g = true)
    (hv : evo n env x = some (.func (.func f) fi ca)) (ff : FF P f) (hx : evs n env xs = some vs) (hws : fi ++ ⟨vs⟩ ++ ca = ⟨ws⟩) (hf : Fn C P f ⟨ws⟩ s R) (h : ∀ v s', R (.returned v) s' → OpsWp C fn rnd ops rest Q (A n (upd dst v env) D) s') (hp : ∀ ch s', R (.panicked ch) s' → Q (.panic ch) (A n env D) s') (hg : ∀ s', ¬ R .outgrown s') :
    OpsWp C fn rnd ops (i :: rest) Q (A n env D) s := by
  refine o_step hC ho hw (by simp) ?_
  simp only [execOp, resolve, ev_of hv, Deferred.ofValue, t_pure, evs_of hx]
  simp only [invoke, hws]
  refine t_callFunc ff ?_
  refine Fn.mono hf fun e s' hr => ?_
  cases e with
  | returned v => have := h v s' hr; rw [← A_put] at this; exact this
  | panicked ch => exact hp ch s' hr
  | outgrown => exact (hg s' hr).elim

/-- The function returns v, and no more is to be known. -/
def FnV (C : Class) (P : Program) (f : FuncId) (args : List Value) (s : St) (v : Value) : Prop := Fn C P f ⟨args⟩ s (fun e s' => e = .returned v ∧ s' = s)
theorem o_callv (hC : ∀ main T, C main T → Closed P main T) {f : FuncId} {xs : Array Operand} {at_ : Array TypeId} {vs : List Value} {v : Value} (ho : ops[i]? = some ⟨dst, .call ⟨.value (.func f), xs, at_⟩, ty, pos, aft, g⟩) (hw : wantedE ops n env g = true)
    (ff : FF P f) (hx : evs n env xs = some vs) (hf : FnV C P f vs s v) (h : OpsWp C fn rnd ops rest Q (A n (upd dst v env) D) s) : OpsWp C fn rnd ops (i :: rest) Q (A n env D) s :=
  o_call hC ho hw ff hx hf (fun v' s' hr => by obtain ⟨h1, h2⟩ := hr; cases h1; subst h2; exact h) (fun ch s' hr => by cases hr.1) (fun s' hr => by cases hr.1)

theorem wp_split (hC : ∀ main T, C main T → Closed P main T) {c : Operand} {x y : Code} {t : Bool} (hc : evo n env c = some (.bool t)) (h1 : t = true → Wp C fn rnd x Q (A n env D) s) (h2 : t = false → Wp C fn rnd y Q (A n env D) s) :
    Wp C fn rnd (.cond c x y) Q (A n env D) s :=
  wp_cond_split hC (by rw [A_eval]; exact ev_of hc) h1 h2
theorem wp_then (hC : ∀ main T, C main T → Closed P main T) {c : Operand} {x y : Code} {t : Bool} (hc : evo n env c = some (.bool t)) (ht : t = true) (h1 : Wp C fn rnd x Q (A n env D) s) : Wp C fn rnd (.cond c x y) Q (A n env D) s :=
  wp_split hC hc (fun _ => h1) (fun h => by rw [ht] at h; cases h)
theorem wp_else (hC : ∀ main T, C main T → Closed P main T) {c : Operand} {x y : Code} {t : Bool} (hc : evo n env c = some (.bool t)) (ht : t = false) (h1 : Wp C fn rnd y Q (A n env D) s) : Wp C fn rnd (.cond c x y) Q (A n env D) s :=
  wp_split hC hc (fun h => by rw [ht] at h; cases h) (fun _ => h1)
theorem wantedE_some {j : Nat} {want : Bool} {d : Tmp} {b : Bool} (hd : (ops[j]?).bind (·.dst) = some d) (hv : evo n env (.tmp d) = some (.bool b)) (hb : b = want) : wantedE ops n env (some (j, want)) = true := by
  simp only [wantedE, hd, hv, hb, beq_self_eq_true]
theorem o_skip (hC : ∀ main T, C main T → Closed P main T) {op : Op} {j : Nat} {want : Bool} {d : Tmp} {b : Bool} (ho : ops[i]? = some ⟨dst, op, ty, pos, aft, some (j, want)⟩) (hd : (ops[j]?).bind (·.dst) = some d)
    (hv : evo n env (.tmp d) = some (.bool b)) (hb : b = !want) (h : OpsWp C fn rnd ops rest Q (A n (upd dst undef env) D) s) : OpsWp C fn rnd ops (i :: rest) Q (A n env D) s :=
  o_unwanted hC ho rfl hd hv (by subst hb; cases want <;> rfl) h

/-- The state in which a function begins. -/
def envL : Nat → List Value → Env
  | _, [] => []
  | i, v :: l => (i, v) :: envL (i + 1) l
theorem get_envL : ∀ (l : List Value) (i t : Nat), get (envL i l) t = if i ≤ t then l.getD (t - i) undef else undef
  | [], i, t => by simp [envL, get]
  | v :: l, i, t => by
    simp only [envL, get_cons, get_envL l (i + 1) t]
    by_cases h : i = t
    · subst h; simp
    · by_cases h2 : i ≤ t
      · rw [if_neg h, if_pos h2, if_pos (by omega)]
        obtain ⟨d, rfl⟩ : ∃ d, t = i + 1 + d := ⟨t - i - 1, by omega⟩
        rw [show i + 1 + d - i = d + 1 from by omega, show i + 1 + d - (i + 1) = d from by omega]
        simp
      · rw [if_neg h, if_neg h2, if_neg (by omega)]
theorem enter_A (args : List Value) (n : Nat) (h : args.length ≤ n) : (⟨(⟨args⟩ : Array Value) ++ Array.replicate (n - args.length) undef, []⟩ : Act) = A n (envL 0 args) [] := by
  simp only [A, Act.mk.injEq, and_true]
  apply Array.ext_getElem?
  intro i
  rw [Array.getElem?_append]
  simp only [Array.getElem?_ofFn, Array.getElem?_replicate, get_envL]
  by_cases h1 : i < args.length
  · have h2 : i < n := by omega
    simp [h1, h2]
  · by_cases h2 : i < n
    · simp [h1, h2]; omega
    · simp [h1, h2]; omega

theorem fn_start (hC : ∀ main T, C main T → Closed P main T) {f : FuncId} {fn : Func} {c : Code} {args : List Value} {R : Ending → St → Prop}
    (hf : P.funcs[f]? = some fn) (hb : fn.body = some c) (hn : fn.ntmps = n) (hl : Nat.ble args.length n = true) (h : Wp C f none c (bodyQ P fn R) (A n (envL 0 args) []) s) : Fn C P f ⟨args⟩ s R := by
  refine fn_of_wp hC hf hb ?_
  subst hn
  have := enter_A args fn.ntmps (Nat.le_of_ble_eq_true hl)
  rw [← this] at h
  exact h

theorem getD_of {t : Tmp} {v : Value} (hv : evo n env (.tmp t) = some v) : (A n env D).tmps[t]?.getD undef = v := by
  have := ev_of hv
  rw [← A_eval n env D] at this
  simpa [Act.eval, Array.getD_eq_getD_getElem?] using this
theorem bodyQ_of {fn : Func} {R : Ending → St → Prop} {e : Exit} {a : Act} (he : e = .ret ∨ e = .normal) (hd : a.defers = []) (h : tri P (results fn a.tmps) s (fun v s' => ∃ s0, s0.le s' ∧ R (.returned v) s0) (fun _ _ => False)) : bodyQ P fn R e a s := by
  rcases he with rfl | rfl <;> exact ⟨hd, h⟩
theorem ret_1 {fn : Func} {R : Ending → St → Prop} {e : Exit} {t : Tmp} {v : Value} {s0 : St} (he : e = .ret ∨ e = .normal) (hr : fn.results = #[.tmp t]) (hv : evo n env (.tmp t) = some v) (hl : s0.le s) (h : R (.returned v) s0) : bodyQ P fn R e (A n env []) s := by
  refine bodyQ_of he rfl ?_
  simp [results, hr]
  rw [getD_of hv]
  exact ⟨s0, hl, h⟩
end rules
end Go.L
namespace Go.L
open Go Go.Conc
theorem info_of {P : Program} {t : TypeId} {i : TypeInfo} {w : World} (h : (typeInfo t).run P w = .ok i w) : P.info? t = some i := by
  simp only [typeInfo] at h
  change (Sem.program fun p => Sem.bind (Sem.pure p) fun p => match p.info? t with | some i => Sem.pure i | none => stuck "no such type").run P w = _ at h
  simp only [Sem.run, Sem.bind] at h
  cases hi : P.info? t with
  | none => rw [hi] at h; simp [stuck, Sem.run] at h
  | some j => rw [hi] at h; simp [Sem.run] at h; rw [h]
theorem tf_of {P : Program} {t : TypeId} {i : TypeInfo} {d : TypeDesc} {sz by_ : Nat} {z : Value} {l : List Value} {ag : Bool} (h : ∀ w, (typeInfo t).run P w = .ok i w) (hu : P.underlying t = some d)
    (h1 : i.size = sz) (h2 : i.bytes = by_) (h3 : i.zero = some z) (h4 : z = if ag then .agg ⟨l⟩ else l.headD undef) (h5 : z.cells = ⟨l⟩) (h6 : ag = (match d with | .struct _ | .array _ _ => true | _ => false)) : TF P t d sz by_ l ag :=
  ⟨hu, ⟨i, info_of (h default), h1, h2, z, h3, h5, h4⟩, h6⟩
end Go.L
namespace Go.L
open Go Go.Conc

def CovL (env : Env) : Env → Prop
  | [] => True
  | (t, v) :: r => geto env t = some v ∧ CovL env r
theorem CovL.mem {env : Env} : ∀ {e : Env}, CovL env e → ∀ x ∈ e, get env x.1 = x.2
  | (t, v) :: r, h, x, hx => by
    rcases List.mem_cons.1 hx with rfl | hx
    · exact geto_get h.1
    · exact CovL.mem h.2 x hx
theorem holds_cov {n : Nat} {env e : Env} {D : List Deferred} (h : CovL env e) (hd : CovL e e) : ∃ rest, A n env D = A n (e ++ rest) D := by
  obtain ⟨rest, hr⟩ := holds_of n e env D (CovL.mem h) (CovL.mem hd)
  exact ⟨rest, hr⟩

def Ext (s s' : St) : Prop := ∀ b o, s.has b o → s'.has b o
theorem Ext.refl (s : St) : Ext s s := fun _ _ h => h
theorem Ext.trans {s₁ s₂ s₃ : St} (h : Ext s₁ s₂) (k : Ext s₂ s₃) : Ext s₁ s₃ := fun b o hb => k b o (h b o hb)
theorem Ext.push {s : St} (l : List (Nat × Obj)) : Ext s ⟨s.ro, l ++ s.rw⟩ := fun b o h => h.imp id (fun h => List.mem_append_right _ h)
theorem Ext.cons {s : St} (x : Nat × Obj) : Ext s ⟨s.ro, x :: s.rw⟩ := fun b o h => h.imp id (fun h => List.mem_cons_of_mem _ h)
theorem Ext.grow {s : St} {ro : Nat → Option Obj} (h : ∀ b o, s.ro b = some o → ro b = some o) (l : List (Nat × Obj)) : Ext s ⟨ro, l ++ s.rw⟩ :=
  fun b o hb => hb.imp (h b o) (fun h => List.mem_append_right _ h)
theorem Reads.ext {s s' : St} {b o : Nat} {v : Value} (h : Reads s b o v) (e : Ext s s') : Reads s' b o v := by
  obtain ⟨l, t, fz, h1, h2⟩ := h; exact ⟨l, t, fz, e _ _ h1, h2⟩
theorem ReadsN.ext {s s' : St} {b o n : Nat} {v : List Value} (h : ReadsN s b o n v) (e : Ext s s') : ReadsN s' b o n v := by
  obtain ⟨l, t, fz, h1, h2⟩ := h; exact ⟨l, t, fz, e _ _ h1, h2⟩

section rules
variable {P : Program} {C : Class} {fn : FuncId} {rnd : Option Nat} {Q : Post} {s : St} {n : Nat} {env : Env} {D : List Deferred}
variable {ops : Array Oper} {i : Nat} {rest : List Nat} {dst : Option Tmp} {ty : TypeId} {pos : String} {aft : Array Edge} {g : Option (Nat × Bool)}
variable {T : TypeId} {d : TypeDesc} {sz by_ : Nat} {z : List Value} {ag : Bool}

/-- What stands at a loop's head: an index, the slots that it says, the knowledge that it says. -/
def Head {ι : Type} (n : Nat) (D : List Deferred) (envf : ι → Env) (sf : ι → St) (Inv : ι → Prop) (a : Act) (s : St) : Prop :=
  ∃ j rest, Inv j ∧ a = A n (envf j ++ rest) D ∧ (sf j).le s
def LoopNext {ι : Type} (n : Nat) (D : List Deferred) (envf : ι → Env) (sf : ι → St) (Inv : ι → Prop) (μ : ι → Nat) (m : Nat) (a : Act) (s : St) : Prop :=
  ∃ j rest, Inv j ∧ μ j < m ∧ a = A n (envf j ++ rest) D ∧ (sf j).le s
theorem next_of {ι : Type} {envf : ι → Env} {sf : ι → St} {Inv : ι → Prop} {μ : ι → Nat} {m : Nat} (j : ι) (h : Inv j) (hm : μ j < m) (hc : CovL env (envf j)) (hd : CovL (envf j) (envf j)) (hs : (sf j).le s) :
    LoopNext n D envf sf Inv μ m (A n env D) s := by
  obtain ⟨r, hr⟩ := holds_cov (n := n) (D := D) hc hd
  exact ⟨j, r, h, hm, hr, hs⟩

theorem wp_loopE (hC : ∀ main T, C main T → Closed P main T) {ι : Type} (envf : ι → Env) (sf : ι → St) (Inv : ι → Prop) (μ : ι → Nat) {c : Code} (i0 : ι) (h0 : Inv i0) (hc : CovL env (envf i0)) (hd : CovL (envf i0) (envf i0)) (hs : (sf i0).le s)
    (round : ∀ i, Inv i → ∀ rest, Wp C fn rnd c (thenQ (LoopNext n D envf sf Inv μ (μ i)) Q) (A n (envf i ++ rest) D) (sf i)) : Wp C fn rnd (.loop c) Q (A n env D) s := by
  obtain ⟨r0, hr0⟩ := holds_cov (n := n) (D := D) hc hd
  rw [hr0]
  intro main T hT b k cs h1 h2 h3 h4
  have key : ∀ m i rest s, μ i = m → Inv i → (sf i).le s → T (G (fat b (A n (envf i ++ rest) D) (.code c :: .inLoop c :: k)) cs) s := by
    intro m
    induction m using Nat.strongRecOn with
    | _ m ih =>
      intro i rest s hm hI hle
      refine (hC main T hT).mono _ _ _ hle ?_
      refine round i hI rest main T hT b (.inLoop c :: k) cs h1 h2 h3 fun e a' s' q => ?_
      cases e with
      | normal =>
        obtain ⟨j, rest', hI', hlt, rfl, hle'⟩ := q
        exact (hC main T hT).go rfl rfl (g' := G (fat b _ (.code c :: .inLoop c :: k)) cs) (fun w => by simp [G, stepG, stepG.exec, fat]) (ih _ (hm ▸ hlt) j rest' s' rfl hI' hle')
      | exit id => exact (h4 _ _ _ q).push rfl (by simp)
      | ret => exact (h4 _ _ _ q).push (x := .inLoop c) rfl (by simp)
      | panic ch => exact (h4 _ _ _ q).push (x := .inLoop c) rfl (by simp)
      | goto l => exact (h4 _ _ _ q).elim
      | outgrown => exact (h4 _ _ _ q).elim
  exact (hC main T hT).go rfl rfl (g' := G (fat b (A n (envf i0 ++ r0) D) (.code c :: .inLoop c :: k)) cs) (fun w => by simp [G, stepG, stepG.exec, fat]) (key _ i0 r0 s rfl h0 hs)

/-- A cut: what is forgotten of the slots and of the knowledge. -/
theorem wp_forget (hC : ∀ main T, C main T → Closed P main T) {c : Code} {e : Env} {s0 : St} (hc : CovL env e) (hd : CovL e e) (hs : s0.le s) (h : ∀ rest, Wp C fn rnd c Q (A n (e ++ rest) D) s0) : Wp C fn rnd c Q (A n env D) s := by
  obtain ⟨r, hr⟩ := holds_cov (n := n) (D := D) hc hd
  rw [hr]
  exact (h r).more hC hs

theorem o_add (hC : ∀ main T, C main T → Closed P main T) {x y : Operand} {T T' : TypeId} {a b : Int} (ho : ops[i]? = some ⟨dst, .binOp .add T x y T', ty, pos, aft, g⟩) (hw : wantedE ops n env g = true)
    (hx : evo n env x = some (.int .i64 a)) (hy : evo n env y = some (.int .i64 b)) (hb : -9223372036854775808 ≤ a + b ∧ a + b ≤ 9223372036854775807) (h : OpsWp C fn rnd ops rest Q (A n (upd dst (.int .i64 (a + b)) env) D) s) : OpsWp C fn rnd ops (i :: rest) Q (A n env D) s :=
  o_int hC ho hw hx hy (v := .int .i64 (a + b)) (show Sem.pure (Value.int .i64 (IntKind.i64.wrap (a + b))) = _ by rw [wrap64_id _ hb]) h
theorem o_sub (hC : ∀ main T, C main T → Closed P main T) {x y : Operand} {T T' : TypeId} {a b : Int} (ho : ops[i]? = some ⟨dst, .binOp .sub T x y T', ty, pos, aft, g⟩) (hw : wantedE ops n env g = true)
    (hx : evo n env x = some (.int .i64 a)) (hy : evo n env y = some (.int .i64 b)) (hb : -9223372036854775808 ≤ a - b ∧ a - b ≤ 9223372036854775807) (h : OpsWp C fn rnd ops rest Q (A n (upd dst (.int .i64 (a - b)) env) D) s) : OpsWp C fn rnd ops (i :: rest) Q (A n env D) s :=
  o_int hC ho hw hx hy (v := .int .i64 (a - b)) (show Sem.pure (Value.int .i64 (IntKind.i64.wrap (a - b))) = _ by rw [wrap64_id _ hb]) h
theorem o_mul (hC : ∀ main T, C main T → Closed P main T) {x y : Operand} {T T' : TypeId} {a b : Int} (ho : ops[i]? = some ⟨dst, .binOp .mul T x y T', ty, pos, aft, g⟩) (hw : wantedE ops n env g = true)
    (hx : evo n env x = some (.int .i64 a)) (hy : evo n env y = some (.int .i64 b)) (hb : -9223372036854775808 ≤ a * b ∧ a * b ≤ 9223372036854775807) (h : OpsWp C fn rnd ops rest Q (A n (upd dst (.int .i64 (a * b)) env) D) s) : OpsWp C fn rnd ops (i :: rest) Q (A n env D) s :=
  o_int hC ho hw hx hy (v := .int .i64 (a * b)) (show Sem.pure (Value.int .i64 (IntKind.i64.wrap (a * b))) = _ by rw [wrap64_id _ hb]) h
theorem o_field (hC : ∀ main T, C main T → Closed P main T) {x : Operand} {fields : Array Field} {f : Field} {k b o o' : Nat} {d' : TypeDesc} {sz' by' : Nat} {z' : List Value} {ag' : Bool} (ho : ops[i]? = some ⟨dst, .fieldAddr T x k, ty, pos, aft, g⟩) (hw : wantedE ops n env g = true)
    (tf : TF P T (.struct fields) sz by_ z ag) (hf : fields[k]? = some f) (tf' : TF P f.type d' sz' by' z' ag') (h0 : Nat.beq sz' 0 = false) (hx : evo n env x = some (.pointer (some ⟨b, o, none⟩))) (hoff : o + f.offset = o')
    (h : OpsWp C fn rnd ops rest Q (A n (upd dst (.pointer (some ⟨b, o', none⟩)) env) D) s) : OpsWp C fn rnd ops (i :: rest) Q (A n env D) s := by
  subst hoff
  exact o_fieldAddr hC ho hw tf hf tf' (by intro hh; subst hh; cases h0) hx h
theorem o_ixArr (hC : ∀ main T, C main T → Closed P main T) {x y : Operand} {E : TypeId} {k : IntKind} {ix : Int} {b o len o' : Nat} {d' : TypeDesc} {sz' by' : Nat} {z' : List Value} {ag' : Bool} (ho : ops[i]? = some ⟨dst, .indexAddr T x y, ty, pos, aft, g⟩) (hw : wantedE ops n env g = true)
    (tf : TF P T (.array len E) sz by_ z ag) (tf' : TF P E d' sz' by' z' ag') (hx : evo n env x = some (.pointer (some ⟨b, o, none⟩))) (hy : evo n env y = some (.int k ix)) (hi : 0 ≤ ix ∧ ix < len) (hoff : o + ix.toNat * sz' = o')
    (h : OpsWp C fn rnd ops rest Q (A n (upd dst (.pointer (some ⟨b, o', none⟩)) env) D) s) : OpsWp C fn rnd ops (i :: rest) Q (A n env D) s := by
  subst hoff
  exact o_indexArr hC ho hw tf tf' hx hy hi h
theorem o_ixSlice (hC : ∀ main T, C main T → Closed P main T) {x y : Operand} {E : TypeId} {k : IntKind} {ix : Int} {b o len cap o' : Nat} {d' : TypeDesc} {sz' by' : Nat} {z' : List Value} {ag' : Bool} (ho : ops[i]? = some ⟨dst, .indexAddr T x y, ty, pos, aft, g⟩) (hw : wantedE ops n env g = true)
    (tf : TF P T (.slice E) sz by_ z ag) (tf' : TF P E d' sz' by' z' ag') (hx : evo n env x = some (.slice (some ⟨b, o, none⟩) len cap)) (hy : evo n env y = some (.int k ix)) (hi : 0 ≤ ix ∧ ix < len) (hoff : o + ix.toNat * sz' = o')
    (h : OpsWp C fn rnd ops rest Q (A n (upd dst (.pointer (some ⟨b, o', none⟩)) env) D) s) : OpsWp C fn rnd ops (i :: rest) Q (A n env D) s := by
  subst hoff
  exact o_indexSlice hC ho hw tf tf' hx hy hi h
end rules
end Go.L
namespace Go.L
open Go Go.Conc
section rules
variable {P : Program} {C : Class} {fn : FuncId} {rnd : Option Nat} {Q : Post} {s : St} {n : Nat} {env : Env} {D : List Deferred}
variable {ops : Array Oper} {i : Nat} {rest todo : List Nat} {dst : Option Tmp} {ty : TypeId} {pos : String} {aft : Array Edge} {g : Option (Nat × Bool)}
variable {T : TypeId} {d : TypeDesc} {sz by_ : Nat} {z : List Value} {ag : Bool}

theorem thenQ_ret {K : Act → St → Prop} {a : Act} (h : Q .ret a s) : thenQ K Q .ret a s := h
theorem thenQ_exit {K : Act → St → Prop} {a : Act} {id : Nat} (h : Q (.exit id) a s) : thenQ K Q (.exit id) a s := h
theorem thenQ_normal {K : Act → St → Prop} {a : Act} (h : K a s) : thenQ K Q .normal a s := h
theorem thenQ_panic {K : Act → St → Prop} {a : Act} {ch : List PanicEntry} (h : Q (.panic ch) a s) : thenQ K Q (.panic ch) a s := h
theorem blockQ_ret {id : Nat} {a : Act} (h : Q .ret a s) : blockQ id Q .ret a s := h
theorem blockQ_normal {id : Nat} {a : Act} (h : Q .normal a s) : blockQ id Q .normal a s := h
theorem blockQ_panic {id : Nat} {a : Act} {ch : List PanicEntry} (h : Q (.panic ch) a s) : blockQ id Q (.panic ch) a s := h
theorem blockQ_exit {id : Nat} {a : Act} (h : Q .normal a s) : blockQ id Q (.exit id) a s := by simp only [blockQ, if_true]; exact h
theorem blockQ_pass {id id' : Nat} {a : Act} (hne : Nat.beq id' id = false) (h : Q (.exit id') a s) : blockQ id Q (.exit id') a s := by
  have : ¬ id' = id := by intro e; subst e; simp at hne
  simp only [blockQ, this, if_false]; exact h

theorem o_pickT (hC : ∀ main T, C main T → Closed P main T) {c x y : Operand} {b : Bool} {v : Value} (ho : ops[i]? = some ⟨dst, .pick c x y, ty, pos, aft, g⟩) (hw : wantedE ops n env g = true)
    (hc : evo n env c = some (.bool b)) (hb : b = true) (hx : evo n env x = some v) (h : OpsWp C fn rnd ops rest Q (A n (upd dst v env) D) s) : OpsWp C fn rnd ops (i :: rest) Q (A n env D) s :=
  o_val hC ho hw (by simp) (by subst hb; simp only [execOp, ev_of hc, ev_of hx]; rfl) h
theorem o_pickF (hC : ∀ main T, C main T → Closed P main T) {c x y : Operand} {b : Bool} {v : Value} (ho : ops[i]? = some ⟨dst, .pick c x y, ty, pos, aft, g⟩) (hw : wantedE ops n env g = true)
    (hc : evo n env c = some (.bool b)) (hb : b = false) (hx : evo n env y = some v) (h : OpsWp C fn rnd ops rest Q (A n (upd dst v env) D) s) : OpsWp C fn rnd ops (i :: rest) Q (A n env D) s :=
  o_val hC ho hw (by simp) (by subst hb; simp only [execOp, ev_of hc, ev_of hx]; rfl) h

theorem o_guard {d : Tmp} {b : Bool} (_hv : evo n env (.tmp d) = some (.bool b)) (h1 : b = true → OpsWp C fn rnd ops todo Q (A n env D) s) (h2 : b = false → OpsWp C fn rnd ops todo Q (A n env D) s) : OpsWp C fn rnd ops todo Q (A n env D) s := by
  cases b
  · exact h2 rfl
  · exact h1 rfl

theorem ret_0 {fn : Func} {R : Ending → St → Prop} {e : Exit} {s0 : St} (he : e = .ret ∨ e = .normal) (hr : fn.results = #[]) (hl : s0.le s) (h : R (.returned (.tuple #[])) s0) : bodyQ P fn R e (A n env []) s := by
  refine bodyQ_of he rfl ?_
  simp [results, hr]
  exact ⟨s0, hl, h⟩
theorem ret_2 {fn : Func} {R : Ending → St → Prop} {e : Exit} {t u : Tmp} {v w : Value} {s0 : St} (he : e = .ret ∨ e = .normal) (hr : fn.results = #[.tmp t, .tmp u]) (hv : evo n env (.tmp t) = some v) (hw : evo n env (.tmp u) = some w) (hl : s0.le s) (h : R (.returned (.tuple #[v, w])) s0) : bodyQ P fn R e (A n env []) s := by
  refine bodyQ_of he rfl ?_
  simp [results, hr]
  rw [getD_of hv, getD_of hw]
  exact ⟨s0, hl, h⟩
theorem ret_3 {fn : Func} {R : Ending → St → Prop} {e : Exit} {t u x : Tmp} {v w y : Value} {s0 : St} (he : e = .ret ∨ e = .normal) (hr : fn.results = #[.tmp t, .tmp u, .tmp x]) (hv : evo n env (.tmp t) = some v) (hw : evo n env (.tmp u) = some w) (hy : evo n env (.tmp x) = some y) (hl : s0.le s) (h : R (.returned (.tuple #[v, w, y])) s0) : bodyQ P fn R e (A n env []) s := by
  refine bodyQ_of he rfl ?_
  simp [results, hr]
  rw [getD_of hv, getD_of hw, getD_of hy]
  exact ⟨s0, hl, h⟩

theorem o_strop (hC : ∀ main T, C main T → Closed P main T) {op : BinOp} {x y : Operand} {T T' : TypeId} {a b : ByteArray} {v : Value} (ho : ops[i]? = some ⟨dst, .binOp op T x y T', ty, pos, aft, g⟩) (hw : wantedE ops n env g = true)
    (hx : evo n env x = some (.string a)) (hy : evo n env y = some (.string b)) (hv : Op.stringOp op a b = Sem.pure v) (hop : (match op with | .shl | .shr => false | _ => true) = true) (h : OpsWp C fn rnd ops rest Q (A n (upd dst v env) D) s) : OpsWp C fn rnd ops (i :: rest) Q (A n env D) s := by
  refine o_val hC ho hw (by simp) ?_ h
  simp only [execOp, ev_of hx, ev_of hy]
  have he : eqGuard op T x y (.string a) (.string b) = Sem.pure () := by
    unfold eqGuard
    cases op <;> rfl
  have hb : binOp op T (.string a) (.string b) = Op.stringOp op a b := by cases op <;> first | rfl | cases hop
  rw [he, hb, hv]
  rfl

theorem o_lenMap (hC : ∀ main T, C main T → Closed P main T) {x : Operand} {K E : TypeId} {r : Nat} {es : Array MapEntry} {ck : Nat} (ho : ops[i]? = some ⟨dst, .call ⟨.builtin .len, #[x], #[T]⟩, ty, pos, aft, g⟩) (hw : wantedE ops n env g = true)
    (tf : TF P T (.map K E) sz by_ z ag) (hx : evo n env x = some (.map (some r))) (hm : s.has r (.map es ck)) (h : OpsWp C fn rnd ops rest Q (A n (upd dst (.int .i64 es.size) env) D) s) : OpsWp C fn rnd ops (i :: rest) Q (A n env D) s := by
  refine o_step hC ho hw (by simp) ?_
  simp only [execOp, resolve, invoke, builtin, Builtin.len_, List.map_toArray, List.map_cons, List.map_nil, ev_of hx, t_pure]
  simp only [List.getElem?_toArray, List.getElem?_cons_zero, t_und tf, t_pure, t_bind]
  refine ⟨_, hm, rfl, rfl, ?_⟩
  rw [← A_put] at h
  exact h
end rules
end Go.L
namespace Go.L
open Go Go.Conc

/-! ### A region that draws its order: its operations in the order of their edges, whatever the draw -/
def depsL : List Edge → List Nat
  | [] => []
  | e :: l => bif Region.binds .any e then e.on :: depsL l else depsL l
def depsOf (ops : Array Oper) (i : Nat) : List Nat :=
  match ops[i]? with
  | some o => depsL o.after.toList
  | none => []
theorem mem_depsL {e : Edge} : ∀ {l : List Edge}, e ∈ l → Region.binds .any e = true → e.on ∈ depsL l
  | x :: l, h, hb => by
    rcases List.mem_cons.1 h with rfl | h
    · simp [depsL, hb]
    · simp only [depsL]
      cases Region.binds .any x
      · exact mem_depsL h hb
      · exact List.mem_cons_of_mem _ (mem_depsL h hb)
theorem of_mem_depsL {j : Nat} : ∀ {l : List Edge}, j ∈ depsL l → ∃ e ∈ l, Region.binds .any e = true ∧ e.on = j
  | x :: l, h => by
    simp only [depsL] at h
    cases hb : Region.binds .any x
    · rw [hb] at h
      obtain ⟨e, he, h2⟩ := of_mem_depsL h
      exact ⟨e, List.mem_cons_of_mem _ he, h2⟩
    · rw [hb] at h
      rcases List.mem_cons.1 h with rfl | h
      · exact ⟨x, by simp, hb, rfl⟩
      · obtain ⟨e, he, h2⟩ := of_mem_depsL h
        exact ⟨e, List.mem_cons_of_mem _ he, h2⟩

/-- l lists what is not in X, each behind what it hangs on. -/
def Lin (ops : Array Oper) : List Nat → List Nat → Prop
  | X, [] => ∀ i, i < ops.size → i ∈ X
  | X, i :: l => i < ops.size ∧ i ∉ X ∧ (∀ j ∈ depsOf ops i, j ∈ X) ∧ Lin ops (i :: X) l

def depsOk (ops : Array Oper) : Bool := (List.range ops.size).all fun i => (depsOf ops i).all fun j => Nat.blt j i

theorem nodup_sub {α : Type} [BEq α] [LawfulBEq α] : ∀ {l₁ l₂ : List α}, l₁.Nodup → (∀ x ∈ l₁, x ∈ l₂) → l₁.length ≤ l₂.length
  | [], _, _, _ => by simp
  | x :: l, l₂, hn, hs => by
    rw [List.nodup_cons] at hn
    have hx := hs x (by simp)
    have h1 : (l₂.erase x).length = l₂.length - 1 := List.length_erase_of_mem hx
    have h2 := nodup_sub (l₁ := l) (l₂ := l₂.erase x) hn.2 (fun y hy => by
      have hne : y ≠ x := fun e => hn.1 (e ▸ hy)
      exact (List.mem_erase_of_ne hne).2 (hs y (by simp [hy])))
    have h3 := List.length_pos_of_mem hx
    simp only [List.length_cons]
    omega
theorem lin_go (ops : Array Oper) (hd : depsOk ops = true) : ∀ (fuel t : Nat) (listed : Array Bool) (acc : List Nat), listed.size = ops.size → acc.Nodup → (∀ i ∈ acc, i < ops.size) →
    (∀ i, i < ops.size → (listed.getD i true = true ↔ i ∈ acc)) → fuel + acc.length = ops.size → ∃ l, Region.linearise.go .any ops fuel t listed acc = acc.reverse ++ l ∧ Lin ops acc l := by
  intro fuel
  induction fuel with
  | zero =>
    intro t listed acc hs hn hlt hl hf
    refine ⟨[], by simp [Region.linearise.go], fun i hi => ?_⟩
    -- acc is a nodup list of numbers below size, of that length
    apply Classical.byContradiction
    intro hni
    have h1 : (i :: acc).Nodup := List.nodup_cons.2 ⟨hni, hn⟩
    have h2 : ∀ x ∈ i :: acc, x ∈ List.range ops.size := by
      intro x hx
      rcases List.mem_cons.1 hx with rfl | hx
      · exact List.mem_range.2 hi
      · exact List.mem_range.2 (hlt x hx)
    have h3 := nodup_sub h1 h2
    simp at h3
    omega
  | succ fuel ih =>
    intro t listed acc hs hn hlt hl hf
    simp only [Region.linearise.go]
    generalize hrs : (List.range ops.size).filter (fun i => !listed.getD i true && ((ops[i]?).map (·.after.all fun e => !Region.binds .any e || listed.getD e.on false)).getD false) = rs
    -- somebody is ready
    have hne : ∃ i, i < ops.size ∧ i ∉ acc := by
      apply Classical.byContradiction
      intro hno
      have h2 : ∀ x ∈ List.range ops.size, x ∈ acc := by
        intro x hx
        apply Classical.byContradiction
        intro hx2
        exact hno ⟨x, List.mem_range.1 hx, hx2⟩
      have h3 := nodup_sub List.nodup_range h2
      simp at h3
      omega
    have hmem : ∀ i, i ∈ rs ↔ (i < ops.size ∧ i ∉ acc ∧ ∀ j ∈ depsOf ops i, j ∈ acc) := by
      intro i
      rw [← hrs, List.mem_filter, List.mem_range]
      constructor
      · rintro ⟨h1, h2⟩
        rw [Bool.and_eq_true] at h2
        refine ⟨h1, fun hm => ?_, fun j hj => ?_⟩
        · have := (hl i h1).2 hm
          rw [this] at h2; simp at h2
        · obtain ⟨h3, h4⟩ := h2
          have ho : ops[i]? = some ops[i] := by simp [h1]
          simp only [depsOf, ho] at hj
          obtain ⟨e, he, hb, rfl⟩ := of_mem_depsL hj
          rw [ho] at h4
          simp only [Option.map_some, Option.getD_some, Array.all_eq_true'] at h4
          have h5 := h4 e (Array.mem_toList_iff.1 he)
          rw [hb] at h5
          simp only [Bool.not_true, Bool.false_or] at h5
          have hlt' : e.on < ops.size := by
            apply Classical.byContradiction
            intro hc
            have : listed.getD e.on false = false := by
              rw [Array.getD_eq_getD_getElem?, Array.getElem?_eq_none (by omega)]; rfl
            rw [this] at h5; cases h5
          have : listed.getD e.on true = true := by
            rw [Array.getD_eq_getD_getElem?] at h5 ⊢
            have : listed[e.on]? = some listed[e.on] := by simp [hs, hlt']
            rw [this] at h5 ⊢; exact h5
          exact (hl _ hlt').1 this
      · rintro ⟨h1, h2, h3⟩
        refine ⟨h1, ?_⟩
        have hf' : listed.getD i true = false := by
          cases hh : listed.getD i true with
          | false => rfl
          | true => exact absurd ((hl i h1).1 hh) h2
        rw [hf']
        have ho : ops[i]? = some ops[i] := by simp [h1]
        rw [ho]
        simp only [Bool.not_false, Bool.true_and, Option.map_some, Option.getD_some, Array.all_eq_true']
        intro e he
        cases hb : Region.binds .any e with
        | false => rfl
        | true =>
          have hj : e.on ∈ acc := h3 _ (by simp only [depsOf, ho]; exact mem_depsL (Array.mem_toList_iff.2 he) hb)
          have hlt' := hlt _ hj
          have h4 := (hl _ hlt').2 hj
          rw [Array.getD_eq_getD_getElem?] at h4 ⊢
          have : listed[e.on]? = some listed[e.on] := by simp [hs, hlt']
          rw [this] at h4 ⊢
          simpa using h4
    have hrn : rs ≠ [] := by
      obtain ⟨i, hi, hni⟩ := hne
      -- the least one
      have hleast : ∃ i, i < ops.size ∧ i ∉ acc ∧ ∀ j, j < i → j ∈ acc := by
        have : ∀ m i, i ≤ m → i < ops.size → i ∉ acc → ∃ i, i < ops.size ∧ i ∉ acc ∧ ∀ j, j < i → j ∈ acc := by
          intro m
          induction m with
          | zero => intro i h1 h2 h3; exact ⟨i, h2, h3, fun j hj => by omega⟩
          | succ m ihm =>
            intro i h1 h2 h3
            by_cases hex : ∃ j, j < i ∧ j ∉ acc
            · obtain ⟨j, hj, hnj⟩ := hex
              exact ihm j (by omega) (by omega) hnj
            · refine ⟨i, h2, h3, fun j hj => ?_⟩
              apply Classical.byContradiction
              intro hc
              exact hex ⟨j, hj, hc⟩
        exact this i i (Nat.le_refl _) hi hni
      obtain ⟨i, h1, h2, h3⟩ := hleast
      have : i ∈ rs := (hmem i).2 ⟨h1, h2, fun j hj => by
        have := (List.all_eq_true.1 hd) i (List.mem_range.2 h1)
        have := (List.all_eq_true.1 this) j hj
        exact h3 j (by simpa [Nat.blt_eq] using this)⟩
      intro he; rw [he] at this; cases this
    have hpos : 0 < rs.length := List.length_pos_iff.2 hrn
    have hlt2 := Nat.mod_lt t hpos
    have hget : rs[t % rs.length]? = some rs[t % rs.length] := by simp [hlt2]
    rw [hget]
    simp only
    generalize hi : rs[t % rs.length] = i
    have hir : i ∈ rs := by rw [← hi]; exact List.getElem_mem _
    obtain ⟨h1, h2, h3⟩ := (hmem i).1 hir
    obtain ⟨l, hl1, hl2⟩ := ih (t / rs.length) (listed.setIfInBounds i true) (i :: acc) (by simpa using hs) (List.nodup_cons.2 ⟨h2, hn⟩)
      (fun j hj => by rcases List.mem_cons.1 hj with rfl | hj; exact h1; exact hlt j hj)
      (fun j hj => by
        rw [Array.getD_eq_getD_getElem?, Array.getElem?_setIfInBounds]
        by_cases e : i = j
        · subst e; simp [hs, h1]
        · have := hl j hj
          rw [Array.getD_eq_getD_getElem?] at this
          simp only [e, if_false, this, List.mem_cons]
          constructor
          · exact .inr
          · rintro (h | h)
            · exact absurd h.symm e
            · exact h)
      (by simp; omega)
    exact ⟨i :: l, by rw [hl1]; simp, h1, h2, h3, hl2⟩

theorem lin_schedule {ops : Array Oper} (hd : depsOk ops = true) (t : Nat) : Lin ops [] (Region.schedule true ops t) := by
  have : Region.schedule true ops t = Region.linearise .any ops t := by simp [Region.schedule]
  rw [this]
  obtain ⟨l, h1, h2⟩ := lin_go ops hd ops.size t (Array.replicate ops.size false) [] (by simp) (by simp) (by simp) (fun i hi => by simp [Array.getD_eq_getD_getElem?, hi]) (by simp)
  unfold Region.linearise
  rw [h1]; simpa using h2

/-! ### The judgement over all orders -/
def dstOf (ops : Array Oper) (i : Nat) : Option Tmp := (ops[i]?).bind (·.dst)
/-- The slots that the processed operations have written. -/
def envAll (ops : Array Oper) (base : Env) : List (Nat × Value) → Env
  | [] => base
  | (i, v) :: r => upd (dstOf ops i) v (envAll ops base r)
def memB : Nat → List Nat → Bool
  | _, [] => false
  | i, x :: l => Nat.beq i x || memB i l
theorem memB_iff {i : Nat} : ∀ {l : List Nat}, memB i l = true ↔ i ∈ l
  | [] => by simp [memB]
  | x :: l => by
    simp only [memB, Bool.or_eq_true, List.mem_cons, memB_iff (l := l), Nat.beq_eq]
/-- .. of those of them that operation i hangs on; below, what was there, but for what the region writes. -/
def envDep (ops : Array Oper) (base : Env) (ds : List Nat) : List (Nat × Value) → Env
  | [] => base.filter fun x => !((List.range ops.size).any fun i => dstOf ops i == some x.1)
  | (i, v) :: r => bif memB i ds then upd (dstOf ops i) v (envDep ops base ds r) else envDep ops base ds r
def keysOf : List (Nat × Value) → List Nat
  | [] => []
  | (i, _) :: r => i :: keysOf r
theorem mem_keysOf {i : Nat} : ∀ {l : List (Nat × Value)}, i ∈ keysOf l ↔ ∃ v, (i, v) ∈ l
  | [] => by simp [keysOf]
  | (j, w) :: r => by
    simp only [keysOf, List.mem_cons, mem_keysOf (l := r), Prod.mk.injEq]
    constructor
    · rintro (rfl | ⟨v, hv⟩)
      · exact ⟨w, .inl ⟨rfl, rfl⟩⟩
      · exact ⟨v, .inr hv⟩
    · rintro ⟨v, ⟨rfl, _⟩ | hv⟩
      · exact .inl rfl
      · exact .inr ⟨v, hv⟩
def dstsApart (ops : Array Oper) : Bool :=
  (List.range ops.size).all fun i => (List.range ops.size).all fun j => Nat.beq i j || (match dstOf ops i, dstOf ops j with | some a, some b => !Nat.beq a b | _, _ => true)

section any
variable {P : Program} {C : Class} {fn : FuncId} {rnd : Option Nat} {Q : Post} {s : St} {n : Nat} {D : List Deferred} {ops : Array Oper} {base : Env}

/-- Operation i, met in whatever state that has what it hangs on, yields v and turns nothing; and so it does however the knowledge grows. -/
def StableAt (C : Class) (fn : FuncId) (rnd : Option Nat) (ops : Array Oper) (n : Nat) (D : List Deferred) (i : Nat) (v : Value) (e : Env) (s : St) : Prop :=
  ∀ s', Ext s s' → ∀ rest todo Q, OpsWp C fn rnd ops todo Q (A n (upd (dstOf ops i) v (e ++ rest)) D) s' → OpsWp C fn rnd ops (i :: todo) Q (A n (e ++ rest) D) s'

structure Fits (ops : Array Oper) (base : Env) (Pl : List (Nat × Value)) (X : List Nat) (env : Env) : Prop where
  done : ∀ i v, (i, v) ∈ Pl → i ∈ X → ∀ d, dstOf ops i = some d → get env d = v
  old : ∀ t, (∀ i, i < ops.size → dstOf ops i ≠ some t) → get env t = get base t

/-- Whatever of what has been processed has been carried out (X), whatever the order of the rest. -/
def AnyWp (C : Class) (fn : FuncId) (rnd : Option Nat) (ops : Array Oper) (n : Nat) (D : List Deferred) (base : Env) (Pl : List (Nat × Value)) (Sl : List (Nat × Value)) (Q : Post) (s : St) : Prop :=
  (∀ i v, (i, v) ∈ Sl → StableAt C fn rnd ops n D i v (envDep ops base (depsOf ops i) Pl) s) → ∀ X l env, (∀ i ∈ X, i ∈ keysOf Pl) → (∀ i v, (i, v) ∈ Pl → i ∉ X → (i, v) ∈ Sl) → Lin ops X l → Fits ops base Pl X env →
    OpsWp C fn rnd ops l Q (A n env D) s

def allIn (l k : List Nat) : Bool := l.all fun j => memB j k
theorem allIn_iff {l k : List Nat} : allIn l k = true ↔ ∀ j ∈ l, j ∈ k := by
  simp only [allIn, List.all_eq_true, memB_iff]
theorem apart_of (h : dstsApart ops = true) {i j : Nat} (hi : i < ops.size) (hj : j < ops.size) (hne : i ≠ j) {a b : Tmp} (ha : dstOf ops i = some a) (hb : dstOf ops j = some b) : a ≠ b := by
  have h1 := (List.all_eq_true.1 h) i (List.mem_range.2 hi)
  have h2 := (List.all_eq_true.1 h1) j (List.mem_range.2 hj)
  rw [ha, hb] at h2
  have : Nat.beq i j = false := by
    cases hb : Nat.beq i j with
    | false => rfl
    | true => exact absurd (Nat.eq_of_beq_eq_true hb) hne
  rw [this] at h2
  intro e; subst e
  simp at h2
theorem dst_lt {i : Nat} {d : Tmp} (h : dstOf ops i = some d) : i < ops.size := by
  apply Classical.byContradiction
  intro hc
  simp [dstOf, Array.getElem?_eq_none (show ops.size ≤ i by omega)] at h

theorem fits_dep {Pl : List (Nat × Value)} {X : List Nat} {env : Env} (hf : Fits ops base Pl X env) (ds : List Nat) (hds : ∀ j ∈ ds, j ∈ X) : ∃ rest, A n env D = A n (envDep ops base ds Pl ++ rest) D := by
  have key : ∀ Pl', (∀ x ∈ Pl', x ∈ Pl) → ∀ t, ((envDep ops base ds Pl').any fun x => x.1 == t) = true → get (envDep ops base ds Pl') t = get env t := by
    intro Pl'
    induction Pl' with
    | nil =>
      intro _ t ht
      simp only [envDep] at ht ⊢
      obtain ⟨x, hx, hk⟩ := List.any_eq_true.1 ht
      have hk : x.1 = t := by simpa using hk
      rw [List.mem_filter] at hx
      have hno : ∀ i, i < ops.size → dstOf ops i ≠ some t := by
        intro i hi hd
        have h2 := hx.2
        rw [Bool.not_eq_true'] at h2
        have h3 := (List.any_eq_false.1 h2) i (List.mem_range.2 hi)
        rw [hd, hk] at h3
        simp at h3
      rw [hf.old t hno]
      -- the filter leaves what stands at t
      have hfl : ∀ (b : Env) (p : Nat × Value → Bool), (∀ v, p (t, v) = true) → get (b.filter p) t = get b t := by
        intro b p hp
        induction b with
        | nil => rfl
        | cons y b ih =>
          rcases y with ⟨k, v⟩
          by_cases e : k = t
          · subst e; simp [List.filter_cons, hp, get_cons]
          · simp only [List.filter_cons]
            split
            · simp only [get_cons, e, if_false, ih]
            · simp only [get_cons, e, if_false, ih]
      refine hfl base _ fun v => ?_
      simp only [Bool.not_eq_true', List.any_eq_false, List.mem_range]
      intro i hi
      have := hno i hi
      simpa using this
    | cons x Pl' ih =>
      intro hsub t ht
      rcases x with ⟨i, v⟩
      simp only [envDep] at ht ⊢
      cases hm : memB i ds with
      | false => rw [hm] at ht; simp only [cond_false] at ht ⊢; exact ih (fun x hx => hsub x (by simp [hx])) t ht
      | true =>
        rw [hm] at ht
        simp only [cond_true] at ht ⊢
        cases hd : dstOf ops i with
        | none => rw [hd] at ht; simp only [upd] at ht ⊢; exact ih (fun x hx => hsub x (by simp [hx])) t ht
        | some d =>
          rw [hd] at ht
          simp only [upd] at ht ⊢
          rw [get_cons]
          by_cases e : d = t
          · subst e
            rw [if_pos rfl]
            exact (hf.done i v (hsub _ (by simp)) (hds i (memB_iff.1 hm)) d hd).symm
          · rw [if_neg e]
            refine ih (fun x hx => hsub x (by simp [hx])) t ?_
            simpa [e] using ht
  refine ⟨env, ?_⟩
  simp only [A, Act.mk.injEq, and_true]
  congr 1
  funext i
  rw [get_append]
  split
  · rename_i ha
    exact (key Pl (fun _ h => h) _ ha).symm
  · rfl

theorem fits_step {Pl : List (Nat × Value)} {X : List Nat} {env : Env} (hap : dstsApart ops = true) (hf : Fits ops base Pl X env) {i : Nat} {v : Value} (hi : i < ops.size) (hx : i ∉ X) (hv : ∀ w, (i, w) ∈ Pl → w = v) :
    Fits ops base Pl (i :: X) (upd (dstOf ops i) v env) := by
  refine ⟨fun j w hj hjx d hd => ?_, fun t ht => ?_⟩
  · rcases List.mem_cons.1 hjx with rfl | hjx
    · rw [hd]; simp only [upd, get_cons, if_true]; exact (hv w hj).symm
    · cases hdi : dstOf ops i with
      | none => simp only [upd]; exact hf.done j w hj hjx d hd
      | some d' =>
        have hne : d' ≠ d := apart_of hap hi (dst_lt hd) (by intro e; subst e; exact hx hjx) hdi hd
        simp only [upd, get_cons, if_neg hne]
        exact hf.done j w hj hjx d hd
  · cases hdi : dstOf ops i with
    | none => simp only [upd]; exact hf.old t ht
    | some d' =>
      have hne : d' ≠ t := by intro e; subst e; exact ht i hi hdi
      simp only [upd, get_cons, if_neg hne]
      exact hf.old t ht
theorem fits_more {Pl : List (Nat × Value)} {X : List Nat} {env : Env} (hf : Fits ops base Pl X env) {i : Nat} {v : Value} (hx : i ∉ X) : Fits ops base ((i, v) :: Pl) X env :=
  ⟨fun j w hj hjx d hd => by
    rcases List.mem_cons.1 hj with hj | hj
    · cases hj; exact absurd hjx hx
    · exact hf.done j w hj hjx d hd, hf.old⟩
theorem upd_A {env env' : Env} (h : A n env D = A n env' D) (d : Option Tmp) (v : Value) : A n (upd d v env) D = A n (upd d v env') D := by
  rw [← A_put, ← A_put, h]
theorem envDep_more {ds : List Nat} {i : Nat} {v : Value} {Pl : List (Nat × Value)} (h : i ∉ ds) : envDep ops base ds ((i, v) :: Pl) = envDep ops base ds Pl := by
  simp only [envDep]
  cases hm : memB i ds with
  | false => rfl
  | true => exact absurd (memB_iff.1 hm) h
theorem StableAt.ext {i : Nat} {v : Value} {e : Env} {s' : St} (h : StableAt C fn rnd ops n D i v e s) (he : Ext s s') : StableAt C fn rnd ops n D i v e s' :=
  fun s'' h2 => h s'' (he.trans h2)

/-- What is checked of a list of processed operations, by running it. -/
def keysOk (ops : Array Oper) (ks : List Nat) : Bool := ks.all fun i => allIn (depsOf ops i) ks
def nodupB : List Nat → Bool
  | [] => true
  | i :: l => !memB i l && nodupB l

theorem any_stable {Pl Sl : List (Nat × Value)} (i : Nat) {v : Value} (hn : memB i (keysOf Pl) = false) (hk : allIn (depsOf ops i) (keysOf Pl) = true) (hk' : keysOk ops (keysOf Pl) = true) (hs : allIn (keysOf Sl) (keysOf Pl) = true)
    (hst : StableAt C fn rnd ops n D i v (envDep ops base (depsOf ops i) Pl) s) (h : AnyWp C fn rnd ops n D base ((i, v) :: Pl) ((i, v) :: Sl) Q s) : AnyWp C fn rnd ops n D base Pl Sl Q s := by
  have hni : i ∉ keysOf Pl := fun hm => by rw [memB_iff.2 hm] at hn; cases hn
  intro hSl X l env hX hl hlin hf
  have hix : i ∉ X := fun hm => hni (hX i hm)
  have hdn : ∀ j, j ∈ keysOf Pl → i ∉ depsOf ops j := by
    intro j hj hm
    have := (List.all_eq_true.1 hk') j hj
    exact hni (allIn_iff.1 this i hm)
  refine h (fun j w hj => ?_) X l env (fun j hj => List.mem_cons_of_mem _ (hX j hj)) (fun j w hj hjx => ?_) hlin (fits_more hf hix)
  · rcases List.mem_cons.1 hj with hj | hj
    · cases hj
      rw [envDep_more (fun hm => hni (allIn_iff.1 hk i hm))]; exact hst
    · rw [envDep_more (hdn j (allIn_iff.1 hs j (mem_keysOf.2 ⟨w, hj⟩)))]; exact hSl j w hj
  · rcases List.mem_cons.1 hj with hj | hj
    · cases hj; simp
    · exact List.mem_cons_of_mem _ (hl j w hj hjx)

/-- Nobody but i can come next, of those that have not been processed. -/
def onlyB (ops : Array Oper) (ks : List Nat) (i : Nat) : Bool :=
  (List.range ops.size).all fun j => memB j ks || Nat.beq j i || (depsOf ops j).any fun k => !memB k ks
def pending (ops : Array Oper) (i : Nat) (Sl : List (Nat × Value)) : List (Nat × Value) := Sl.filter fun x => !memB x.1 (depsOf ops i)

theorem any_loud {Pl Sl : List (Nat × Value)} (i : Nat) (hap : dstsApart ops = true) (hi : Nat.blt i ops.size = true) (hn : memB i (keysOf Pl) = false) (hnd : nodupB (keysOf Pl) = true) (hk' : keysOk ops (keysOf Pl) = true) (hs : allIn (keysOf Sl) (keysOf Pl) = true) (ho : onlyB ops (keysOf Pl) i = true)
    (h : ∀ rest todo, (∀ v s', (∀ j w, (j, w) ∈ pending ops i Sl → StableAt C fn rnd ops n D j w (envDep ops base (depsOf ops j) Pl) s → StableAt C fn rnd ops n D j w (envDep ops base (depsOf ops j) Pl) s') →
        AnyWp C fn rnd ops n D base ((i, v) :: Pl) (pending ops i Sl) Q s' → OpsWp C fn rnd ops todo Q (A n (upd (dstOf ops i) v (envDep ops base (depsOf ops i) Pl ++ rest)) D) s') →
      OpsWp C fn rnd ops (i :: todo) Q (A n (envDep ops base (depsOf ops i) Pl ++ rest) D) s) : AnyWp C fn rnd ops n D base Pl Sl Q s := by
  have hni : i ∉ keysOf Pl := fun hm => by rw [memB_iff.2 hm] at hn; cases hn
  have hi' : i < ops.size := by simpa [Nat.blt_eq] using hi
  have huniq : ∀ (l : List (Nat × Value)), nodupB (keysOf l) = true → ∀ j v w, (j, v) ∈ l → (j, w) ∈ l → w = v := by
    intro l
    induction l with
    | nil => intro _ j v w h; cases h
    | cons x l ih =>
      rcases x with ⟨k, u⟩
      intro hb j v w h1 h2
      simp only [keysOf, nodupB, Bool.and_eq_true, Bool.not_eq_true'] at hb
      have hk : k ∉ keysOf l := fun hm => by rw [memB_iff.2 hm] at hb; cases hb.1
      rcases List.mem_cons.1 h1 with h1 | h1 <;> rcases List.mem_cons.1 h2 with h2 | h2
      · cases h1; cases h2; rfl
      · cases h1; exact absurd (mem_keysOf.2 ⟨_, h2⟩) hk
      · cases h2; exact absurd (mem_keysOf.2 ⟨_, h1⟩) hk
      · exact ih hb.2 j v w h1 h2
  intro hSl X l
  induction l generalizing X with
  | nil =>
    intro env hX hl hlin hf
    exact absurd (hX i (hlin i hi')) hni
  | cons j l ih =>
    intro env hX hl hlin hf
    obtain ⟨h1, h2, h3, h4⟩ := hlin
    by_cases hj : j ∈ keysOf Pl
    · -- one that has been processed
      obtain ⟨w, hw⟩ := mem_keysOf.1 hj
      obtain ⟨rest, hr⟩ := fits_dep (n := n) (D := D) hf (depsOf ops j) h3
      rw [hr]
      refine hSl j w (hl j w hw h2) s (Ext.refl s) rest l Q ?_
      rw [← upd_A hr]
      refine ih (j :: X) _ (fun k hk => ?_) (fun k u hk hkx => hl k u hk (fun h => hkx (List.mem_cons_of_mem _ h))) h4 (fits_step hap hf h1 h2 (fun u hu => huniq Pl hnd j w u hw hu))
      rcases List.mem_cons.1 hk with rfl | hk
      · exact hj
      · exact hX k hk
    · by_cases hji : j = i
      · subst hji
        obtain ⟨rest, hr⟩ := fits_dep (n := n) (D := D) hf (depsOf ops j) h3
        rw [hr]
        refine h rest l fun v s' hp ha => ?_
        rw [← upd_A hr]
        have hdn : ∀ k, k ∈ keysOf Pl → j ∉ depsOf ops k := by
          intro k hk hm
          have := (List.all_eq_true.1 hk') k hk
          exact hni (allIn_iff.1 this j hm)
        have hps : ∀ k u, (k, u) ∈ pending ops j Sl → (k, u) ∈ Sl := fun k u hk => (List.mem_filter.1 hk).1
        refine ha (fun k u hk => ?_) (j :: X) l _ (fun k hk => ?_) (fun k u hk hkx => ?_) h4 ?_
        · rw [envDep_more (hdn k (allIn_iff.1 hs k (mem_keysOf.2 ⟨u, hps k u hk⟩)))]
          exact hp k u hk (hSl k u (hps k u hk))
        · rcases List.mem_cons.1 hk with rfl | hk
          · simp [keysOf]
          · exact List.mem_cons_of_mem _ (hX k hk)
        · rcases List.mem_cons.1 hk with hk | hk
          · cases hk; exact absurd (by simp) hkx
          · have hkx' : k ∉ X := fun h => hkx (List.mem_cons_of_mem _ h)
            refine List.mem_filter.2 ⟨hl k u hk hkx', ?_⟩
            cases hm : memB k (depsOf ops j) with
            | false => rfl
            | true => exact absurd (h3 k (memB_iff.1 hm)) hkx'
        · refine fits_step hap (fits_more hf h2) h1 h2 fun u hu => ?_
          rcases List.mem_cons.1 hu with hu | hu
          · cases hu; rfl
          · exact absurd (mem_keysOf.2 ⟨_, hu⟩) hni
      · exfalso
        have := (List.all_eq_true.1 ho) j (List.mem_range.2 h1)
        have e1 : memB j (keysOf Pl) = false := by
          cases hm : memB j (keysOf Pl) with
          | false => rfl
          | true => exact absurd (memB_iff.1 hm) hj
        have e2 : Nat.beq j i = false := by
          cases hm : Nat.beq j i with
          | false => rfl
          | true => exact absurd (Nat.eq_of_beq_eq_true hm) hji
        rw [e1, e2] at this
        simp only [Bool.false_or, List.any_eq_true, Bool.not_eq_true'] at this
        obtain ⟨k, hk, hkn⟩ := this
        have := hX k (h3 k hk)
        rw [memB_iff.2 this] at hkn; cases hkn

theorem any_done (hC : ∀ main T, C main T → Closed P main T) {Pl Sl : List (Nat × Value)} (hap : dstsApart ops = true) (hnd : nodupB (keysOf Pl) = true) (hall : allIn (List.range ops.size) (keysOf Pl) = true) (hlt : allIn (keysOf Pl) (List.range ops.size) = true) (h : Q .normal (A n (envAll ops base Pl) D) s) : AnyWp C fn rnd ops n D base Pl Sl Q s := by
  intro hSl X l
  have huniq : ∀ (l : List (Nat × Value)), nodupB (keysOf l) = true → ∀ j v w, (j, v) ∈ l → (j, w) ∈ l → w = v := by
    intro l
    induction l with
    | nil => intro _ j v w h; cases h
    | cons x l ih =>
      rcases x with ⟨k, u⟩
      intro hb j v w h1 h2
      simp only [keysOf, nodupB, Bool.and_eq_true, Bool.not_eq_true'] at hb
      have hk : k ∉ keysOf l := fun hm => by rw [memB_iff.2 hm] at hb; cases hb.1
      rcases List.mem_cons.1 h1 with h1 | h1 <;> rcases List.mem_cons.1 h2 with h2 | h2
      · cases h1; cases h2; rfl
      · cases h1; exact absurd (mem_keysOf.2 ⟨_, h2⟩) hk
      · cases h2; exact absurd (mem_keysOf.2 ⟨_, h1⟩) hk
      · exact ih hb.2 j v w h1 h2
  have hal : ∀ (l : List (Nat × Value)), (∀ j ∈ keysOf l, j < ops.size) → nodupB (keysOf l) = true → (∀ i v, (i, v) ∈ l → ∀ d, dstOf ops i = some d → get (envAll ops base l) d = v) ∧ (∀ t, (∀ i ∈ keysOf l, dstOf ops i ≠ some t) → get (envAll ops base l) t = get base t) := by
    intro l
    induction l with
    | nil => intro _ _; exact ⟨fun _ _ h => ((by cases h)), fun _ _ => rfl⟩
    | cons x l ih =>
      rcases x with ⟨k, u⟩
      intro hlt hb
      simp only [keysOf, nodupB, Bool.and_eq_true, Bool.not_eq_true'] at hb
      have hk : k ∉ keysOf l := fun hm => by rw [memB_iff.2 hm] at hb; cases hb.1
      obtain ⟨i1, i2⟩ := ih (fun j hj => hlt j (by simp [keysOf, hj])) hb.2
      have hk1 : k < ops.size := hlt k (by simp [keysOf])
      refine ⟨fun i v hi d hd => ?_, fun t ht => ?_⟩
      · simp only [envAll]
        rcases List.mem_cons.1 hi with hi | hi
        · cases hi; rw [hd]; simp only [upd, get_cons, if_true]
        · have hne : k ≠ i := fun e => hk (e ▸ mem_keysOf.2 ⟨_, hi⟩)
          cases hdk : dstOf ops k with
          | none => simp only [upd]; exact i1 i v hi d hd
          | some d' => simp only [upd, get_cons, if_neg (apart_of hap hk1 (dst_lt hd) hne hdk hd)]; exact i1 i v hi d hd
      · simp only [envAll]
        cases hdk : dstOf ops k with
        | none => simp only [upd]; exact i2 t fun i hi => ht i (by simp [keysOf, hi])
        | some d' =>
          have hne : d' ≠ t := fun e => ht k (by simp [keysOf]) (by rw [hdk, e])
          simp only [upd, get_cons, if_neg hne]; exact i2 t fun i hi => ht i (by simp [keysOf, hi])
  obtain ⟨a1, a2⟩ := hal Pl (fun j hj => List.mem_range.1 (allIn_iff.1 hlt j hj)) hnd
  induction l generalizing X with
  | nil =>
    intro env hX hl hlin hf
    refine ops_nil hC ?_
    have : A n env D = A n (envAll ops base Pl) D := by
      simp only [A, Act.mk.injEq, and_true]
      congr 1
      funext i
      by_cases he : ∃ j, j < ops.size ∧ dstOf ops j = some i.val
      · obtain ⟨j, hj, hd⟩ := he
        obtain ⟨v, hv⟩ := mem_keysOf.1 (allIn_iff.1 hall j (List.mem_range.2 hj))
        rw [hf.done j v hv (hlin j hj) _ hd, a1 j v hv _ hd]
      · rw [hf.old _ (fun j hj hd => he ⟨j, hj, hd⟩), a2 _ (fun j hj hd => he ⟨j, List.mem_range.1 (allIn_iff.1 hlt j hj), hd⟩)]
    rw [this]; exact h
  | cons j l ih =>
    intro env hX hl hlin hf
    obtain ⟨h1, h2, h3, h4⟩ := hlin
    obtain ⟨w, hw⟩ := mem_keysOf.1 (allIn_iff.1 hall j (List.mem_range.2 h1))
    obtain ⟨rest, hr⟩ := fits_dep (n := n) (D := D) hf (depsOf ops j) h3
    rw [hr]
    refine hSl j w (hl j w hw h2) s (Ext.refl s) rest l Q ?_
    rw [← upd_A hr]
    refine ih (j :: X) _ (fun k hk => ?_) (fun k u hk hkx => hl k u hk (fun h => hkx (List.mem_cons_of_mem _ h))) h4 (fits_step hap hf h1 h2 (fun u hu => huniq Pl hnd j w u hw hu))
    rcases List.mem_cons.1 hk with rfl | hk
    · exact mem_keysOf.2 ⟨w, hw⟩
    · exact hX k hk

def plGet : List (Nat × Value) → Nat → Option Value
  | [], _ => none
  | (i, v) :: r, j => bif Nat.beq i j then some v else plGet r j
theorem any_split {Pl Sl : List (Nat × Value)} {j : Nat} {b : Bool} (_hv : plGet Pl j = some (.bool b)) (h1 : b = true → AnyWp C fn rnd ops n D base Pl Sl Q s) (h2 : b = false → AnyWp C fn rnd ops n D base Pl Sl Q s) : AnyWp C fn rnd ops n D base Pl Sl Q s := by
  cases b
  · exact h2 rfl
  · exact h1 rfl
theorem any_start (hC : ∀ main T, C main T → Closed P main T) {id : Nat} {env : Env} (hm : P.follows .mixedOrders = true) (hd : depsOk ops = true) (h : AnyWp C fn rnd ops n D env [] [] Q s) : Wp C fn rnd (.region id ops true) Q (A n env D) s := by
  refine wp_region_draw (P := P) hC fun t => ?_
  rw [hm]
  exact h (fun _ _ h => ((by cases h))) [] _ env (fun _ h => ((by cases h))) (fun _ _ h => ((by cases h))) (lin_schedule hd t) ⟨fun _ _ h => ((by cases h)), fun _ _ => rfl⟩
end any
end Go.L
namespace Go.L
open Go Go.Conc

/-! ### Values that are put together of parts -/
def bleB (a b : Nat) : Bool := Nat.ble a b
def fillL (place : Nat → Option (Nat × Nat)) : List Value → List (Nat × List Value) → Option (List Value)
  | cs, [] => some cs
  | cs, (i, vs) :: r => match place i with
    | some (off, size) => bif Nat.beq vs.length size && Nat.ble (off + vs.length) cs.length then fillL place (putL cs off vs) r else none
    | none => none
theorem foldl_put (off : Nat) : ∀ (vs : List Value) (k : Nat) (cs : Array Value), off + k + vs.length ≤ cs.size →
    (vs.zipIdx k).foldl (fun (cs : Array Value) (x : Value × Nat) => cs.setIfInBounds (off + x.2) x.1) cs = ⟨putL cs.toList (off + k) vs⟩
  | [], k, cs, _ => by simp [putL_nil]
  | v :: vs, k, cs, h => by
    simp only [List.length_cons] at h
    simp only [List.zipIdx_cons, List.foldl_cons]
    rw [foldl_put off vs (k + 1) _ (by simp; omega), putL_cons _ _ _ _ (by simp; omega)]
    simp [Nat.add_assoc]
theorem fill_eq (place : Nat → Option (Nat × Nat)) : ∀ (parts : List (Nat × Value)) (cs l : List Value), fillL place cs (parts.map fun x => (x.1, x.2.cells.toList)) = some l → Instr.fill place ⟨cs⟩ parts = some ⟨l⟩
  | [], cs, l, h => by simp [fillL] at h; subst h; rfl
  | (i, v) :: r, cs, l, h => by
    simp only [List.map_cons, fillL] at h
    simp only [Instr.fill]
    cases hp : place i with
    | none => rw [hp] at h; cases h
    | some x =>
      rcases x with ⟨off, size⟩
      rw [hp] at h
      simp only at h ⊢
      cases hb : (Nat.beq v.cells.toList.length size && Nat.ble (off + v.cells.toList.length) cs.length) with
      | false => rw [hb] at h; cases h
      | true =>
        rw [hb] at h
        simp only [cond_true] at h
        rw [Bool.and_eq_true] at hb
        have h1 : v.cells.size = size := by simpa using Nat.eq_of_beq_eq_true hb.1
        have h2 : off + v.cells.size ≤ cs.length := by simpa using Nat.le_of_ble_eq_true hb.2
        rw [if_neg (by simp [h1]; omega)]
        rw [show v.cells.zipIdx.foldl (fun (cs : Array Value) (x : Value × Nat) => cs.setIfInBounds (off + x.2) x.1) (⟨cs⟩ : Array Value) = ⟨putL cs off v.cells.toList⟩ from by
          rw [← Array.foldl_toList, Array.toList_zipIdx]
          have := foldl_put off v.cells.toList 0 ⟨cs⟩ (by simpa using h2)
          simpa using this]
        exact fill_eq place r _ l h

/-- The parts' values, and their cells. -/
def evp (n : Nat) (env : Env) : List (Nat × Operand) → Option (List (Nat × Value))
  | [] => some []
  | (i, x) :: l => match evo n env x with
    | some v => match evp n env l with
      | some r => some ((i, v) :: r)
      | none => none
    | none => none
theorem evp_of {n : Nat} {env : Env} : ∀ {xs : List (Nat × Operand)} {l : List (Nat × Value)}, evp n env xs = some l → xs.map (fun x => (x.1, ev n env x.2)) = l
  | [], l, h => by simpa [evp] using h
  | (i, x) :: xs, l, h => by
    simp only [evp] at h
    cases hx : evo n env x with
    | none => rw [hx] at h; cases h
    | some v =>
      rw [hx] at h
      cases hr : evp n env xs with
      | none => rw [hr] at h; cases h
      | some r => rw [hr] at h; simp only [Option.some.injEq] at h; subst h; simp [ev_of hx, evp_of hr]
def cellsL : Value → List Value
  | .agg ⟨l⟩ => l
  | v => [v]
theorem cellsL_eq (v : Value) : cellsL v = v.cells.toList := by cases v <;> rfl
def partsL : List (Nat × Value) → List (Nat × List Value)
  | [] => []
  | (i, v) :: r => (i, cellsL v) :: partsL r
theorem partsL_eq : ∀ (l : List (Nat × Value)), partsL l = l.map fun x => (x.1, x.2.cells.toList)
  | [] => rfl
  | (i, v) :: r => by simp [partsL, cellsL_eq, partsL_eq r]
/-- Zeros, n times. -/
def zerosL (z : List Value) : Nat → List Value
  | 0 => []
  | n + 1 => z ++ zerosL z n
theorem zerosL_len (z : List Value) : ∀ n, (zerosL z n).length = n * z.length
  | 0 => by simp [zerosL]
  | n + 1 => by simp [zerosL, zerosL_len z n, Nat.add_mul, Nat.add_comm]
theorem zerosL_get (z : List Value) (hz : 0 < z.length) : ∀ n i, i < n * z.length → (zerosL z n)[i]? = z[i % z.length]?
  | 0, i, h => by simp at h
  | n + 1, i, h => by
    simp only [zerosL, List.getElem?_append]
    split
    · rename_i hl; rw [Nat.mod_eq_of_lt hl]
    · rename_i hl
      rw [zerosL_get z hz n (i - z.length) (by rw [Nat.add_mul, Nat.one_mul] at h; omega)]
      rw [show i % z.length = (i - z.length) % z.length from by rw [Nat.mod_eq_sub_mod (by omega)]]
theorem zeros_eq (z : List Value) (n : Nat) : ((Array.range (n * z.length)).map fun i => (⟨z⟩ : Array Value)[i % (⟨z⟩ : Array Value).size]!) = ⟨zerosL z n⟩ := by
  apply Array.ext_getElem?
  intro i
  simp only [Array.getElem?_map, Array.getElem?_range]
  by_cases h : i < n * z.length
  · have hz : 0 < z.length := by
      rcases Nat.eq_zero_or_pos z.length with h0 | h0
      · rw [h0] at h; simp at h
      · exact h0
    have hm : i % z.length < z.length := Nat.mod_lt _ hz
    simp only [h, if_true, Option.map_some]
    have := zerosL_get z hz n i h
    simp only [List.size_toArray, List.getElem?_toArray]
    rw [this]
    simp [hm, getElem!_pos]
  · simp only [h, if_false, Option.map_none]
    simp [zerosL_len, List.getElem?_eq_none (show (zerosL z n).length ≤ i by rw [zerosL_len]; omega)]

/-- The fields' places. -/
inductive Places (P : Program) : List Field → List (Nat × Nat) → Prop
  | nil : Places P [] []
  | cons {f : Field} {d : TypeDesc} {sz by_ : Nat} {z : List Value} {ag : Bool} {fs : List Field} {ps : List (Nat × Nat)} (h : TF P f.type d sz by_ z ag) (t : Places P fs ps) : Places P (f :: fs) ((f.offset, sz) :: ps)

theorem t_mapM_places {P : Program} {α : Type} {s : St} {Q : α → St → Prop} {E : Halt → St → Prop} : ∀ {fs : List Field} {ps : List (Nat × Nat)} (_ : Places P fs ps) {k : List (Nat × Nat) → Sem α},
    tri P (fs.mapM (fun f => do pure (f.offset, ← sizeOf f.type)) >>= k) s Q E = tri P (k ps) s Q E
  | _, _, .nil, k => by simp only [List.mapM_nil, t_pure]
  | _, _, .cons h t, k => by
    simp only [List.mapM_cons, t_bind, t_size h, t_pure]
    exact t_mapM_places t

/-- The operations of a region of a function's text, by its number. -/
def regionIn (k : Nat) : Code → Option (Array Oper)
  | .region id ops _ => bif Nat.beq id k then some ops else none
  | .seq a b => match regionIn k a with
    | some o => some o
    | none => regionIn k b
  | .cond _ a b => match regionIn k a with
    | some o => some o
    | none => regionIn k b
  | .rangeFunc _ _ a b => match regionIn k a with
    | some o => some o
    | none => regionIn k b
  | .block _ c => regionIn k c
  | .loop c => regionIn k c
  | .scope c => regionIn k c
  | _ => none
def opsAt (k : Nat) (f : Func) : Array Oper :=
  match f.body with
  | some c => match regionIn k c with
    | some o => o
    | none => #[]
  | none => #[]
section rules
variable {P : Program} {C : Class} {fn : FuncId} {rnd : Option Nat} {Q : Post} {s : St} {n : Nat} {env : Env} {D : List Deferred}
variable {ops : Array Oper} {i : Nat} {rest : List Nat} {dst : Option Tmp} {ty : TypeId} {pos : String} {aft : Array Edge} {g : Option (Nat × Bool)}
variable {T : TypeId} {d : TypeDesc} {sz by_ : Nat} {z : List Value} {ag : Bool}

theorem parts_map (ps : Array (Nat × Operand)) {l : List (Nat × Value)} (h : evp n env ps.toList = some l) : (ps.map fun x => (x.1, ev n env x.2)).toList = l := by
  rw [Array.toList_map]; exact evp_of h

theorem o_build (hC : ∀ main T, C main T → Closed P main T) {fields : Array Field} {ps : Array (Nat × Operand)} {pv : List (Nat × Value)} {pl : List (Nat × Nat)} {l : List Value} (ho : ops[i]? = some ⟨dst, .build T ps, ty, pos, aft, g⟩) (hw : wantedE ops n env g = true)
    (tf : TF P T (.struct fields) sz by_ z ag) (hpl : Places P fields.toList pl) (hp : evp n env ps.toList = some pv) (hf : fillL (fun i => pl[i]?) z (partsL pv) = some l) (h : OpsWp C fn rnd ops rest Q (A n (upd dst (.agg ⟨l⟩) env) D) s) : OpsWp C fn rnd ops (i :: rest) Q (A n env D) s := by
  refine o_step hC ho hw (by simp) ?_
  simp only [execOp, Instr.build, t_bind, t_zero tf, t_und tf, zval_cells tf]
  rw [Array.mapM_eq_mapM_toList]
  simp only [map_eq_pure_bind, t_bind, t_pure]
  rw [t_mapM_places hpl]
  rw [partsL_eq] at hf
  have h1 := fill_eq _ _ _ _ hf
  have h2 := parts_map ps hp
  have h3 : (fun x => (pl.toArray)[x]? : Nat → Option (Nat × Nat)) = fun i => pl[i]? := by funext i; simp
  simp only [h3, h2, h1, t_pure]
  rw [← A_put] at h
  exact h

theorem o_buildSlice (hC : ∀ main T, C main T → Closed P main T) {E : TypeId} {m : Nat} {ps : Array (Nat × Operand)} {pv : List (Nat × Value)} {l : List Value} {d' : TypeDesc} {sz' by' : Nat} {z' : List Value} {ag' : Bool} (ho : ops[i]? = some ⟨dst, .buildSlice T m ps, ty, pos, aft, g⟩) (hw : wantedE ops n env g = true)
    (tf : TF P T (.slice E) sz by_ z ag) (tf' : TF P E d' sz' by' z' ag') (hz : Nat.beq z'.length sz' = true) (hp : evp n env ps.toList = some pv) (hm : Nat.ble (m * sz') 16777216 = true) (hf : fillL (fun i => some (i * sz', sz')) (zerosL z' m) (partsL pv) = some l)
    (h : ∀ b, ¬ s.knows b → OpsWp C fn rnd ops rest Q (A n (upd dst (.slice (some ⟨b, 0, none⟩) m m) env) D) ⟨s.ro, (b, .cells ⟨l⟩ E) :: s.rw⟩) : OpsWp C fn rnd ops (i :: rest) Q (A n env D) s := by
  refine o_step hC ho hw (by simp) ?_
  have hle : ¬ m * sz' > 2 ^ 24 := by have := Nat.le_of_ble_eq_true hm; omega
  have hz' : z'.length = sz' := Nat.eq_of_beq_eq_true hz
  rw [partsL_eq] at hf
  have h1 := fill_eq _ _ _ _ hf
  have h2 := parts_map ps hp
  simp only [execOp, Instr.buildSlice, t_bind, t_und tf, t_size tf', hle, if_false]
  by_cases h0 : m * sz' = 0
  · rw [if_pos h0]
    have hzz : ((Array.range (m * sz')).map fun i => (#[] : Array Value)[i % (#[] : Array Value).size]!) = ⟨zerosL z' m⟩ := by
      rw [h0]
      have : zerosL z' m = [] := List.eq_nil_of_length_eq_zero (by rw [zerosL_len, hz', h0])
      rw [this]; simp
    simp only [t_bind, t_pure]
    rw [hzz, h2, h1]
    simp only [t_bind, t_newRow, t_pure]
    intro b hb
    have := h b hb
    rw [← A_put] at this
    exact this
  · rw [if_neg h0]
    have hzz : ((Array.range (m * sz')).map fun i => (⟨z'⟩ : Array Value)[i % (⟨z'⟩ : Array Value).size]!) = ⟨zerosL z' m⟩ := by rw [← hz']; exact zeros_eq z' m
    simp only [t_bind, t_zero tf', t_pure, zval_cells tf', hzz, h2, h1, t_newRow]
    intro b hb
    have := h b hb
    rw [← A_put] at this
    exact this
end rules
end Go.L
namespace Go.L
open Go Go.Conc

/-! ### Slices that are read -/
def Sl {α : Type} (s : St) (v : Value) (sz : Nat) (enc : α → List Value) (ps : List α) : Prop :=
  ∃ a b o cap, v = .slice a ps.length cap ∧ (∀ k, k < ps.length → a = some ⟨b, o, none⟩) ∧ ∀ i p, ps[i]? = some p → ReadsN s b (o + i * sz) sz (enc p)
theorem Sl.ext {α : Type} {s s' : St} {v : Value} {sz : Nat} {enc : α → List Value} {ps : List α} (h : Sl s v sz enc ps) (e : Ext s s') : Sl s' v sz enc ps := by
  obtain ⟨a, b, o, cap, h1, h2, h3⟩ := h
  exact ⟨a, b, o, cap, h1, h2, fun i p hp => (h3 i p hp).ext e⟩
theorem Sl.nil {α : Type} (s : St) (sz : Nat) (enc : α → List Value) (a : Option Addr) (cap : Nat) : Sl s (.slice a 0 cap) sz enc [] :=
  ⟨a, 0, 0, cap, rfl, fun k h => absurd h (Nat.not_lt_zero k), fun i p hp => by simp at hp⟩
theorem ReadsN.one {s : St} {b o : Nat} {v : Value} (h : ReadsN s b o 1 [v]) : Reads s b o v := by
  obtain ⟨l, t, fz, h1, h2⟩ := h
  exact ⟨l, t, fz, h1, by have := (sub_eq _ _ _ _ h2).2 0 v rfl; rw [nth_eq]; exact this⟩
theorem ReadsN.cell {s : St} {b o m : Nat} {vs : List Value} (h : ReadsN s b o m vs) (j : Nat) (v : Value) (hj : vs[j]? = some v) : Reads s b (o + j) v := by
  obtain ⟨l, t, fz, h1, h2⟩ := h
  exact ⟨l, t, fz, h1, by rw [nth_eq]; exact (sub_eq _ _ _ _ h2).2 j v hj⟩
theorem ReadsN.len {s : St} {b o m : Nat} {vs : List Value} (h : ReadsN s b o m vs) : vs.length = m := by
  obtain ⟨l, t, fz, h1, h2⟩ := h
  exact (sub_eq _ _ _ _ h2).1

section sem
variable {P : Program} {α : Type} {s : St} {Q : α → St → Prop} {E : Halt → St → Prop}
theorem t_loadFrom {b o : Nat} (l : List Value) : ∀ (i : Nat) (acc : Array Value) {k : Array Value → Sem α}, (∀ (j : Nat) (v : Value), l[j]? = some v → Reads s b (o + i + j) v) → tri P (k (acc ++ l.toArray)) s Q E →
    tri P (loadCellsFrom ⟨b, o, none⟩ i l.length acc >>= k) s Q E := by
  induction l with
  | nil => intro i acc k _ hk; simpa [loadCellsFrom, t_pure] using hk
  | cons v l ih =>
    intro i acc k h2 hk
    simp only [List.length_cons, loadCellsFrom, t_bind, add_none]
    refine t_load (h2 0 v rfl) ?_
    refine ih (i + 1) (acc.push v) (fun j x hx => ?_) (by simpa using hk)
    have := h2 (j + 1) x (by simpa using hx)
    rw [show o + (i + 1) + j = o + i + (j + 1) from by omega]; exact this
theorem t_loadMany {b o m : Nat} {l : List Value} (hm : l.length = m) (h : ∀ (j : Nat) (v : Value), l[j]? = some v → Reads s b (o + j) v) {k : Array Value → Sem α} (hk : tri P (k ⟨l⟩) s Q E) : tri P (loadCells ⟨b, o, none⟩ m >>= k) s Q E := by
  subst hm
  exact t_loadFrom l 0 #[] (by simpa using h) (by simpa using hk)
end sem

theorem flat_get {α : Type} {enc : α → List Value} {sz : Nat} : ∀ (ps : List α), (∀ p ∈ ps, (enc p).length = sz) → ∀ (j : Nat) (v : Value), ((ps.map enc).flatten)[j]? = some v → ∃ i p r, ps[i]? = some p ∧ j = i * sz + r ∧ (enc p)[r]? = some v
  | [], _, j, v, h => by simp at h
  | p :: ps, hl, j, v, h => by
    simp only [List.map_cons, List.flatten_cons, List.getElem?_append] at h
    have hp := hl p (by simp)
    split at h
    · exact ⟨0, p, j, rfl, by simp, h⟩
    · rename_i hj
      obtain ⟨i, q, r, h1, h2, h3⟩ := flat_get ps (fun x hx => hl x (by simp [hx])) _ v h
      refine ⟨i + 1, q, r, by simpa using h1, ?_, h3⟩
      rw [Nat.add_mul, Nat.one_mul]; omega
theorem flat_len {α : Type} {enc : α → List Value} {sz : Nat} : ∀ (ps : List α), (∀ p ∈ ps, (enc p).length = sz) → ((ps.map enc).flatten).length = ps.length * sz
  | [], _ => by simp
  | p :: ps, hl => by
    have := flat_len ps (fun x hx => hl x (by simp [hx]))
    simp only [List.map_cons, List.flatten_cons, List.length_append, this, hl p (by simp), List.length_cons, Nat.add_mul, Nat.one_mul]; omega
theorem Sl.flat {α : Type} {s : St} {b o sz : Nat} {enc : α → List Value} {ps : List α} (h : ∀ (i : Nat) (p : α), ps[i]? = some p → ReadsN s b (o + i * sz) sz (enc p)) :
    (∀ p ∈ ps, (enc p).length = sz) ∧ ∀ (j : Nat) (v : Value), ((ps.map enc).flatten)[j]? = some v → Reads s b (o + j) v := by
  have hl : ∀ p ∈ ps, (enc p).length = sz := by
    intro p hp
    obtain ⟨i, hi⟩ := List.mem_iff_getElem?.1 hp
    exact (h i p hi).len
  refine ⟨hl, fun j v hv => ?_⟩
  obtain ⟨i, p, r, h1, rfl, h3⟩ := flat_get ps hl j v hv
  have := (h i p h1).cell r v h3
  rw [show o + (i * sz + r) = o + i * sz + r from by omega]; exact this

/-! ### Slices that are owned and grow -/
def OwnS {α : Type} (v : Value) (sz : Nat) (T : TypeId) (enc : α → List Value) (ps : List α) (L : List (Nat × Obj)) : Prop :=
  (v = .slice none 0 0 ∧ ps = [] ∧ L = []) ∨
  ∃ b l cap, v = .slice (some ⟨b, 0, none⟩) ps.length cap ∧ L = [(b, .cells ⟨l⟩ T (0, 0))] ∧ l.length = cap * sz ∧ ps.length ≤ cap ∧ (∀ p ∈ ps, (enc p).length = sz) ∧ l.take (ps.length * sz) = (ps.map enc).flatten

theorem OwnS.nil {α : Type} (sz : Nat) (T : TypeId) (enc : α → List Value) : OwnS (.slice none 0 0) sz T enc [] [] := .inl ⟨rfl, rfl, rfl⟩

theorem sub_of_take {l : List Value} {o m : Nat} (h : o + m ≤ l.length) : sub l o m = some ((l.drop o).take m) := by
  have ht : ∀ (m : Nat) (l : List Value), m ≤ l.length → takeO l m = some (l.take m) := by
    intro m
    induction m with
    | zero => intro l _; cases l <;> simp [takeO]
    | succ m ih =>
      intro l hl
      cases l with
      | nil => simp at hl
      | cons x l => simp only [takeO, ih l (by simpa using hl), List.take_succ_cons]
  induction o generalizing l with
  | zero => have := ht m l (by omega); cases l <;> simpa [sub] using this
  | succ o ih =>
    cases l with
    | nil => simp at h
    | cons x l => simp only [sub, List.drop_succ_cons]; exact ih (by simp at h; omega)

theorem flat_drop {α : Type} {enc : α → List Value} {sz : Nat} : ∀ (ps : List α), (∀ p ∈ ps, (enc p).length = sz) → ∀ (i : Nat) (p : α), ps[i]? = some p → (((ps.map enc).flatten).drop (i * sz)).take sz = enc p
  | [], _, i, p, h => by simp at h
  | q :: ps, hl, 0, p, h => by
    simp at h; subst h
    have := hl q (by simp)
    simp [← this]
  | q :: ps, hl, i + 1, p, h => by
    have hq := hl q (by simp)
    simp only [List.map_cons, List.flatten_cons]
    rw [show (i + 1) * sz = (enc q).length + i * sz from by rw [hq, Nat.add_mul, Nat.one_mul]; omega, ← List.drop_drop, List.drop_left]
    exact flat_drop ps (fun x hx => hl x (by simp [hx])) i p (by simpa using h)

/-- It can be read, wherever its block is known. -/
theorem OwnS.sl {α : Type} {v : Value} {sz : Nat} {T : TypeId} {enc : α → List Value} {ps : List α} {L : List (Nat × Obj)} (h : OwnS v sz T enc ps L) {s : St} (hs : ∀ x ∈ L, s.has x.1 x.2) : Sl s v sz enc ps := by
  rcases h with ⟨rfl, rfl, rfl⟩ | ⟨b, l, cap, rfl, rfl, h1, h2, h3, h4⟩
  · exact Sl.nil s sz enc none 0
  · refine ⟨_, b, 0, cap, rfl, fun _ _ => rfl, fun i p hp => ⟨l, T, (0, 0), hs (b, .cells ⟨l⟩ T (0, 0)) (by simp), ?_⟩⟩
    have hi : i < ps.length := by
      rcases Nat.lt_or_ge i ps.length with h | h
      · exact h
      · rw [List.getElem?_eq_none h] at hp; cases hp
    have hb : i * sz + sz ≤ ps.length * sz := by
      have := Nat.mul_le_mul_right sz hi
      rw [Nat.succ_mul] at this; exact this
    have hb2 : ps.length * sz ≤ cap * sz := Nat.mul_le_mul_right _ h2
    rw [Nat.zero_add, sub_of_take (by omega)]
    have h5 := flat_drop ps h3 i p hp
    rw [← h4, List.drop_take, List.take_take] at h5
    rw [← h5, Nat.min_eq_left (by omega)]

def noGrowth (need by_ : Nat) : Prop := need ≤ 1048576 ∧ by_ ≤ 65536
theorem growBy_le (need : Nat) : ∀ (r c : Nat), c ≤ 2 * need + 768 → Builtin.growBy need r c ≤ 2 * need + 768
  | 0, c, h => h
  | r + 1, c, h => by
    simp only [Builtin.growBy]
    split
    · exact h
    · exact growBy_le need r _ (by omega)
theorem nextcap_le {need cap : Nat} (h : cap < need) : Builtin.nextslicecap need cap ≤ 2 * need + 768 := by
  simp only [Builtin.nextslicecap]
  split
  · omega
  · split
    · omega
    · exact growBy_le need 4 cap (by omega)

theorem putL_eq : ∀ (l : List Value) (o : Nat) (vs : List Value), o + vs.length ≤ l.length → putL l o vs = l.take o ++ vs ++ l.drop (o + vs.length)
  | [], o, vs, h => by
    simp only [List.length_nil] at h
    have h0 : o = 0 := by omega
    have h1 : vs = [] := List.eq_nil_of_length_eq_zero (by omega)
    subst h0; subst h1; rfl
  | x :: l, 0, [], _ => by simp [putL]
  | x :: l, o + 1, [], _ => by simp [putL]
  | x :: l, 0, v :: vs, h => by
    have := putL_eq l 0 vs (by simp only [List.length_cons] at h; omega)
    simp [putL, this]
  | x :: l, o + 1, v :: vs, h => by
    have := putL_eq l o (v :: vs) (by simp only [List.length_cons] at h ⊢; omega)
    simp only [putL, this, List.take_succ_cons, List.cons_append]
    rw [show o + 1 + (v :: vs).length = (o + (v :: vs).length) + 1 from by omega, List.drop_succ_cons]
theorem t_typeInfo {P : Program} {β : Type} {s : St} {Q : β → St → Prop} {E : Halt → St → Prop} {t : TypeId} {ti : TypeInfo} (h : P.info? t = some ti) {k : TypeInfo → Sem β} : tri P (typeInfo t >>= k) s Q E = tri P (k ti) s Q E := by
  simp only [typeInfo, t_bind, t_program, h, t_pure]
theorem t_choose {P : Program} {β : Type} {s : St} {Q : β → St → Prop} {E : Halt → St → Prop} {q : Question} {k : Nat → Sem β} (hq : q.forced = false) (h : ∀ n, tri P (k (q.cut n)) s Q E) : tri P (choose q >>= k) s Q E := by
  show (if q.forced = true then _ else _)
  rw [if_neg (by rw [hq]; simp)]
  exact h
theorem t_chooseE {P : Program} {β : Type} {s : St} {Q : β → St → Prop} {E : Halt → St → Prop} {q : Question} {k : Nat → Sem β} (hq : q.forced = false) : tri P (choose q >>= k) s Q E = ∀ n, tri P (k (q.cut n)) s Q E := by
  show (if q.forced = true then _ else _) = _
  rw [if_neg (by rw [hq]; simp)]
  rfl
theorem t_askRoom {P : Program} {β : Type} {s : St} {Q : β → St → Prop} {E : Halt → St → Prop} {m : Nat} {k : Unit → Sem β} (h : tri P (k ()) s Q E) : tri P (askRoom m >>= k) s Q E := by
  unfold askRoom
  split
  · exact ⟨rfl, h⟩
  · exact h

section rules
variable {P : Program} {C : Class} {fn : FuncId} {rnd : Option Nat} {Q : Post} {s : St} {n : Nat} {env : Env} {D : List Deferred}
variable {ops : Array Oper} {i : Nat} {rest : List Nat} {dst : Option Tmp} {ty : TypeId} {pos : String} {aft : Array Edge} {g : Option (Nat × Bool)}
variable {T : TypeId} {d : TypeDesc} {sz by_ : Nat} {z : List Value} {ag : Bool}

theorem o_ixSl (hC : ∀ main T, C main T → Closed P main T) {x y : Operand} {E : TypeId} {k : IntKind} {ix : Int} {a : Option Addr} {b o len cap : Nat} {d' : TypeDesc} {sz' by' : Nat} {z' : List Value} {ag' : Bool} (ho : ops[i]? = some ⟨dst, .indexAddr T x y, ty, pos, aft, g⟩) (hw : wantedE ops n env g = true)
    (tf : TF P T (.slice E) sz by_ z ag) (tf' : TF P E d' sz' by' z' ag') (hx : evo n env x = some (.slice a len cap)) (ha : a = some ⟨b, o, none⟩) (hy : evo n env y = some (.int k ix)) (hi : 0 ≤ ix ∧ ix < len)
    (h : OpsWp C fn rnd ops rest Q (A n (upd dst (.pointer (some ⟨b, o + ix.toNat * sz', none⟩)) env) D) s) : OpsWp C fn rnd ops (i :: rest) Q (A n env D) s := by
  subst ha
  exact o_indexSlice hC ho hw tf tf' hx hy hi h

theorem t_firstCells {α : Type} {β : Type} {Q : β → St → Prop} {E : Halt → St → Prop} {v : Value} {enc : α → List Value} {ps : List α} (h : Sl s v sz enc ps) {k : Array Value → Sem β} (hk : tri P (k ⟨(ps.map enc).flatten⟩) s Q E) : tri P (Builtin.firstCells sz ps.length v >>= k) s Q E := by
  obtain ⟨a, b, o, cap, rfl, ha, hr⟩ := h
  obtain ⟨hl, hf⟩ := Sl.flat hr
  cases ps with
  | nil =>
    cases a with
    | none => simpa [Builtin.firstCells, t_pure] using hk
    | some a =>
      simp only [Builtin.firstCells, List.length_nil, Nat.zero_mul, loadCells, loadCellsFrom, t_pure]
      simpa using hk
  | cons p ps =>
    have := ha 0 (by simp)
    subst this
    simp only [Builtin.firstCells]
    exact t_loadMany (by rw [flat_len _ hl]) hf hk

theorem o_append {α : Type} (hC : ∀ main T, C main T → Closed P main T) {x y : Operand} {E : TypeId} {v w : Value} {enc : α → List Value} {ps qs : List α} {L pre R : List (Nat × Obj)} {d' : TypeDesc} {E2 : TypeId} {sz' by' sz2 by2 : Nat} {z' z2 : List Value} {ag' ag2 : Bool} {U : TypeId}
    (ho : ops[i]? = some ⟨dst, .call ⟨.builtin .append, #[x, y], #[T, U]⟩, ty, pos, aft, g⟩) (hw : wantedE ops n env g = true) (tf : TF P T (.slice E) sz by_ z ag) (tfU : TF P U (.slice E2) sz2 by2 z2 ag2) (tf' : TF P E d' sz' by' z' ag') (hz : z'.length = sz')
    (hx : evo n env x = some v) (hy : evo n env y = some w) (hown : OwnS v sz' E enc ps L) (hsl : Sl s w sz' enc qs) (hs : s.rw = pre ++ (L ++ R)) (hq : ∀ p ∈ qs, ∀ c ∈ enc p, single c = true) (hb : noGrowth (ps.length + qs.length) by')
    (h : ∀ v' L', OwnS v' sz' E enc (ps ++ qs) L' → OpsWp C fn rnd ops rest Q (A n (upd dst v' env) D) ⟨s.ro, pre ++ (L' ++ R)⟩) : OpsWp C fn rnd ops (i :: rest) Q (A n env D) s := by
  refine o_step hC ho hw (by simp) ?_
  have hcl' : ∀ s s' : St, s.le s' → ∀ a, OpsWp C fn rnd ops rest Q a s → OpsWp C fn rnd ops rest Q a s' :=
    fun s s' hl a ho main T hT b k cs h1 h2 h3 h4 => (hC main T hT).mono _ _ _ hl (ho main T hT b k cs h1 h2 h3 h4)
  obtain ⟨hql, _⟩ := (show (∀ p ∈ qs, (enc p).length = sz') ∧ True from by
    obtain ⟨a, b, o, cap, rfl, ha, hr⟩ := hsl
    exact ⟨(Sl.flat hr).1, trivial⟩)
  have hnew : ((qs.map enc).flatten).length = qs.length * sz' := flat_len qs hql
  have hcond : ∀ sCap, sCap < ps.length + qs.length → ¬ (Builtin.nextslicecap (ps.length + qs.length) sCap * by' > 2 ^ 48) := by
    intro sCap hlt
    have h1 := nextcap_le hlt
    obtain ⟨h2, h3⟩ := hb
    have h4 : Builtin.nextslicecap (ps.length + qs.length) sCap ≤ 2097920 := by omega
    have h5 := Nat.mul_le_mul h4 h3
    have : (2097920 * 65536 : Nat) ≤ 2 ^ 48 := by decide
    omega
  have hlen : ∀ w', Sl s w' sz' enc qs → ∃ a cap, w' = .slice a qs.length cap := by
    rintro w' ⟨a, b, o, cap, rfl, _, _⟩; exact ⟨a, cap, rfl⟩
  obtain ⟨wa, wcap, hwe⟩ := hlen w hsl
  -- the run, up to the question whether there is room
  simp only [execOp, resolve, invoke, builtin, Builtin.append_, List.map_toArray, List.map_cons, List.map_nil, ev_of hx, ev_of hy, t_pure, t_bind, List.getElem?_toArray, List.getElem?_cons_zero, List.getElem?_cons_succ, t_und tf]
  have hv : ∃ a cap, v = .slice a ps.length cap := by
    rcases hown with ⟨rfl, rfl, _⟩ | ⟨b, l, cap, rfl, _⟩
    · exact ⟨_, _, rfl⟩
    · exact ⟨_, _, rfl⟩
  obtain ⟨va, vcap, hve⟩ := hv
  have hlo : ∀ {β : Type} (k : Nat → Sem β) (Q : β → St → Prop) (E : Halt → St → Prop), tri P (Builtin.lenOf w >>= k) s Q E = tri P (k qs.length) s Q E := by
    intro β k Q E; rw [hwe]; rfl
  simp only [hve, t_bind, t_size tf', t_und tfU, t_pure, Bool.false_eq_true, if_false, Bool.not_false, if_true, hlo]
  obtain ⟨ti, hti, hti1, hti2, _⟩ := tf'.info
  by_cases hroom : ps.length + qs.length ≤ vcap
  · rw [if_pos hroom]
    simp only [t_bind]
    refine t_firstCells hsl ?_
    rcases hown with ⟨hv0, rfl, rfl⟩ | ⟨b, l, cap, hv1, rfl, h1, h2, h3, h4⟩
    · rw [hv0] at hve
      cases hve
      have hq0 : qs = [] := List.eq_nil_of_length_eq_zero (by simp only [List.length_nil] at hroom; omega)
      subst hq0
      simp only [t_pure]
      have := h (.slice none 0 0) [] (OwnS.nil sz' E enc)
      rw [← A_put] at this
      rcases s with ⟨ro, rw_⟩
      simp only at hs
      subst hs
      exact this
    · rw [hv1] at hve
      cases hve
      simp only [t_bind, add_none, Nat.zero_add]
      have hfit : ps.length * sz' + ((qs.map enc).flatten).length ≤ l.length := by
        rw [hnew, h1, ← Nat.add_mul]; exact Nat.mul_le_mul_right _ hroom
      refine t_storeCells (L := pre) (R := R) ((qs.map enc).flatten) 0 l s (by rw [hs]; rfl) (by omega) (fun c hc => ?_) ?_
      · obtain ⟨e, he, hce⟩ := List.mem_flatten.1 hc
        obtain ⟨p, hp, rfl⟩ := List.mem_map.1 he
        exact hq p hp c hce
      · have := h (.slice (some ⟨b, 0, none⟩) (ps ++ qs).length vcap) [(b, .cells ⟨putL l (ps.length * sz') ((qs.map enc).flatten)⟩ E (0, 0))]
          (.inr ⟨b, _, vcap, rfl, rfl, by rw [putL_len, h1], by simpa using hroom, fun p hp => (List.mem_append.1 hp).elim (h3 p) (hql p), by
            rw [putL_eq _ _ _ hfit, List.length_append, Nat.add_mul, List.append_assoc]
            rw [List.map_append, List.flatten_append, ← h4]
            rw [show ps.length * sz' + qs.length * sz' = (l.take (ps.length * sz')).length + qs.length * sz' from by rw [List.length_take]; omega]
            rw [List.take_append, List.take_of_length_le (by omega)]
            congr 1
            rw [show (l.take (ps.length * sz')).length + qs.length * sz' - (l.take (ps.length * sz')).length = ((qs.map enc).flatten).length from by rw [hnew]; omega, List.take_left]⟩)
        rw [← A_put] at this
        simp only [t_pure, Nat.add_zero]
        rw [List.length_append] at this
        exact this
  · rw [if_neg hroom]
    have hlt : vcap < ps.length + qs.length := by omega
    have hmax : ¬ (((ps.length + qs.length : Nat) : Int) > IntKind.i64.max) := by
      have : IntKind.i64.max = 9223372036854775807 := by decide
      obtain ⟨h2, _⟩ := hb
      rw [this]; omega
    have hc := hcond vcap hlt
    simp only [t_bind, t_typeInfo hti, hmax, false_and, if_false]
    rw [hti2, if_neg hc]
    simp only [t_bind]
    rw [t_chooseE rfl]
    intro tp
    generalize hcap : Question.cut (.appendCap (ps.length + qs.length) vcap E) tp = newCap
    have hge : ps.length + qs.length ≤ newCap := by rw [← hcap]; simp [Question.cut]
    simp only [t_bind]
    rw [t_typeInfo hti]
    simp only [t_bind]
    refine t_askRoom ?_
    simp only [t_bind]
    have hold : Sl s (.slice va ps.length vcap) sz' enc ps := by
      rw [← hve]
      refine hown.sl fun x hx => .inr ?_
      rw [hs]; simp [hx]
    refine t_firstCells hold ?_
    simp only [t_bind]
    refine t_firstCells hsl ?_
    simp only [t_bind, t_zero tf', zval_cells tf', Builtin.zeroCells]
    have hzz : ((Array.range ((newCap - (ps.length + qs.length)) * (⟨z'⟩ : Array Value).size)).map fun i => (⟨z'⟩ : Array Value)[i % (⟨z'⟩ : Array Value).size]!) = ⟨zerosL z' (newCap - (ps.length + qs.length))⟩ := zeros_eq z' _
    rw [hzz]
    simp only [t_newRow, t_pure]
    intro b' hb'
    have hpl : ∀ p ∈ ps, (enc p).length = sz' := by
      rcases hown with ⟨_, rfl, _⟩ | ⟨_, _, _, _, _, _, _, h3, _⟩
      · intro p hp; cases hp
      · exact h3
    have hol := flat_len ps hpl
    have hown' : OwnS (.slice (some ⟨b', 0, none⟩) (ps ++ qs).length newCap) sz' E enc (ps ++ qs) [(b', .cells ⟨(ps.map enc).flatten ++ (qs.map enc).flatten ++ zerosL z' (newCap - (ps.length + qs.length))⟩ E (0, 0))] :=
      .inr ⟨b', _, newCap, rfl, rfl, by
        simp only [List.length_append, hol, hnew, zerosL_len, hz, ← Nat.add_mul]
        congr 1; omega, by simpa using hge, fun p hp => (List.mem_append.1 hp).elim (hpl p) (hql p), by
        rw [List.map_append, List.flatten_append, List.length_append, Nat.add_mul, ← hol, ← hnew, ← List.length_append, List.take_left]⟩
    have := h _ _ hown'
    rw [← A_put, List.length_append] at this
    have hcat : ((⟨(ps.map enc).flatten⟩ : Array Value) ++ ⟨(qs.map enc).flatten⟩ ++ ⟨zerosL z' (newCap - (ps.length + qs.length))⟩) = ⟨(ps.map enc).flatten ++ (qs.map enc).flatten ++ zerosL z' (newCap - (ps.length + qs.length))⟩ := by simp
    rw [hcat]
    refine hcl' ⟨s.ro, pre ++ ([(b', .cells ⟨(ps.map enc).flatten ++ (qs.map enc).flatten ++ zerosL z' (newCap - (ps.length + qs.length))⟩ E (0, 0))] ++ R)⟩ _ ?_ _ ?_
    · refine ⟨L, ?_, fun _ _ h => .inl h⟩
      rw [hs]
      rw [List.append_assoc pre, List.append_assoc [_] R L]
      simp only [List.cons_append, List.nil_append]
      refine List.Perm.trans ?_ List.perm_middle.symm
      refine List.Perm.cons _ ?_
      refine List.Perm.append_left pre ?_
      exact List.perm_append_comm
    · simpa using this
end rules
end Go.L
namespace Go.L
open Go Go.Conc

theorem St.le_app {s : St} {ro : Nat → Option Obj} {l : List (Nat × Obj)} (L : List (Nat × Obj)) (h : s.le ⟨ro, l⟩) : s.le ⟨ro, L ++ l⟩ := by
  induction L with
  | nil => exact h
  | cons x L ih => exact St.le_cons x ih
theorem Ext.co {s : St} {ro : Nat → Option Obj} {l : List (Nat × Obj)} (x : Nat × Obj) (h : Ext s ⟨ro, l⟩) : Ext s ⟨ro, x :: l⟩ := fun b o hb => (h b o hb).imp id (List.mem_cons_of_mem _)
theorem Ext.ap {s : St} {ro : Nat → Option Obj} {l : List (Nat × Obj)} (L : List (Nat × Obj)) (h : Ext s ⟨ro, l⟩) : Ext s ⟨ro, L ++ l⟩ := fun b o hb => (h b o hb).imp id (List.mem_append_right _)
theorem Ext.ro {s : St} {ro : Nat → Option Obj} (h : ∀ b o, s.ro b = some o → ro b = some o) : Ext s ⟨ro, s.rw⟩ := fun b o hb => hb.imp (h b o) id
theorem sl_one {α : Type} {s : St} {b sz : Nat} {T : TypeId} {fz : Nat × Nat} {enc : α → List Value} {p : α} (h : s.has b (.cells ⟨enc p⟩ T fz)) (hl : (enc p).length = sz) : Sl s (.slice (some ⟨b, 0, none⟩) 1 1) sz enc [p] :=
  ⟨_, b, 0, 1, rfl, fun _ _ => rfl, fun i q hq => ⟨_, T, fz, h, by
    have : i = 0 ∧ q = p := by
      cases i with
      | zero => simp at hq; exact ⟨rfl, hq.symm⟩
      | succ i => simp at hq
    obtain ⟨rfl, rfl⟩ := this
    rw [Nat.zero_mul, Nat.add_zero, sub_of_take (by omega)]
    simp [← hl]⟩⟩

section rules
variable {P : Program} {C : Class} {fn : FuncId} {rnd : Option Nat} {Q : Post} {s : St} {n : Nat} {env : Env} {D : List Deferred}
variable {ops : Array Oper} {i : Nat} {rest : List Nat} {dst : Option Tmp} {ty : TypeId} {pos : String} {aft : Array Edge} {g : Option (Nat × Bool)}
variable {T : TypeId} {d : TypeDesc} {sz by_ : Nat} {z : List Value} {ag : Bool}

theorem o_callVv (hC : ∀ main T, C main T → Closed P main T) {x : Operand} {f : FuncId} {fi ca : Array Value} {xs : Array Operand} {at_ : Array TypeId} {vs ws : List Value} {v : Value} (ho : ops[i]? = some ⟨dst, .call ⟨.value x, xs, at_⟩, ty, pos, aft, g⟩) (hw : wantedE ops n env g = true)
    (hv : evo n env x = some (.func (.func f) fi ca)) (ff : FF P f) (hx : evs n env xs = some vs) (hws : fi ++ ⟨vs⟩ ++ ca = ⟨ws⟩) (hf : FnV C P f ws s v) (h : OpsWp C fn rnd ops rest Q (A n (upd dst v env) D) s) : OpsWp C fn rnd ops (i :: rest) Q (A n env D) s :=
  o_callV hC ho hw hv ff hx hws hf (fun v' s' hr => by obtain ⟨h1, h2⟩ := hr; cases h1; subst h2; exact h) (fun ch s' hr => by cases hr.1) (fun s' hr => by cases hr.1)

/-- '==' of two values whose comparison is known. -/
def EqV (P : Program) (t : TypeId) (x y : Value) (r : Bool) : Prop :=
  ∀ (s : St) (k : Bool → Sem Next) (Q : Next → St → Prop) (E : Halt → St → Prop), tri P (Op.equal t x y >>= k) s Q E = tri P (k r) s Q E
def NoGuard (P : Program) (t : TypeId) : Prop := P.eqGuardType P.depth t = false
theorem o_eqAgg (hC : ∀ main T, C main T → Closed P main T) {x y : Operand} {T T' : TypeId} {l m : List Value} {r : Bool} (ho : ops[i]? = some ⟨dst, .binOp .eql T x y T', ty, pos, aft, g⟩) (hw : wantedE ops n env g = true)
    (hx : evo n env x = some (.agg ⟨l⟩)) (hy : evo n env y = some (.agg ⟨m⟩)) (hg : NoGuard P T) (he : EqV P T (.agg ⟨l⟩) (.agg ⟨m⟩) r) (h : OpsWp C fn rnd ops rest Q (A n (upd dst (.bool r) env) D) s) : OpsWp C fn rnd ops (i :: rest) Q (A n env D) s := by
  refine o_step hC ho hw (by simp) ?_
  have hg' : P.eqGuardType P.depth T = false := hg
  simp only [execOp, ev_of hx, ev_of hy, eqGuard, Bool.not_true, Bool.false_eq_true, if_false, t_bind, t_program, hg', Bool.not_false, if_true, t_pure, binOp]
  rw [he]
  rw [← A_put] at h
  exact h
theorem o_neqAgg (hC : ∀ main T, C main T → Closed P main T) {x y : Operand} {T T' : TypeId} {l m : List Value} {r : Bool} (ho : ops[i]? = some ⟨dst, .binOp .neq T x y T', ty, pos, aft, g⟩) (hw : wantedE ops n env g = true)
    (hx : evo n env x = some (.agg ⟨l⟩)) (hy : evo n env y = some (.agg ⟨m⟩)) (hg : NoGuard P T) (he : EqV P T (.agg ⟨l⟩) (.agg ⟨m⟩) r) (h : OpsWp C fn rnd ops rest Q (A n (upd dst (.bool !r) env) D) s) : OpsWp C fn rnd ops (i :: rest) Q (A n env D) s := by
  refine o_step hC ho hw (by simp) ?_
  have hg' : P.eqGuardType P.depth T = false := hg
  simp only [execOp, ev_of hx, ev_of hy, eqGuard, Bool.not_true, Bool.false_eq_true, if_false, t_bind, t_program, hg', Bool.not_false, if_true, t_pure, binOp]
  rw [he]
  rw [← A_put] at h
  exact h

/-! the comparison of flat values -/
def EqD (P : Program) (dep : Nat) (t : TypeId) (x y : Value) (r : Bool) : Prop :=
  ∀ (α : Type) (s : St) (k : Bool → Sem α) (Q : α → St → Prop) (E : Halt → St → Prop), tri P (Op.equalIn dep t x y >>= k) s Q E = tri P (k r) s Q E
theorem eqD_int {dep : Nat} {t : TypeId} {k : IntKind} {z : List Value} (tf : TF P t (.int k) sz by_ z ag) (a b : Int) : EqD P (dep + 1) t (.int k a) (.int k b) (a == b) := by
  intro α s kk Q E
  simp only [Op.equalIn, t_bind, t_und tf, if_true, t_pure]
theorem eqD_bool {dep : Nat} {t : TypeId} {z : List Value} (tf : TF P t .bool sz by_ z ag) (a b : Bool) : EqD P (dep + 1) t (.bool a) (.bool b) (a == b) := by
  intro α s kk Q E
  simp only [Op.equalIn, t_bind, t_und tf, t_pure]
theorem eqD_str {dep : Nat} {t : TypeId} {z : List Value} (tf : TF P t .string sz by_ z ag) (a b : ByteArray) : EqD P (dep + 1) t (.string a) (.string b) (a == b) := by
  intro α s kk Q E
  simp only [Op.equalIn, t_bind, t_und tf, t_pure]
theorem t_part0 {α : Type} {t : TypeId} {z : List Value} {d : TypeDesc} (tf : TF P t d sz by_ z false) {l : List Value} {o : Nat} {v : Value} (hv : nth l o = some v) {k : Value → Sem α} {Q : α → St → Prop} {E : Halt → St → Prop} : tri P (part t ⟨l⟩ o >>= k) s Q E = tri P (k v) s Q E := by
  rw [nth_eq] at hv
  simp only [part, t_bind, t_isAgg tf, Bool.false_eq_true, if_false, List.getElem?_toArray]
  rw [hv]
  simp only [t_pure]
theorem t_partA {α : Type} {t : TypeId} {z : List Value} {d : TypeDesc} (tf : TF P t d sz by_ z true) {l m : List Value} {o : Nat} (hv : sub l o sz = some m) {k : Value → Sem α} {Q : α → St → Prop} {E : Halt → St → Prop} : tri P (part t ⟨l⟩ o >>= k) s Q E = tri P (k (.agg ⟨m⟩)) s Q E := by
  obtain ⟨h1, h2⟩ := sub_eq _ _ _ _ hv
  simp only [part, t_bind, t_isAgg tf, if_true, t_size tf, t_pure]
  have : (⟨l⟩ : Array Value).extract o (o + sz) = ⟨m⟩ := by
    apply Array.ext'
    simp only [Array.toList_extract, List.extract_eq_take_drop]
    apply List.ext_getElem?
    intro j
    rw [List.getElem?_take]
    split
    · rename_i hj
      rw [List.getElem?_drop]
      have hjm : j < m.length := by omega
      have h3 := h2 j m[j] (by simp [hjm])
      rw [h3]; simp [hjm]
    · rename_i hj
      rw [List.getElem?_eq_none (by omega)]
  rw [this]

def PartV (P : Program) (t : TypeId) (l : List Value) (o : Nat) (v : Value) : Prop :=
  ∀ (α : Type) (s : St) (k : Value → Sem α) (Q : α → St → Prop) (E : Halt → St → Prop), tri P (part t ⟨l⟩ o >>= k) s Q E = tri P (k v) s Q E
theorem partV0 {t : TypeId} {z : List Value} {d : TypeDesc} (tf : TF P t d sz by_ z false) {l : List Value} {o : Nat} {v : Value} (hv : nth l o = some v) : PartV P t l o v := fun _ _ _ _ _ => t_part0 tf hv
theorem partVA {t : TypeId} {z : List Value} {d : TypeDesc} (tf : TF P t d sz by_ z true) {l m : List Value} {o : Nat} (hv : sub l o sz = some m) : PartV P t l o (.agg ⟨m⟩) := fun _ _ _ _ _ => t_partA tf hv
inductive EqFields (P : Program) (dep : Nat) (l m : List Value) : List Field → Bool → Prop
  | nil : EqFields P dep l m [] true
  | cons {f : Field} {fs : List Field} {v w : Value} {r r' : Bool} (hn : f.name ≠ "_") (hv : PartV P f.type l f.offset v) (hw : PartV P f.type m f.offset w) (he : EqD P dep f.type v w r) (ht : EqFields P dep l m fs r') : EqFields P dep l m (f :: fs) (r && r')
theorem eqD_struct {dep : Nat} {t : TypeId} {z : List Value} {fields : Array Field} {l m : List Value} {r : Bool} (tf : TF P t (.struct fields) sz by_ z true) (hs : P.stoodInHeld t = false) (hf : EqFields P dep l m fields.toList r) : EqD P (dep + 1) t (.agg ⟨l⟩) (.agg ⟨m⟩) r := by
  intro α s k Q E
  simp only [Op.equalIn, t_bind, t_und tf, t_program, hs, Bool.false_eq_true, if_false]
  rw [← Array.forIn_toList]
  generalize fields.toList = fl at hf
  clear tf
  induction hf with
  | nil => simp only [List.forIn_nil, t_pure, t_bind, Bool.and_true]
  | @cons f fs v w r r' hn hv hw he ht ih =>
    simp only [List.forIn_cons, hn, ne_eq, not_false_eq_true, if_true, t_bind]
    rw [hv]
    simp only [t_bind]
    rw [hw]
    simp only [t_bind]
    rw [he]
    cases r with
    | false => simp only [Bool.not_false, if_true, t_pure, t_bind, Bool.false_and]
    | true =>
      simp only [Bool.not_true, Bool.false_eq_true, if_false, t_pure, Bool.true_and]
      exact ih
theorem eqV_of {t : TypeId} {x y : Value} {r : Bool} (h : EqD P 10000 t x y r) : EqV P t x y r := fun s k Q E => h Go.Next s k Q E
end rules
end Go.L
namespace Go.L
open Go Go.Conc
section rules
variable {P : Program} {C : Class} {fn : FuncId} {rnd : Option Nat} {Q : Post} {s : St} {n : Nat} {env : Env} {D : List Deferred}
variable {ops : Array Oper} {i : Nat} {rest : List Nat} {dst : Option Tmp} {ty : TypeId} {pos : String} {aft : Array Edge} {g : Option (Nat × Bool)}
variable {T : TypeId} {d : TypeDesc} {sz by_ : Nat} {z : List Value} {ag : Bool}

def packV : List Value → Value
  | [x] => x
  | l => .tuple ⟨l⟩
/-- What the result variables hold. -/
inductive RetL (P : Program) (s : St) (n : Nat) (env : Env) : List ResultVar → List Value → Prop
  | nil : RetL P s n env [] []
  | tmp {t : Tmp} {v : Value} {rs : List ResultVar} {vs : List Value} (h : evo n env (.tmp t) = some v) (hr : RetL P s n env rs vs) : RetL P s n env (.tmp t :: rs) (v :: vs)
  | agg {t : Tmp} {T : TypeId} {d : TypeDesc} {sz by_ : Nat} {z l : List Value} {b o : Nat} {rs : List ResultVar} {vs : List Value} (tf : TF P T d sz by_ z true) (h : evo n env (.tmp t) = some (.pointer (some ⟨b, o, none⟩))) (hl : ReadsN s b o sz l) (hr : RetL P s n env rs vs) : RetL P s n env (.cell t T :: rs) (.agg ⟨l⟩ :: vs)
  | cell {t : Tmp} {T : TypeId} {d : TypeDesc} {sz by_ : Nat} {z : List Value} {v : Value} {b o : Nat} {rs : List ResultVar} {vs : List Value} (tf : TF P T d sz by_ z false) (h : evo n env (.tmp t) = some (.pointer (some ⟨b, o, none⟩))) (hl : Reads s b o v) (hr : RetL P s n env rs vs) : RetL P s n env (.cell t T :: rs) (v :: vs)

theorem t_retL {α : Type} : ∀ {rs : List ResultVar} {vs : List Value} (_ : RetL P s n env rs vs) {k : List Value → Sem α} {Q : α → St → Prop} {E : Halt → St → Prop}, tri P (k vs) s Q E →
    tri P (rs.mapM (fun | .tmp t => pure ((A n env D).tmps.getD t undef) | .cell a t => do loadVar t (← asAddr ((A n env D).tmps.getD a undef))) >>= k) s Q E
  | _, _, .nil, k, Q, E, h => by simpa only [List.mapM_nil, t_pure] using h
  | _, _, .tmp (t := t) (v := v) h hr, k, Q, E, hk => by
    have hv : (A n env D).tmps.getD t undef = v := by have := getD_of (D := D) h; rwa [← Array.getD_eq_getD_getElem?] at this
    simp only [List.mapM_cons, t_bind, t_pure, hv]
    exact t_retL hr hk
  | _, _, .agg (t := t) (l := l) (b := b) (o := o) tf h hl hr, k, Q, E, hk => by
    have hv : (A n env D).tmps.getD t undef = .pointer (some ⟨b, o, none⟩) := by have := getD_of (D := D) h; rwa [← Array.getD_eq_getD_getElem?] at this
    simp only [List.mapM_cons, t_bind, t_pure, hv, asAddr, loadVar, t_isAgg tf, if_true, t_size tf]
    refine t_loadCells hl ?_
    try simp only [t_bind, t_pure]
    exact t_retL hr hk
  | _, _, .cell (t := t) (v := v) (b := b) (o := o) tf h hl hr, k, Q, E, hk => by
    have hv : (A n env D).tmps.getD t undef = .pointer (some ⟨b, o, none⟩) := by have := getD_of (D := D) h; rwa [← Array.getD_eq_getD_getElem?] at this
    simp only [List.mapM_cons, t_bind, t_pure, hv, asAddr, loadVar, t_isAgg tf, Bool.false_eq_true, if_false]
    refine t_load hl ?_
    try simp only [t_bind, t_pure]
    exact t_retL hr hk

theorem ret_L {fn : Func} {R : Ending → St → Prop} {e : Exit} {s0 : St} {vs : List Value} {v : Value} (he : e = .ret ∨ e = .normal) (hr : RetL P s n env fn.results.toList vs) (hv : packV vs = v) (hl : s0.le s) (h : R (.returned v) s0) : bodyQ P fn R e (A n env []) s := by
  refine bodyQ_of he rfl ?_
  unfold results
  rw [Array.mapM_eq_mapM_toList]
  simp only [map_eq_pure_bind, t_bind, t_pure]
  refine t_retL (D := []) hr ?_
  refine ⟨s0, hl, ?_⟩
  subst hv
  have : (if h : (⟨vs⟩ : Array Value).size = 1 then (⟨vs⟩ : Array Value)[0] else .tuple ⟨vs⟩) = packV vs := by
    match vs with
    | [] => rfl
    | [x] => rfl
    | x :: y :: l => simp [packV]
  rw [← this] at h
  exact h

theorem o_rem (hC : ∀ main T, C main T → Closed P main T) {x y : Operand} {T T' : TypeId} {k : IntKind} {a b : Int} (ho : ops[i]? = some ⟨dst, .binOp .rem T x y T', ty, pos, aft, g⟩) (hw : wantedE ops n env g = true)
    (hx : evo n env x = some (.int k a)) (hy : evo n env y = some (.int k b)) (hb : b ≠ 0) (h : OpsWp C fn rnd ops rest Q (A n (upd dst (.int k (a.tmod b)) env) D) s) : OpsWp C fn rnd ops (i :: rest) Q (A n env D) s :=
  o_int hC ho hw hx hy (v := .int k (a.tmod b)) (by
    show (if (k ≠ k) then _ else _) = _
    rw [if_neg (by simp)]
    show Op.intDiv .rem k a b = _
    simp only [Op.intDiv, hb, if_false]; rfl) h
theorem o_quo (hC : ∀ main T, C main T → Closed P main T) {x y : Operand} {T T' : TypeId} {k : IntKind} {a b : Int} (ho : ops[i]? = some ⟨dst, .binOp .quo T x y T', ty, pos, aft, g⟩) (hw : wantedE ops n env g = true)
    (hx : evo n env x = some (.int k a)) (hy : evo n env y = some (.int k b)) (hb : b ≠ 0) (hr : k.wrap (a.tdiv b) = a.tdiv b) (h : OpsWp C fn rnd ops rest Q (A n (upd dst (.int k (a.tdiv b)) env) D) s) : OpsWp C fn rnd ops (i :: rest) Q (A n env D) s :=
  o_int hC ho hw hx hy (v := .int k (a.tdiv b)) (by
    show (if (k ≠ k) then _ else _) = _
    rw [if_neg (by simp)]
    show Op.intDiv .quo k a b = _
    simp only [Op.intDiv, hb, if_false, hr]; rfl) h
end rules
end Go.L
namespace Go.L
open Go Go.Conc

/-! ### The same value, with blocks numbered in the order of their making: i stands for the first part of ρ i; the second part is how much a slice of it can hold when that is left open -/
abbrev Ren := Nat → Option (Nat × Nat)
/-- capacities up to here are what they are; above: left open (capU - d: d less than what ρ says) -/
def capL : Nat := 18446744073709551616
def capU : Nat := 36893488147419103232

def plainFn : Go.Fn → Bool
  | .yield _ => false
  | _ => true

mutual
inductive VR (ρ : Ren) : Value → Value → Prop
  | bool (b : Bool) : VR ρ (.bool b) (.bool b)
  | int (k : IntKind) (n : Int) : VR ρ (.int k n) (.int k n)
  | string (b : ByteArray) : VR ρ (.string b) (.string b)
  | ptr0 : VR ρ (.pointer none) (.pointer none)
  | ptr (i b c o : Nat) : ρ i = some (b, c) → VR ρ (.pointer (some ⟨i, o, none⟩)) (.pointer (some ⟨b, o, none⟩))
  | slice0 (l c : Nat) : VR ρ (.slice none l c) (.slice none l c)
  | slice (i b c o l k : Nat) : ρ i = some (b, c) → k ≤ capL → VR ρ (.slice (some ⟨i, o, none⟩) l k) (.slice (some ⟨b, o, none⟩) l k)
  | sliceU (i b c o l k : Nat) : ρ i = some (b, c) → capL < k → k ≤ capU → l + (capU - k) ≤ c → VR ρ (.slice (some ⟨i, o, none⟩) l k) (.slice (some ⟨b, o, none⟩) l (c - (capU - k)))
  | map0 : VR ρ (.map none) (.map none)
  | map (i b c : Nat) : ρ i = some (b, c) → VR ρ (.map (some i)) (.map (some b))
  | chan0 : VR ρ (.chan none) (.chan none)
  | chan (i b c : Nat) : ρ i = some (b, c) → VR ρ (.chan (some i)) (.chan (some b))
  | func (f : Go.Fn) (x y x' y' : List Value) : plainFn f = true → VRs ρ x x' → VRs ρ y y' → VR ρ (.func f ⟨x⟩ ⟨y⟩) (.func f ⟨x'⟩ ⟨y'⟩)
  | yield (i b c : Nat) : ρ i = some (b, c) → VR ρ (.func (.yield i) #[] #[]) (.func (.yield b) #[] #[])
  | nilFunc : VR ρ .nilFunc .nilFunc
  | iface (t : TypeId) (v v' : Value) : VR ρ v v' → VR ρ (.iface t v) (.iface t v')
  | nilIface : VR ρ .nilIface .nilIface
  | agg (l l' : List Value) : VRs ρ l l' → VR ρ (.agg ⟨l⟩) (.agg ⟨l'⟩)
  | tuple (l l' : List Value) : VRs ρ l l' → VR ρ (.tuple ⟨l⟩) (.tuple ⟨l'⟩)
inductive VRs (ρ : Ren) : List Value → List Value → Prop
  | nil : VRs ρ [] []
  | cons (v v' : Value) (l l' : List Value) : VR ρ v v' → VRs ρ l l' → VRs ρ (v :: l) (v' :: l')
end

/-- ρ' goes on from ρ -/
def Ren.le (ρ ρ' : Ren) : Prop := ∀ (i : Nat) (x : Nat × Nat), ρ i = some x → ρ' i = some x
theorem Ren.le_refl (ρ : Ren) : ρ.le ρ := fun _ _ h => h
theorem Ren.le_trans {a b c : Ren} (h : a.le b) (k : b.le c) : a.le c := fun i x hx => k i x (h i x hx)
def Ren.put (ρ : Ren) (i : Nat) (x : Nat × Nat) : Ren := fun j => if j = i then some x else ρ j
theorem Ren.put_same (ρ : Ren) (i : Nat) (x : Nat × Nat) : ρ.put i x i = some x := by simp [Ren.put]
theorem Ren.put_ne (ρ : Ren) {i j : Nat} (x : Nat × Nat) (h : j ≠ i) : ρ.put i x j = ρ j := by simp [Ren.put, h]
theorem Ren.le_put {ρ : Ren} {i : Nat} (x : Nat × Nat) (h : ρ i = none) : ρ.le (ρ.put i x) := fun j y hj => by
  by_cases e : j = i
  · subst e; rw [h] at hj; cases hj
  · rw [Ren.put_ne _ _ e]; exact hj

mutual
theorem VR.up {ρ ρ' : Ren} (hl : ρ.le ρ') {v w : Value} (h : VR ρ v w) : VR ρ' v w := by
  cases h with
  | bool b => exact .bool b
  | int k n => exact .int k n
  | string b => exact .string b
  | ptr0 => exact .ptr0
  | ptr i b c o h => exact .ptr i b c o (hl _ _ h)
  | slice0 l c => exact .slice0 l c
  | slice i b c o l k h hk => exact .slice i b c o l k (hl _ _ h) hk
  | sliceU i b c o l k h h1 h2 h3 => exact .sliceU i b c o l k (hl _ _ h) h1 h2 h3
  | map0 => exact .map0
  | map i b c h => exact .map i b c (hl _ _ h)
  | chan0 => exact .chan0
  | chan i b c h => exact .chan i b c (hl _ _ h)
  | func f x y x' y' hf h1 h2 => exact .func f x y x' y' hf (h1.up hl) (h2.up hl)
  | yield i b c h => exact .yield i b c (hl _ _ h)
  | nilFunc => exact .nilFunc
  | iface t v v' h => exact .iface t v v' (h.up hl)
  | nilIface => exact .nilIface
  | agg l l' h => exact .agg l l' (h.up hl)
  | tuple l l' h => exact .tuple l l' (h.up hl)
theorem VRs.up {ρ ρ' : Ren} (hl : ρ.le ρ') {v w : List Value} (h : VRs ρ v w) : VRs ρ' v w := by
  cases h with
  | nil => exact .nil
  | cons v v' l l' h1 h2 => exact .cons v v' l l' (h1.up hl) (h2.up hl)
end

mutual
theorem VR.uniq {ρ : Ren} {v w : Value} (h : VR ρ v w) : ∀ {w'}, VR ρ v w' → w = w' := by
  intro w' h'
  cases h with
  | ptr i b c o h => cases h' with | ptr _ b' c' _ h2 => rw [h] at h2; cases h2; rfl
  | slice i b c o l k h hk => cases h' with
    | slice _ b' c' _ _ _ h2 => rw [h] at h2; cases h2; rfl
    | sliceU _ _ _ _ _ _ _ h2 => omega
  | sliceU i b c o l k h h2 => cases h' with
    | slice _ b' c' _ _ _ h2 hk => omega
    | sliceU _ b' c' _ _ _ h2 => rw [h] at h2; cases h2; rfl
  | map i b c h => cases h' with | map _ b' c' h2 => rw [h] at h2; cases h2; rfl
  | chan i b c h => cases h' with | chan _ b' c' h2 => rw [h] at h2; cases h2; rfl
  | func f x y x' y' hf h1 h2 => cases h' with
    | func _ _ _ x2 y2 _ k1 k2 => rw [h1.uniq k1, h2.uniq k2]
    | yield _ _ _ _ => cases hf
  | yield i b c h => cases h' with
    | func _ _ _ x2 y2 hf k1 k2 => cases hf
    | yield _ b' c' h2 => rw [h] at h2; cases h2; rfl
  | iface t v v' h => cases h' with | iface _ _ v2 h2 => rw [h.uniq h2]
  | agg l l' h => cases h' with | agg _ l2 h2 => rw [h.uniq h2]
  | tuple l l' h => cases h' with | tuple _ l2 h2 => rw [h.uniq h2]
  | _ => cases h'; rfl
theorem VRs.uniq {ρ : Ren} {v w : List Value} (h : VRs ρ v w) : ∀ {w'}, VRs ρ v w' → w = w' := by
  intro w' h'
  cases h with
  | nil => cases h'; rfl
  | cons v v' l l' h1 h2 => cases h' with | cons _ v2 _ l2 k1 k2 => rw [h1.uniq k1, h2.uniq k2]
end

theorem VRs.len {ρ : Ren} : ∀ {l l' : List Value}, VRs ρ l l' → l.length = l'.length
  | _, _, .nil => rfl
  | _, _, .cons _ _ _ _ _ h => by simp [h.len]
theorem VRs.get {ρ : Ren} : ∀ {l l' : List Value}, VRs ρ l l' → ∀ (i : Nat) (v : Value), l[i]? = some v → ∃ v', l'[i]? = some v' ∧ VR ρ v v'
  | _, _, .nil, i, v, h => by simp at h
  | _, _, .cons x x' l l' h1 h2, 0, v, h => by simp at h; subst h; exact ⟨x', rfl, h1⟩
  | _, _, .cons x x' l l' h1 h2, i + 1, v, h => by simp at h; obtain ⟨v', k1, k2⟩ := h2.get i v h; exact ⟨v', by simpa using k1, k2⟩
theorem VRs.append {ρ : Ren} : ∀ {l l' m m' : List Value}, VRs ρ l l' → VRs ρ m m' → VRs ρ (l ++ m) (l' ++ m')
  | _, _, _, _, .nil, h => h
  | _, _, _, _, .cons x x' l l' h1 h2, h => .cons _ _ _ _ h1 (h2.append h)

/-! values without blocks -/
def flatAll (f : Value → Bool) : List Value → Bool
  | [] => true
  | v :: l => f v && flatAll f l
def flatN : Nat → Value → Bool
  | 0, _ => false
  | _ + 1, .bool _ | _ + 1, .int _ _ | _ + 1, .string _ | _ + 1, .pointer none | _ + 1, .slice none _ _ | _ + 1, .map none | _ + 1, .chan none | _ + 1, .nilFunc | _ + 1, .nilIface => true
  | n + 1, .func f x y => plainFn f && (flatAll (flatN n) x.toList && flatAll (flatN n) y.toList)
  | n + 1, .iface _ v => flatN n v
  | n + 1, .agg l => flatAll (flatN n) l.toList
  | n + 1, .tuple l => flatAll (flatN n) l.toList
  | _, _ => false
def flat (v : Value) : Bool := flatN 12 v
theorem flatN_vr {ρ : Ren} : ∀ {n : Nat} {v : Value}, flatN n v = true → VR ρ v v := by
  intro n
  induction n with
  | zero => intro v h; cases h
  | succ n ih =>
    have hl : ∀ (l : List Value), flatAll (flatN n) l = true → VRs ρ l l := by
      intro l
      induction l with
      | nil => intro _; exact .nil
      | cons v l il =>
        intro h
        simp only [flatAll, Bool.and_eq_true] at h
        exact .cons _ _ _ _ (ih h.1) (il h.2)
    intro v h
    cases v with
    | bool b => exact .bool b
    | int k n => exact .int k n
    | string b => exact .string b
    | pointer a => cases a with
      | none => exact .ptr0
      | some a => simp [flatN] at h
    | slice a l c => cases a with
      | none => exact .slice0 l c
      | some a => simp [flatN] at h
    | map r => cases r with
      | none => exact .map0
      | some a => simp [flatN] at h
    | chan r => cases r with
      | none => exact .chan0
      | some a => simp [flatN] at h
    | func f x y =>
      simp only [flatN, Bool.and_eq_true] at h
      exact .func f x.toList y.toList x.toList y.toList h.1 (hl _ h.2.1) (hl _ h.2.2)
    | nilFunc => exact .nilFunc
    | iface t v => exact .iface t v v (ih (by simpa [flatN] using h))
    | nilIface => exact .nilIface
    | agg l => exact .agg _ _ (hl l.toList (by simpa [flatN] using h))
    | tuple l => exact .tuple _ _ (hl l.toList (by simpa [flatN] using h))
    | float _ _ => simp [flatN] at h
    | complex _ _ _ => simp [flatN] at h
theorem flat_vr {ρ : Ren} {v : Value} (h : flat v = true) : VR ρ v v := flatN_vr h
theorem flat_eq {ρ : Ren} {v w : Value} (h : flat v = true) (hv : VR ρ v w) : w = v := (hv.uniq (flat_vr h))
/-- what stands in nobody's slot yet -/
theorem vr_undef {ρ : Ren} : VR ρ undef undef := flat_vr (by rfl)

/-! ### Equality of values, by running -/
def beqBy (f : Value → Value → Bool) : List Value → List Value → Bool
  | [], [] => true
  | v :: l, w :: m => f v w && beqBy f l m
  | _, _ => false
def beqA : Option Addr → Option Addr → Bool
  | none, none => true
  | some ⟨b, o, none⟩, some ⟨b', o', none⟩ => Nat.beq b b' && Nat.beq o o'
  | _, _ => false
def beqO : Option Nat → Option Nat → Bool
  | none, none => true
  | some a, some b => Nat.beq a b
  | _, _ => false
def beqN : Nat → Value → Value → Bool
  | _ + 1, .bool a, .bool b => (a && b) || (!a && !b)
  | _ + 1, .int k a, .int l b => decide (k = l) && decide (a = b)
  | _ + 1, .string a, .string b => decide (a.data.toList = b.data.toList)
  | _ + 1, .pointer a, .pointer b => beqA a b
  | _ + 1, .slice a l c, .slice b m d => beqA a b && (Nat.beq l m && Nat.beq c d)
  | _ + 1, .map a, .map b => beqO a b
  | _ + 1, .chan a, .chan b => beqO a b
  | _ + 1, .nilFunc, .nilFunc => true
  | _ + 1, .nilIface, .nilIface => true
  | n + 1, .func f x y, .func g x' y' => decide (f = g) && (beqBy (beqN n) x.toList x'.toList && beqBy (beqN n) y.toList y'.toList)
  | n + 1, .iface t v, .iface u w => Nat.beq t u && beqN n v w
  | n + 1, .agg l, .agg m => beqBy (beqN n) l.toList m.toList
  | n + 1, .tuple l, .tuple m => beqBy (beqN n) l.toList m.toList
  | _, _, _ => false
def beqV (a b : Value) : Bool := beqN 12 a b
theorem beqA_eq {a b : Option Addr} (h : beqA a b = true) : a = b := by
  rcases a with _ | ⟨x, y, _ | z⟩ <;> rcases b with _ | ⟨x', y', _ | z'⟩ <;> simp_all [beqA]
theorem beqO_eq {a b : Option Nat} (h : beqO a b = true) : a = b := by
  rcases a with _ | x <;> rcases b with _ | y <;> simp_all [beqO]
theorem beqN_eq : ∀ {n : Nat} {v w : Value}, beqN n v w = true → v = w := by
  intro n
  induction n with
  | zero => intro v w h; simp [beqN] at h
  | succ n ih =>
    have hl : ∀ (l m : List Value), beqBy (beqN n) l m = true → l = m := by
      intro l
      induction l with
      | nil => intro m h; cases m <;> simp_all [beqBy]
      | cons v l il =>
        intro m h
        cases m with
        | nil => simp [beqBy] at h
        | cons w m =>
          simp only [beqBy, Bool.and_eq_true] at h
          rw [ih h.1, il m h.2]
    have ha : ∀ (l m : Array Value), beqBy (beqN n) l.toList m.toList = true → l = m := by
      intro l m h
      have := hl _ _ h
      rcases l with ⟨l⟩; rcases m with ⟨m⟩
      simpa using this
    intro v w h
    cases v <;> cases w <;> simp only [beqN, Bool.and_eq_true, decide_eq_true_eq, Bool.false_eq_true] at h
    case bool.bool a b => cases a <;> cases b <;> simp_all
    case int.int => rw [h.1, h.2]
    case string.string a b =>
      rcases a with ⟨⟨a⟩⟩; rcases b with ⟨⟨b⟩⟩
      simp only at h
      rw [h]
    case pointer.pointer => rw [beqA_eq h]
    case slice.slice => rw [beqA_eq h.1, Nat.eq_of_beq_eq_true h.2.1, Nat.eq_of_beq_eq_true h.2.2]
    case map.map => rw [beqO_eq h]
    case chan.chan => rw [beqO_eq h]
    case func.func => rw [h.1, ha _ _ h.2.1, ha _ _ h.2.2]
    case iface.iface => rw [Nat.eq_of_beq_eq_true h.1, ih h.2]
    case agg.agg => rw [ha _ _ h]
    case tuple.tuple => rw [ha _ _ h]
    case nilFunc.nilFunc => rfl
    case nilIface.nilIface => rfl
theorem beqV_eq {v w : Value} (h : beqV v w = true) : v = w := beqN_eq h
end Go.L
namespace Go.L
open Go Go.Conc

/-! ### The canonical memory: a tree of blocks -/
inductive Tr (α : Type) where
  | nil
  | node (v : Option α) (l r : Tr α)
def Tr.get {α : Type} : Tr α → Nat → Option α
  | .nil, _ => none
  | .node v l r, i => bif Nat.beq i 0 then v else bif Nat.beq (i % 2) 1 then l.get (i / 2) else r.get (i / 2 - 1)
def Tr.val {α : Type} : Tr α → Option α
  | .nil => none
  | .node v _ _ => v
def Tr.left {α : Type} : Tr α → Tr α
  | .nil => .nil
  | .node _ l _ => l
def Tr.right {α : Type} : Tr α → Tr α
  | .nil => .nil
  | .node _ _ r => r
def Tr.put {α : Type} : Nat → Tr α → Nat → Option α → Tr α
  | 0, t, _, x => .node x t.left t.right
  | f + 1, t, i, x => bif Nat.beq i 0 then .node x t.left t.right else bif Nat.beq (i % 2) 1 then .node t.val (t.left.put f (i / 2) x) t.right else .node t.val t.left (t.right.put f (i / 2 - 1) x)
theorem Tr.get_node {α : Type} (t : Tr α) (i : Nat) : t.get i = bif Nat.beq i 0 then t.val else bif Nat.beq (i % 2) 1 then t.left.get (i / 2) else t.right.get (i / 2 - 1) := by
  cases t with
  | nil => simp only [get, val, left, right]; cases Nat.beq i 0 <;> cases Nat.beq (i % 2) 1 <;> rfl
  | node v l r => simp only [get, val, left, right]
theorem beq_false {a b : Nat} (h : a ≠ b) : Nat.beq a b = false := by
  cases hb : Nat.beq a b with
  | false => rfl
  | true => exact absurd (Nat.eq_of_beq_eq_true hb) h
theorem Tr.get_put {α : Type} : ∀ (f : Nat) (t : Tr α) (i : Nat) (x : Option α), i < 2 ^ f → ∀ j, (t.put f i x).get j = if j = i then x else t.get j
  | 0, t, i, x, h, j => by
    have hi : i = 0 := by simpa using h
    subst hi
    simp only [put]
    rw [Tr.get_node (.node x t.left t.right) j, Tr.get_node t j]
    by_cases hj : j = 0
    · subst hj; simp [val]
    · simp only [beq_false hj, cond_false, if_neg hj, left, right]
  | f + 1, t, i, x, h, j => by
    simp only [put]
    by_cases hi : i = 0
    · subst hi
      simp only [Nat.beq_refl, cond_true]
      rw [Tr.get_node (.node x t.left t.right) j, Tr.get_node t j]
      by_cases hj : j = 0
      · subst hj; simp [val]
      · simp only [beq_false hj, cond_false, if_neg hj, left, right]
    · simp only [beq_false hi, cond_false]
      have hp : 2 ^ (f + 1) = 2 * 2 ^ f := by rw [Nat.pow_succ, Nat.mul_comm]
      by_cases hm : i % 2 = 1
      · simp only [hm, Nat.beq_refl, cond_true]
        show (bif Nat.beq j 0 then t.val else bif Nat.beq (j % 2) 1 then (t.left.put f (i / 2) x).get (j / 2) else t.right.get (j / 2 - 1)) = _
        by_cases hj : j = 0
        · subst hj
          rw [if_neg (by omega), Tr.get_node t 0]; simp
        · simp only [beq_false hj, cond_false]
          by_cases hjm : j % 2 = 1
          · simp only [hjm, Nat.beq_refl, cond_true]
            rw [Tr.get_put f t.left (i / 2) x (by omega) (j / 2)]
            by_cases e : j = i
            · subst e; simp
            · rw [if_neg (by omega), if_neg e, Tr.get_node t j, beq_false hj, hjm]; simp
          · simp only [beq_false hjm, cond_false]
            rw [if_neg (by intro e; subst e; exact hjm hm), Tr.get_node t j, beq_false hj, beq_false hjm]; simp
      · simp only [beq_false hm, cond_false]
        show (bif Nat.beq j 0 then t.val else bif Nat.beq (j % 2) 1 then t.left.get (j / 2) else (t.right.put f (i / 2 - 1) x).get (j / 2 - 1)) = _
        by_cases hj : j = 0
        · subst hj
          rw [if_neg (by omega), Tr.get_node t 0]; simp
        · simp only [beq_false hj, cond_false]
          by_cases hjm : j % 2 = 1
          · simp only [hjm, Nat.beq_refl, cond_true]
            rw [if_neg (by intro e; subst e; exact hm hjm), Tr.get_node t j, beq_false hj, hjm]; simp
          · simp only [beq_false hjm, cond_false]
            rw [Tr.get_put f t.right (i / 2 - 1) x (by omega) (j / 2 - 1)]
            by_cases e : j = i
            · subst e; simp
            · rw [if_neg (by omega), if_neg e, Tr.get_node t j, beq_false hj, beq_false hjm]; simp

/-- Slots, pointwise. -/
inductive ER (ρ : Ren) : Env → Env → Prop
  | nil : ER ρ [] []
  | cons (t : Nat) (v v' : Value) (l l' : Env) : VR ρ v v' → ER ρ l l' → ER ρ ((t, v) :: l) ((t, v') :: l')
theorem ER.up {ρ ρ' : Ren} (hl : ρ.le ρ') : ∀ {l l' : Env}, ER ρ l l' → ER ρ' l l'
  | _, _, .nil => .nil
  | _, _, .cons t v v' l l' h1 h2 => .cons t v v' l l' (h1.up hl) (h2.up hl)
structure MEnt where
  key : Value
  val : Value
  born : Nat
/-- A block: cells (of which the real one may have more behind), or a map, or what steps through one. -/
inductive CObj where
  | cells (l : List Value) (t : TypeId)
  | map (es : List MEnt) (clock : Nat)
  | strIter (s : ByteArray) (pos : Nat)
  | mapIter (m : Option Nat) (since : Nat) (seen : List Nat) (stepped : Nat)
  | loop (st : LoopState) (pend : Option Code) (fn n : Nat) (env : Env) (params : Array Tmp) (assign body : Code) (defers : Nat)
  | defer (taken : Bool)
  /-- a map whose entries lie in whatever order -/
  | bag (es : List MEnt)
structure CB where
  ro : Bool
  o : CObj
structure Mem where
  t : Tr CB
  next : Nat
def depthT : Nat := 24

inductive MRs (ρ : Ren) : List MEnt → List MapEntry → Prop
  | nil : MRs ρ [] []
  | cons (k k' v v' : Value) (b : Nat) (l : List MEnt) (l' : List MapEntry) : VR ρ k k' → VR ρ v v' → MRs ρ l l' → MRs ρ (⟨k, v, b⟩ :: l) (⟨k', v', b⟩ :: l')
/-- .. their ages left open -/
inductive BRs (ρ : Ren) : List MEnt → List MapEntry → Prop
  | nil : BRs ρ [] []
  | cons (k k' v v' : Value) (b b' : Nat) (l : List MEnt) (l' : List MapEntry) : VR ρ k k' → VR ρ v v' → BRs ρ l l' → BRs ρ (⟨k, v, b⟩ :: l) (⟨k', v', b'⟩ :: l')
inductive OR (ρ : Ren) : CObj → Obj → Prop
  | cells (l l' x : List Value) (t : TypeId) : VRs ρ l l' → OR ρ (.cells l t) (.cells ⟨l' ++ x⟩ t (0, 0))
  | map (es : List MEnt) (es' : List MapEntry) (k : Nat) : MRs ρ es es' → OR ρ (.map es k) (.map ⟨es'⟩ k)
  | strIter (s : ByteArray) (p : Nat) : OR ρ (.strIter s p) (.stringIter s p)
  | mapIter0 (since st : Nat) (seen : List Nat) : OR ρ (.mapIter none since seen st) (.mapIter none since ⟨seen⟩ st)
  | mapIter (i b c since st : Nat) (seen : List Nat) : ρ i = some (b, c) → OR ρ (.mapIter (some i) since seen st) (.mapIter (some b) since ⟨seen⟩ st)
  | loop (st : LoopState) (pend : Option Code) (fn n : Nat) (ce e : Env) (params : Array Tmp) (assign body : Code) (i b c : Nat) : ER ρ ce e → ρ i = some (b, c) → OR ρ (.loop st pend fn n ce params assign body i) (.loop { state := st, pending := pend, fn, tmps := (A n e []).tmps, params, assign, body, defers := b })
  | defer (t : Bool) : OR ρ (.defer t) (.deferred (if t then none else some []))
  | bag (es es1 : List MEnt) (es' : List MapEntry) (k : Nat) : es.Perm es1 → BRs ρ es1 es' → OR ρ (.bag es) (.map ⟨es'⟩ k)
theorem MRs.up {ρ ρ' : Ren} (hl : ρ.le ρ') : ∀ {l : List MEnt} {l' : List MapEntry}, MRs ρ l l' → MRs ρ' l l'
  | _, _, .nil => .nil
  | _, _, .cons k k' v v' b l l' h1 h2 h3 => .cons k k' v v' b l l' (h1.up hl) (h2.up hl) (h3.up hl)
theorem BRs.up {ρ ρ' : Ren} (hl : ρ.le ρ') : ∀ {l : List MEnt} {l' : List MapEntry}, BRs ρ l l' → BRs ρ' l l'
  | _, _, .nil => .nil
  | _, _, .cons k k' v v' b b' l l' h1 h2 h3 => .cons k k' v v' b b' l l' (h1.up hl) (h2.up hl) (h3.up hl)
theorem OR.up {ρ ρ' : Ren} (hl : ρ.le ρ') {o : CObj} {o' : Obj} (h : OR ρ o o') : OR ρ' o o' := by
  cases h with
  | cells l l' x t h => exact .cells l l' x t (h.up hl)
  | map es es' k h => exact .map es es' k (h.up hl)
  | strIter s p => exact .strIter s p
  | mapIter0 a b c => exact .mapIter0 a b c
  | mapIter i b c d e f h => exact .mapIter i b c d e f (hl _ _ h)
  | loop st pend fn n ce e params assign body i b c h1 h2 => exact .loop st pend fn n ce e params assign body i b c (h1.up hl) (hl _ _ h2)
  | defer t => exact .defer t
  | bag es es1 es' k h1 h2 => exact .bag es es1 es' k h1 (h2.up hl)

/-- how many cells a block of a slice that grows really has -/
def Room (P : Program) (k : Nat) : CObj → Obj → Prop
  | .cells _ t, .cells c _ _ => k = 0 ∨ ∀ i, P.info? t = some i → c.size = k * i.size
  | _, _ => True
/-- The state s knows what the canonical memory says, by ρ; F: what else it owns, left alone; R: what it knows that nobody writes. -/
structure Rel (P : Program) (ρ : Ren) (m : Mem) (F : Nat × Obj → Prop) (R : Nat → Option Obj) (s : St) : Prop where
  len : ∀ i, m.next ≤ i → ρ i = none
  fits : m.next < 2 ^ depthT
  out : ∀ i, m.next ≤ i → m.t.get i = none
  blk : ∀ i c, m.t.get i = some c → ∃ b k o', ρ i = some (b, k) ∧ OR ρ c.o o' ∧ Room P k c.o o' ∧ (if c.ro = true then s.ro b = some o' else (b, o') ∈ s.rw)
  inj : ∀ i j ci cj b k k', m.t.get i = some ci → m.t.get j = some cj → ci.ro = false → cj.ro = false → ρ i = some (b, k) → ρ j = some (b, k') → i = j
  frame : ∀ x, F x → x ∈ s.rw
  apart : ∀ i c b k o, m.t.get i = some c → c.ro = false → ρ i = some (b, k) → ¬ F (b, o)
  ro : s.ro = R
theorem Rel.has {P : Program} {ρ : Ren} {m : Mem} {F : Nat × Obj → Prop} {R : Nat → Option Obj} {s : St} (h : Rel P ρ m F R s) {i : Nat} {c : CB} (hi : m.t.get i = some c) : ∃ b k o', ρ i = some (b, k) ∧ OR ρ c.o o' ∧ s.has b o' := by
  obtain ⟨b, k, o', h1, h2, _, h3⟩ := h.blk i c hi
  refine ⟨b, k, o', h1, h2, ?_⟩
  cases hc : c.ro with
  | true => rw [hc, if_pos rfl] at h3; exact .inl h3
  | false => rw [hc, if_neg (by simp)] at h3; exact .inr h3

theorem ER.geto {ρ : Ren} : ∀ {l l' : Env}, ER ρ l l' → ∀ {t : Nat} {v : Value}, geto l t = some v → ∃ v', geto l' t = some v' ∧ VR ρ v v'
  | _, _, .nil, t, v, h => by simp [L.geto] at h
  | _, _, .cons k x x' l l' h1 h2, t, v, h => by
    simp only [L.geto] at h ⊢
    cases hb : Nat.beq k t with
    | true => rw [hb] at h; simp only [cond_true, Option.some.injEq] at h; subst h; exact ⟨x', by simp, h1⟩
    | false => rw [hb] at h; simp only [cond_false] at h; obtain ⟨v', k1, k2⟩ := h2.geto h; exact ⟨v', by simpa using k1, k2⟩

/-- An operand; constants have to be flat. -/
def evc (n : Nat) (ce : Env) : Operand → Option Value
  | .tmp t => bif Nat.blt t n then geto ce t else none
  | .const v => bif flat v then some v else none
  | .global _ => none
  | .func f => some (.func (.func f) #[] #[])
def evcL (n : Nat) (ce : Env) : List Operand → Option (List Value)
  | [] => some []
  | x :: l => match evc n ce x with
    | some v => match evcL n ce l with
      | some r => some (v :: r)
      | none => none
    | none => none
theorem geto_app {e rest : Env} {t : Nat} {v : Value} (h : geto e t = some v) : geto (e ++ rest) t = some v := by
  induction e with
  | nil => cases h
  | cons x e ih =>
    rcases x with ⟨k, u⟩
    simp only [geto, List.cons_append] at h ⊢
    cases hb : Nat.beq k t with
    | true => rw [hb] at h; exact h
    | false => rw [hb] at h; exact ih h
theorem evo_app {n : Nat} {e rest : Env} {x : Operand} {v : Value} (h : evo n e x = some v) : evo n (e ++ rest) x = some v := by
  cases x with
  | tmp t =>
    simp only [evo] at h ⊢
    cases hb : Nat.blt t n with
    | true => rw [hb] at h; exact geto_app h
    | false => rw [hb] at h; cases h
  | _ => exact h
theorem evl_app {n : Nat} {e rest : Env} : ∀ {xs : List Operand} {vs : List Value}, evl n e xs = some vs → evl n (e ++ rest) xs = some vs
  | [], vs, h => h
  | x :: xs, vs, h => by
    simp only [evl] at h ⊢
    cases hx : evo n e x with
    | none => rw [hx] at h; cases h
    | some v =>
      rw [hx] at h
      cases hr : evl n e xs with
      | none => rw [hr] at h; cases h
      | some r => rw [hr] at h; rw [evo_app hx, evl_app hr]; exact h
theorem ER.evc {ρ : Ren} {n : Nat} {ce e : Env} (h : ER ρ ce e) {x : Operand} {v : Value} (hx : evc n ce x = some v) : ∃ v', evo n e x = some v' ∧ VR ρ v v' := by
  cases x with
  | tmp t =>
    simp only [L.evc, evo] at hx ⊢
    cases hb : Nat.blt t n with
    | true => rw [hb] at hx; exact h.geto hx
    | false => rw [hb] at hx; cases hx
  | const u =>
    simp only [L.evc] at hx
    cases hf : flat u with
    | true => rw [hf] at hx; simp only [cond_true, Option.some.injEq] at hx; subst hx; exact ⟨u, rfl, flat_vr hf⟩
    | false => rw [hf] at hx; cases hx
  | global g => cases hx
  | func f => simp only [L.evc, Option.some.injEq] at hx; subst hx; exact ⟨_, rfl, .func _ [] [] [] [] rfl .nil .nil⟩
theorem ER.evcL {ρ : Ren} {n : Nat} {ce e : Env} (h : ER ρ ce e) : ∀ {xs : List Operand} {vs : List Value}, evcL n ce xs = some vs → ∃ vs', evl n e xs = some vs' ∧ VRs ρ vs vs'
  | [], vs, hx => by simp only [L.evcL, Option.some.injEq] at hx; subst hx; exact ⟨[], rfl, .nil⟩
  | x :: xs, vs, hx => by
    simp only [L.evcL] at hx
    cases h1 : L.evc n ce x with
    | none => rw [h1] at hx; cases hx
    | some v =>
      rw [h1] at hx
      cases h2 : L.evcL n ce xs with
      | none => rw [h2] at hx; cases hx
      | some r =>
        rw [h2] at hx; simp only [Option.some.injEq] at hx; subst hx
        obtain ⟨v', k1, k2⟩ := h.evc h1
        obtain ⟨r', k3, k4⟩ := h.evcL h2
        exact ⟨v' :: r', by simp only [evl, k1, k3], .cons _ _ _ _ k2 k4⟩
end Go.L
namespace Go.L
open Go Go.Conc

/-! ### What the tables say of a type, by running -/
structure TI where
  d : TypeDesc
  size : Nat
  zero : List Value
  agg : Bool
def isAggD : TypeDesc → Bool
  | .struct _ | .array _ _ => true
  | _ => false
def zeroOk : Bool → Value → Option (List Value)
  | true, .agg ⟨l⟩ => some l
  | true, _ => none
  | false, .agg _ => none
  | false, v => some [v]
def tinfo (P : Program) (t : TypeId) : Option TI :=
  match P.underlying t with
  | some d => match P.info? t with
    | some i => match i.zero with
      | some z => match zeroOk (isAggD d) z with
        | some l => some ⟨d, i.size, l, isAggD d⟩
        | none => none
      | none => none
    | none => none
  | none => none
theorem tf_tinfo {P : Program} {t : TypeId} {x : TI} (h : tinfo P t = some x) : ∃ by_, TF P t x.d x.size by_ x.zero x.agg := by
  unfold tinfo at h
  split at h <;> try (cases h; done)
  rename_i d hd
  split at h <;> try (cases h; done)
  rename_i i hi
  split at h <;> try (cases h; done)
  rename_i z hz
  split at h <;> try (cases h; done)
  rename_i l hl
  cases h
  refine ⟨i.bytes, hd, ⟨i, hi, rfl, rfl, z, hz, ?_, ?_⟩, ?_⟩
  · revert hl
    simp only
    cases hb : isAggD d
    · intro hl; cases z <;> simp_all [zeroOk, Value.cells]
    · intro hl; cases z <;> simp_all [zeroOk, Value.cells]
      cases hl; rfl
  · revert hl
    simp only
    cases hb : isAggD d
    · intro hl; cases z <;> simp_all [zeroOk] <;> subst hl <;> rfl
    · intro hl; cases z <;> simp_all [zeroOk]
      cases hl; rfl
  · cases d <;> rfl

/-! ### Operations that look at nothing but their operands -/
def runPure (P : Program) {α : Type} : Sem α → Option α
  | .pure a => some a
  | .program k => runPure P (k P)
  | _ => none
theorem runPure_tri {P : Program} {α : Type} : ∀ {x : Sem α} {a : α}, runPure P x = some a → ∀ {s : St} {Q : α → St → Prop} {E : Halt → St → Prop}, Q a s → tri P x s Q E
  | .pure _, _, h, _, _, _, hq => by simp only [runPure, Option.some.injEq] at h; subst h; exact hq
  | .program k, _, h, _, _, _, hq => runPure_tri (x := k P) h hq
  | .load .., _, h, _, _, _, _ => by cases h
  | .store .., _, h, _, _, _, _ => by cases h
  | .new .., _, h, _, _, _, _ => by cases h
  | .shape .., _, h, _, _, _, _ => by cases h
  | .freeze .., _, h, _, _, _, _ => by cases h
  | .frozen .., _, h, _, _, _, _ => by cases h
  | .getObj .., _, h, _, _, _, _ => by cases h
  | .setObj .., _, h, _, _, _, _ => by cases h
  | .choose .., _, h, _, _, _, _ => by cases h
  | .sys .., _, h, _, _, _, _ => by cases h
  | .mark .., _, h, _, _, _, _ => by cases h
  | .halt .., _, h, _, _, _, _ => by cases h

theorem runPure_bind {P : Program} {α β : Type} {x : Sem α} {a : α} {k : α → Sem β} {s : St} {Q : β → St → Prop} {E : Halt → St → Prop} (h : runPure P x = some a) (hk : tri P (k a) s Q E) : tri P (x >>= k) s Q E :=
  tri_bind x k s Q E (runPure_tri h hk)
/-- f evaluates operands as e does, where e says anything. -/
def Ev (n : Nat) (e : Env) (f : Operand → Value) : Prop := ∀ x v, evo n e x = some v → f x = v
theorem Ev.list {n : Nat} {e : Env} {f : Operand → Value} (h : Ev n e f) : ∀ {xs : List Operand} {vs : List Value}, evl n e xs = some vs → xs.map f = vs
  | [], vs, hx => by simpa [evl] using hx
  | x :: xs, vs, hx => by
    simp only [evl] at hx
    cases h1 : evo n e x with
    | none => rw [h1] at hx; cases hx
    | some v =>
      rw [h1] at hx
      cases h2 : evl n e xs with
      | none => rw [h2] at hx; cases hx
      | some r => rw [h2] at hx; simp only [Option.some.injEq] at hx; subst hx; simp [h _ _ h1, Ev.list h h2]
theorem Ev.arr {n : Nat} {e : Env} {f : Operand → Value} (h : Ev n e f) {xs : Array Operand} {vs : List Value} (hx : evl n e xs.toList = some vs) : xs.map f = ⟨vs⟩ := by
  have := h.list hx
  rcases xs with ⟨xs⟩
  simpa using this
/-- What an operation that only looks at its operands comes to: v, whatever is known besides. -/
def Yields (P : Program) (n : Nat) (e : Env) (o : Oper) (s : St) (v : Value) : Prop :=
  ∀ s', Ext s s' → ∀ f, Ev n e f → ∀ (K : Next → St → Prop) (E : Halt → St → Prop), K (.value v) s' → tri P (execOp f o) s' K E

/-- the operations whose outcome depends on flat operands alone -/
def pureOp : Op → Option (List Operand)
  | .binOp _ _ x y _ => some [x, y]
  | .unOp _ _ x => some [x]
  | .convert _ _ x => some [x]
  | .index _ x y => some [x, y]
  | .field _ x _ => some [x]
  | .slice _ x none none none => some [x]
  | .slice _ x (some a) none none => some [x, a]
  | .slice _ x none (some a) none => some [x, a]
  | .slice _ x (some a) (some b) none => some [x, a, b]
  | .call ⟨.builtin .min, xs, _⟩ => some xs.toList
  | .call ⟨.builtin .max, xs, _⟩ => some xs.toList
  | .typeAssert x _ _ _ => some [x]
  | _ => none
theorem pureOp_congr {o : Oper} {xs : List Operand} (h : pureOp o.op = some xs) {f g : Operand → Value} (hfg : ∀ x ∈ xs, f x = g x) : execOp f o = execOp g o := by
  unfold pureOp at h
  split at h <;> try (cases h; done)
  all_goals (rename_i heq; simp only [Option.some.injEq] at h; subst h)
  all_goals first
    | (simp [execOp, heq, hfg]; done)
    | (simp only [execOp, heq, resolve]
       rename_i xs at_
       have : xs.map f = xs.map g := by
         apply Array.map_congr_left
         intro a ha; exact hfg a (by simpa using ha)
       rw [this])

def flatOps (n : Nat) (ce : Env) : List Operand → Bool
  | [] => true
  | x :: l => (match evc n ce x with
    | some v => flat v
    | none => false) && flatOps n ce l
def evd (n : Nat) (ce : Env) (x : Operand) : Value := (evc n ce x).getD undef
theorem flatOps_ev {ρ : Ren} {n : Nat} {ce e : Env} (he : ER ρ ce e) {f : Operand → Value} (hf : Ev n e f) : ∀ {xs : List Operand}, flatOps n ce xs = true → ∀ x ∈ xs, f x = evd n ce x
  | y :: l, h, x, hx => by
    simp only [flatOps, Bool.and_eq_true] at h
    rcases List.mem_cons.1 hx with rfl | hx
    · cases hv : evc n ce x with
      | none => rw [hv] at h; simp at h
      | some v =>
        rw [hv] at h
        obtain ⟨v', h1, h2⟩ := he.evc hv
        rw [hf _ _ h1, flat_eq h.1 h2, evd, hv]; rfl
    · exact flatOps_ev he hf h.2 x hx

def pureV (P : Program) (n : Nat) (ce : Env) (o : Oper) : Option Value :=
  match pureOp o.op with
  | some xs => bif flatOps n ce xs then (match runPure P (execOp (evd n ce) o) with
    | some (.value v) => bif flat v then some v else none
    | _ => none) else none
  | none => none
theorem pureV_ok {P : Program} {ρ : Ren} {n : Nat} {ce e : Env} (he : ER ρ ce e) {o : Oper} {v : Value} {s : St} (h : pureV P n ce o = some v) : ∃ v', VR ρ v v' ∧ Yields P n e o s v' := by
  unfold pureV at h
  split at h <;> try (cases h; done)
  rename_i xs hxs
  cases hfl : flatOps n ce xs with
  | false => rw [hfl] at h; cases h
  | true =>
    rw [hfl] at h
    simp only [cond_true] at h
    split at h <;> try (cases h; done)
    rename_i u hu
    cases hfv : flat u with
    | false => rw [hfv] at h; cases h
    | true =>
      rw [hfv] at h
      simp only [cond_true, Option.some.injEq] at h
      subst h
      refine ⟨u, flat_vr hfv, fun s' _ f hf K E hK => ?_⟩
      rw [pureOp_congr hxs (flatOps_ev he hf hfl)]
      exact runPure_tri hu hK
end Go.L
namespace Go.L
open Go Go.Conc

theorem VRs.nth {ρ : Ren} : ∀ {l l' : List Value}, VRs ρ l l' → ∀ {i : Nat} {v : Value}, nth l i = some v → ∀ x, ∃ v', L.nth (l' ++ x) i = some v' ∧ VR ρ v v'
  | _, _, .nil, i, v, h, x => by simp [L.nth] at h
  | _, _, .cons y y' l l' h1 h2, 0, v, h, x => by simp [L.nth] at h; subst h; exact ⟨y', rfl, h1⟩
  | _, _, .cons y y' l l' h1 h2, i + 1, v, h, x => by
    simp only [L.nth] at h
    obtain ⟨v', k1, k2⟩ := h2.nth h x
    exact ⟨v', k1, k2⟩
theorem VRs.takeO {ρ : Ren} : ∀ {l l' : List Value}, VRs ρ l l' → ∀ {n : Nat} {vs : List Value}, takeO l n = some vs → ∀ x, ∃ vs', L.takeO (l' ++ x) n = some vs' ∧ VRs ρ vs vs'
  | l, l', _, 0, vs, h, x => by simp [L.takeO] at h; subst h; exact ⟨[], by simp [L.takeO], .nil⟩
  | _, _, .nil, n + 1, vs, h, x => by simp [L.takeO] at h
  | _, _, .cons y y' l l' h1 h2, n + 1, vs, h, x => by
    simp only [L.takeO] at h
    cases hr : L.takeO l n with
    | none => rw [hr] at h; cases h
    | some r =>
      rw [hr] at h; simp only [Option.some.injEq] at h; subst h
      obtain ⟨r', k1, k2⟩ := h2.takeO hr x
      exact ⟨y' :: r', by simp only [List.cons_append, L.takeO, k1], .cons _ _ _ _ h1 k2⟩
theorem VRs.sub {ρ : Ren} : ∀ {l l' : List Value}, VRs ρ l l' → ∀ {o n : Nat} {vs : List Value}, sub l o n = some vs → ∀ x, ∃ vs', L.sub (l' ++ x) o n = some vs' ∧ VRs ρ vs vs'
  | l, l', hl, 0, n, vs, h, x => by
    have h : L.takeO l n = some vs := by cases l <;> exact h
    obtain ⟨vs', k1, k2⟩ := hl.takeO h x
    exact ⟨vs', by cases hh : (l' ++ x) <;> (rw [hh] at k1; exact k1), k2⟩
  | _, _, .nil, o + 1, n, vs, h, x => by simp [L.sub] at h
  | _, _, .cons y y' l l' h1 h2, o + 1, n, vs, h, x => by
    simp only [L.sub] at h
    obtain ⟨vs', k1, k2⟩ := h2.sub h x
    exact ⟨vs', k1, k2⟩

section ops
variable {P : Program} {ρ : Ren} {n : Nat} {ce e : Env} {o : Oper} {s : St} {v : Value} {m : Mem} {F : Nat × Obj → Prop} {R : Nat → Option Obj}

theorem yields_of {w : Value} (h : ∀ f, Ev n e f → execOp f o = Sem.pure (.value w)) : Yields P n e o s w :=
  fun s' _ f hf K E hK => by rw [h f hf]; exact hK

def moveV (n : Nat) (ce : Env) : Op → Option Value
  | .move x => evc n ce x
  | .assign x => evc n ce x
  | _ => none
theorem move_ok (he : ER ρ ce e) (h : moveV n ce o.op = some v) : ∃ v', VR ρ v v' ∧ Yields P n e o s v' := by
  unfold moveV at h
  split at h <;> try (cases h; done)
  all_goals
    rename_i x heq
    obtain ⟨v', k1, k2⟩ := he.evc h
    exact ⟨v', k2, yields_of fun f hf => by simp only [execOp, heq, hf _ _ k1]; rfl⟩

def pickV (n : Nat) (ce : Env) : Op → Option Value
  | .pick c x y => match evc n ce c with
    | some (.bool b) => bif b then evc n ce x else evc n ce y
    | _ => none
  | _ => none
theorem pick_ok (he : ER ρ ce e) (h : pickV n ce o.op = some v) : ∃ v', VR ρ v v' ∧ Yields P n e o s v' := by
  unfold pickV at h
  split at h <;> try (cases h; done)
  rename_i c x y heq
  split at h <;> try (cases h; done)
  rename_i b hb
  obtain ⟨c', k1, k2⟩ := he.evc hb
  cases k2
  cases b
  · simp only [cond_false] at h
    obtain ⟨v', k3, k4⟩ := he.evc h
    exact ⟨v', k4, yields_of fun f hf => by simp only [execOp, heq, hf _ _ k1, hf _ _ k3]; rfl⟩
  · simp only [cond_true] at h
    obtain ⟨v', k3, k4⟩ := he.evc h
    exact ⟨v', k4, yields_of fun f hf => by simp only [execOp, heq, hf _ _ k1, hf _ _ k3]; rfl⟩

def makeFuncV (n : Nat) (ce : Env) : Op → Option Value
  | .makeFunc f x y => bif plainFn f then (match evcL n ce x.toList with
    | some a => match evcL n ce y.toList with
      | some b => some (.func f ⟨a⟩ ⟨b⟩)
      | none => none
    | none => none) else none
  | _ => none
theorem makeFunc_ok (he : ER ρ ce e) (h : makeFuncV n ce o.op = some v) : ∃ v', VR ρ v v' ∧ Yields P n e o s v' := by
  unfold makeFuncV at h
  split at h <;> try (cases h; done)
  rename_i g x y heq
  cases hp : plainFn g with
  | false => rw [hp] at h; cases h
  | true =>
    rw [hp] at h
    simp only [cond_true] at h
    split at h <;> try (cases h; done)
    rename_i a ha
    split at h <;> try (cases h; done)
    rename_i b hb
    simp only [Option.some.injEq] at h; subst h
    obtain ⟨a', k1, k2⟩ := he.evcL ha
    obtain ⟨b', k3, k4⟩ := he.evcL hb
    exact ⟨_, .func g a b a' b' hp k2 k4, yields_of fun f hf => by simp only [execOp, heq, hf.arr k1, hf.arr k3]; rfl⟩

def extractV (n : Nat) (ce : Env) : Op → Option Value
  | .extract x k => match evc n ce x with
    | some (.tuple ⟨l⟩) => nth l k
    | _ => none
  | _ => none
theorem extract_ok (he : ER ρ ce e) (h : extractV n ce o.op = some v) : ∃ v', VR ρ v v' ∧ Yields P n e o s v' := by
  unfold extractV at h
  split at h <;> try (cases h; done)
  rename_i x k heq
  split at h <;> try (cases h; done)
  rename_i l hl
  obtain ⟨t', k1, k2⟩ := he.evc hl
  cases k2
  rename_i l' k2
  obtain ⟨v', k3, k4⟩ := k2.nth h []
  rw [List.append_nil, nth_eq] at k3
  exact ⟨v', k4, yields_of fun f hf => by simp [execOp, heq, hf _ _ k1, Instr.extract, k3]; rfl⟩

def nilOk : Value → Bool
  | .pointer (some _) => true
  | .iface _ _ => true
  | .func (.func _) _ _ => true
  | .slice _ _ _ => true
  | _ => false
/-- a method value of an interface whose receiver is no nil pointer -/
def nilMeth (P : Program) : Value → Bool
  | .func (.method name) ⟨.iface t w :: _⟩ _ => flat w && (match runPure P (nilAhead (P.types.size + Made.depth) t w name) with
    | some (some false) => true
    | _ => false)
  | _ => false
def nilCheckV (P : Program) (n : Nat) (ce : Env) : Op → Option Value
  | .nilCheck x => match evc n ce x with
    | some v => bif nilOk v || nilMeth P v then some v else none
    | _ => none
  | _ => none
theorem nilCheck_ok (he : ER ρ ce e) (h : nilCheckV P n ce o.op = some v) : ∃ v', VR ρ v v' ∧ Yields P n e o s v' := by
  unfold nilCheckV at h
  split at h <;> try (cases h; done)
  rename_i x heq
  split at h <;> try (cases h; done)
  rename_i u hu
  obtain ⟨v', k1, k2⟩ := he.evc hu
  cases hn : nilOk u with
  | true =>
    rw [hn] at h; simp only [Bool.true_or, cond_true, Option.some.injEq] at h; subst h
    refine ⟨v', k2, yields_of fun f hf => ?_⟩
    simp only [execOp, heq, hf _ _ k1]
    cases k2 <;> first
      | rfl
      | (simp [nilOk] at hn; done)
      | (rename_i g _ _ _ _ _ _ _; cases g <;> first | rfl | (simp [nilOk] at hn; done))
  | false =>
    rw [hn] at h
    cases hm : nilMeth P u with
    | false => rw [hm] at h; cases h
    | true =>
      rw [hm] at h; simp only [Bool.false_or, cond_true, Option.some.injEq] at h; subst h
      unfold nilMeth at hm
      split at hm <;> try (cases hm; done)
      rename_i name t w tl ca
      simp only [Bool.and_eq_true] at hm
      obtain ⟨hfl, hm⟩ := hm
      split at hm <;> try (cases hm; done)
      rename_i hna
      cases k2 with
      | func _ _ _ x' ca' hp hx' hca' =>
      cases hx' with
      | cons _ v1 _ l1 hv1 hl1 =>
      cases hv1 with
      | iface _ _ w' hw' =>
      have := flat_eq hfl hw'
      subst this
      refine ⟨_, .func _ _ _ _ _ hp (.cons _ _ _ _ (.iface t _ _ hw') hl1) hca', fun s' hs' f hf K E hK => ?_⟩
      have h0 : ((⟨Value.iface t w' :: l1⟩ : Array Value)[0]? : Option Value) = some (.iface t w') := by simp
      simp only [execOp, heq, hf _ _ k1, h0, t_bind, t_program]
      refine runPure_bind hna ?_
      simp only [bne_self_eq_false, Bool.false_eq_true, if_false, t_bind, t_pure]
      exact hK

def loadV (P : Program) (n : Nat) (ce : Env) (m : Mem) : Op → Option Value
  | .load T x => match evc n ce x with
    | some (.pointer (some ⟨i, off, none⟩)) => match m.t.get i with
      | some ⟨_, .cells l _⟩ => match tinfo P T with
        | some ti => bif ti.agg then (match sub l off ti.size with
          | some vs => some (.agg ⟨vs⟩)
          | none => none) else nth l off
        | none => none
      | _ => none
    | _ => none
  | _ => none
theorem load_ok (he : ER ρ ce e) (hr : Rel P ρ m F R s) (h : loadV P n ce m o.op = some v) : ∃ v', VR ρ v v' ∧ Yields P n e o s v' := by
  unfold loadV at h
  split at h <;> try (cases h; done)
  rename_i T x heq
  split at h <;> try (cases h; done)
  rename_i i off hx
  split at h <;> try (cases h; done)
  rename_i rb l t hm
  split at h <;> try (cases h; done)
  rename_i ti hti
  obtain ⟨by_, tf⟩ := tf_tinfo hti
  obtain ⟨p', k1, k2⟩ := he.evc hx
  cases k2
  rename_i b c hb
  obtain ⟨b2, c2, o', hb2, hor, hhas⟩ := hr.has hm
  rw [hb] at hb2; cases hb2
  cases hor
  rename_i l' x' hl
  cases ha : ti.agg with
  | true =>
    rw [ha] at h tf
    simp only [cond_true] at h
    split at h <;> try (cases h; done)
    rename_i vs hvs
    simp only [Option.some.injEq] at h; subst h
    obtain ⟨vs', k3, k4⟩ := hl.sub hvs x'
    refine ⟨_, .agg _ _ k4, fun s' hs' f hf K E hK => ?_⟩
    simp only [execOp, heq, Instr.loadAt, hf _ _ k1, Instr.sureAddr, loadVar, t_bind, t_pure, t_isAgg tf, if_true, t_size tf]
    exact t_loadCells ⟨_, _, _, hs' _ _ hhas, k3⟩ hK
  | false =>
    rw [ha] at h tf
    simp only [cond_false] at h
    obtain ⟨v', k3, k4⟩ := hl.nth h x'
    refine ⟨_, k4, fun s' hs' f hf K E hK => ?_⟩
    simp only [execOp, heq, Instr.loadAt, hf _ _ k1, Instr.sureAddr, loadVar, t_bind, t_pure, t_isAgg tf, Bool.false_eq_true, if_false]
    exact t_load ⟨_, _, _, hs' _ _ hhas, k3⟩ hK

def fieldAddrV (P : Program) (n : Nat) (ce : Env) : Op → Option Value
  | .fieldAddr T x k => match evc n ce x with
    | some (.pointer (some ⟨i, off, none⟩)) => match tinfo P T with
      | some ⟨.struct fields, _, _, _⟩ => match fields[k]? with
        | some f => match tinfo P f.type with
          | some ti => bif Nat.beq ti.size 0 then none else some (.pointer (some ⟨i, off + f.offset, none⟩))
          | none => none
        | none => none
      | _ => none
    | _ => none
  | _ => none
theorem fieldAddr_ok (he : ER ρ ce e) (h : fieldAddrV P n ce o.op = some v) : ∃ v', VR ρ v v' ∧ Yields P n e o s v' := by
  unfold fieldAddrV at h
  split at h <;> try (cases h; done)
  rename_i T x k heq
  split at h <;> try (cases h; done)
  rename_i i off hx
  split at h <;> try (cases h; done)
  rename_i fields _ _ _ hti
  split at h <;> try (cases h; done)
  rename_i fl hfl
  split at h <;> try (cases h; done)
  rename_i ti hti2
  obtain ⟨by_, tf⟩ := tf_tinfo hti
  obtain ⟨by2, tf2⟩ := tf_tinfo hti2
  cases h0 : Nat.beq ti.size 0 with
  | true => rw [h0] at h; cases h
  | false =>
    rw [h0] at h; simp only [cond_false, Option.some.injEq] at h; subst h
    have hne : ti.size ≠ 0 := fun e => by rw [e] at h0; cases h0
    obtain ⟨p', k1, k2⟩ := he.evc hx
    cases k2
    rename_i b c hb
    refine ⟨_, .ptr i b c _ hb, fun s' hs' f hf K E hK => ?_⟩
    simp only [execOp, heq, Instr.fieldAt, hf _ _ k1, Instr.sureAddr, fieldPlace, t_bind, t_pure, t_und tf, hfl, t_size tf2, hne, if_false, add_none]
    exact hK

def indexAddrV (P : Program) (n : Nat) (ce : Env) : Op → Option Value
  | .indexAddr T x y => match evc n ce y with
    | some (.int _ ix) => match tinfo P T with
      | some ⟨.slice E, _, _, _⟩ => match evc n ce x with
        | some (.slice (some ⟨i, off, none⟩) len _) => match tinfo P E with
          | some ti => bif (decide (0 ≤ ix) && Nat.blt ix.toNat len) then some (.pointer (some ⟨i, off + ix.toNat * ti.size, none⟩)) else none
          | none => none
        | _ => none
      | some ⟨.array len E, _, _, _⟩ => match evc n ce x with
        | some (.pointer (some ⟨i, off, none⟩)) => match tinfo P E with
          | some ti => bif (decide (0 ≤ ix) && Nat.blt ix.toNat len) then some (.pointer (some ⟨i, off + ix.toNat * ti.size, none⟩)) else none
          | none => none
        | _ => none
      | _ => none
    | _ => none
  | _ => none
theorem ixOk {ix : Int} {len : Nat} (h : (decide (0 ≤ ix) && Nat.blt ix.toNat len) = true) : 0 ≤ ix ∧ ix < len := by
  simp only [Bool.and_eq_true, decide_eq_true_eq, Nat.blt_eq] at h
  omega
theorem indexAddr_ok (he : ER ρ ce e) (h : indexAddrV P n ce o.op = some v) : ∃ v', VR ρ v v' ∧ Yields P n e o s v' := by
  unfold indexAddrV at h
  split at h <;> try (cases h; done)
  rename_i T x y heq
  split at h <;> try (cases h; done)
  rename_i ik ix hy
  obtain ⟨y', j1, j2⟩ := he.evc hy
  cases j2
  split at h <;> try (cases h; done)
  · rename_i E _ _ _ hti
    split at h <;> try (cases h; done)
    rename_i i off len k hx
    split at h <;> try (cases h; done)
    rename_i ti hti2
    obtain ⟨by_, tf⟩ := tf_tinfo hti
    obtain ⟨by2, tf2⟩ := tf_tinfo hti2
    cases hb0 : (decide (0 ≤ ix) && Nat.blt ix.toNat len) with
    | false => rw [hb0] at h; cases h
    | true =>
      rw [hb0] at h; simp only [cond_true, Option.some.injEq] at h; subst h
      have hix := ixOk hb0
      obtain ⟨p', k1, k2⟩ := he.evc hx
      cases k2 with
      | slice _ b c _ _ _ hb hk =>
        refine ⟨_, .ptr i b c _ hb, fun s' hs' f hf K E hK => ?_⟩
        simp only [execOp, heq, Instr.indexAt, hf _ _ k1, hf _ _ j1, asIntOf, t_bind, t_pure, t_und tf, hix, and_self, if_true, t_size tf2, add_none]
        exact hK
      | sliceU _ b c _ _ _ hb =>
        refine ⟨_, .ptr i b c _ hb, fun s' hs' f hf K E hK => ?_⟩
        simp only [execOp, heq, Instr.indexAt, hf _ _ k1, hf _ _ j1, asIntOf, t_bind, t_pure, t_und tf, hix, and_self, if_true, t_size tf2, add_none]
        exact hK
  · rename_i len E _ _ _ hti
    split at h <;> try (cases h; done)
    rename_i i off hx
    split at h <;> try (cases h; done)
    rename_i ti hti2
    obtain ⟨by_, tf⟩ := tf_tinfo hti
    obtain ⟨by2, tf2⟩ := tf_tinfo hti2
    cases hb0 : (decide (0 ≤ ix) && Nat.blt ix.toNat len) with
    | false => rw [hb0] at h; cases h
    | true =>
      rw [hb0] at h; simp only [cond_true, Option.some.injEq] at h; subst h
      have hix := ixOk hb0
      obtain ⟨p', k1, k2⟩ := he.evc hx
      cases k2
      rename_i b c hb
      refine ⟨_, .ptr i b c _ hb, fun s' hs' f hf K E hK => ?_⟩
      simp only [execOp, heq, Instr.indexAt, hf _ _ k1, hf _ _ j1, asIntOf, Instr.sureAddr, t_bind, t_pure, t_und tf, hix, and_self, if_true, t_size tf2, add_none]
      exact hK

def makeInterfaceV (P : Program) (n : Nat) (ce : Env) : Op → Option Value
  | .makeInterface T x => match evc n ce x with
    | some v => match tinfo P T with
      | some ⟨.interface _, _, _, _⟩ => none
      | some _ => some (.iface T v)
      | none => none
    | _ => none
  | _ => none
theorem makeInterface_ok (he : ER ρ ce e) (h : makeInterfaceV P n ce o.op = some v) : ∃ v', VR ρ v v' ∧ Yields P n e o s v' := by
  unfold makeInterfaceV at h
  split at h <;> try (cases h; done)
  rename_i T x heq
  split at h <;> try (cases h; done)
  rename_i u hx
  split at h <;> try (cases h; done)
  rename_i ti hni hti
  simp only [Option.some.injEq] at h; subst h
  obtain ⟨by_, tf⟩ := tf_tinfo hti
  obtain ⟨u', k1, k2⟩ := he.evc hx
  refine ⟨_, .iface T _ _ k2, fun s' hs' f hf K E hK => ?_⟩
  simp only [execOp, heq, Instr.makeInterface, hf _ _ k1, t_bind, t_und tf]
  rcases ti with ⟨d, sz, z, ag⟩
  cases d <;> first | exact hK | exact (hni _ _ _ _ rfl).elim

end ops
end Go.L
namespace Go.L
open Go Go.Conc

/-! ### Putting together -/
inductive PR (ρ : Ren) : List (Nat × List Value) → List (Nat × List Value) → Prop
  | nil : PR ρ [] []
  | cons (i : Nat) (l l' : List Value) (r r' : List (Nat × List Value)) : VRs ρ l l' → PR ρ r r' → PR ρ ((i, l) :: r) ((i, l') :: r')
theorem VRs.putL {ρ : Ren} : ∀ {l l' : List Value}, VRs ρ l l' → ∀ {vs vs' : List Value}, VRs ρ vs vs' → ∀ (o : Nat), VRs ρ (putL l o vs) (L.putL l' o vs')
  | _, _, .nil, vs, vs', _, o => by simp only [L.putL]; exact .nil
  | _, _, .cons y y' l l' h1 h2, _, _, .nil, o => by simp only [L.putL]; exact .cons _ _ _ _ h1 h2
  | _, _, .cons y y' l l' h1 h2, _, _, .cons v v' vs vs' k1 k2, 0 => by simp only [L.putL]; exact .cons _ _ _ _ k1 (h2.putL k2 0)
  | _, _, .cons y y' l l' h1 h2, _, _, .cons v v' vs vs' k1 k2, o + 1 => by simp only [L.putL]; exact .cons _ _ _ _ h1 (h2.putL (.cons _ _ _ _ k1 k2) o)
theorem fillL_vr {ρ : Ren} (place : Nat → Option (Nat × Nat)) : ∀ {ps ps' : List (Nat × List Value)}, PR ρ ps ps' → ∀ {z z' l : List Value}, VRs ρ z z' → fillL place z ps = some l → ∃ l', fillL place z' ps' = some l' ∧ VRs ρ l l'
  | _, _, .nil, z, z', l, hz, h => by simp only [fillL, Option.some.injEq] at h; subst h; exact ⟨z', rfl, hz⟩
  | _, _, .cons i vs vs' r r' h1 h2, z, z', l, hz, h => by
    simp only [fillL] at h ⊢
    cases hp : place i with
    | none => rw [hp] at h; cases h
    | some x =>
      rcases x with ⟨off, size⟩
      rw [hp] at h
      simp only at h ⊢
      rw [← h1.len, ← hz.len]
      cases hb : (Nat.beq vs.length size && Nat.ble (off + vs.length) z.length) with
      | false => rw [hb] at h; cases h
      | true =>
        rw [hb] at h
        simp only [cond_true] at h ⊢
        exact fillL_vr place h2 (hz.putL h1 off) h
def evcp (n : Nat) (ce : Env) : List (Nat × Operand) → Option (List (Nat × List Value))
  | [] => some []
  | (i, x) :: l => match evc n ce x with
    | some v => match evcp n ce l with
      | some r => some ((i, cellsL v) :: r)
      | none => none
    | none => none
theorem cells_vr {ρ : Ren} {v v' : Value} (h : VR ρ v v') : VRs ρ (cellsL v) (cellsL v') := by
  cases h with
  | agg l l' h => exact h
  | bool b => exact .cons _ _ _ _ (.bool b) .nil
  | int k n => exact .cons _ _ _ _ (.int k n) .nil
  | string b => exact .cons _ _ _ _ (.string b) .nil
  | ptr0 => exact .cons _ _ _ _ .ptr0 .nil
  | ptr i b c o h => exact .cons _ _ _ _ (.ptr i b c o h) .nil
  | slice0 l c => exact .cons _ _ _ _ (.slice0 l c) .nil
  | slice i b c o l k h hk => exact .cons _ _ _ _ (.slice i b c o l k h hk) .nil
  | sliceU i b c o l k h h1 h2 h3 => exact .cons _ _ _ _ (.sliceU i b c o l k h h1 h2 h3) .nil
  | map0 => exact .cons _ _ _ _ .map0 .nil
  | map i b c h => exact .cons _ _ _ _ (.map i b c h) .nil
  | chan0 => exact .cons _ _ _ _ .chan0 .nil
  | chan i b c h => exact .cons _ _ _ _ (.chan i b c h) .nil
  | func f x y x' y' hf h1 h2 => exact .cons _ _ _ _ (.func f x y x' y' hf h1 h2) .nil
  | yield i b c h => exact .cons _ _ _ _ (.yield i b c h) .nil
  | nilFunc => exact .cons _ _ _ _ .nilFunc .nil
  | iface t v v' h => exact .cons _ _ _ _ (.iface t v v' h) .nil
  | nilIface => exact .cons _ _ _ _ .nilIface .nil
  | tuple l l' h => exact .cons _ _ _ _ (.tuple l l' h) .nil
theorem evcp_ok {ρ : Ren} {n : Nat} {ce e : Env} (he : ER ρ ce e) : ∀ {xs : List (Nat × Operand)} {ps : List (Nat × List Value)}, evcp n ce xs = some ps → ∃ pv, evp n e xs = some pv ∧ PR ρ ps (partsL pv)
  | [], ps, h => by simp only [evcp, Option.some.injEq] at h; subst h; exact ⟨[], rfl, .nil⟩
  | (i, x) :: l, ps, h => by
    simp only [evcp] at h
    cases h1 : evc n ce x with
    | none => rw [h1] at h; cases h
    | some v =>
      rw [h1] at h
      cases h2 : evcp n ce l with
      | none => rw [h2] at h; cases h
      | some r =>
        rw [h2] at h; simp only [Option.some.injEq] at h; subst h
        obtain ⟨v', k1, k2⟩ := he.evc h1
        obtain ⟨r', k3, k4⟩ := evcp_ok he h2
        exact ⟨(i, v') :: r', by simp only [evp, k1, k3], .cons _ _ _ _ _ (cells_vr k2) k4⟩
theorem Ev.parts {n : Nat} {e : Env} {f : Operand → Value} (hf : Ev n e f) : ∀ {xs : List (Nat × Operand)} {l : List (Nat × Value)}, evp n e xs = some l → xs.map (fun x => (x.1, f x.2)) = l
  | [], l, h => by simpa [evp] using h
  | (i, x) :: xs, l, h => by
    simp only [evp] at h
    cases hx : evo n e x with
    | none => rw [hx] at h; cases h
    | some v =>
      rw [hx] at h
      cases hr : evp n e xs with
      | none => rw [hr] at h; cases h
      | some r => rw [hr] at h; simp only [Option.some.injEq] at h; subst h; simp [hf _ _ hx, Ev.parts hf hr]
theorem Ev.partsA {n : Nat} {e : Env} {f : Operand → Value} (hf : Ev n e f) {ps : Array (Nat × Operand)} {l : List (Nat × Value)} (h : evp n e ps.toList = some l) : (ps.map fun x => (x.1, f x.2)).toList = l := by
  rw [Array.toList_map]; exact hf.parts h
def placesV (P : Program) : List Field → Option (List (Nat × Nat))
  | [] => some []
  | f :: fs => match tinfo P f.type with
    | some ti => match placesV P fs with
      | some r => some ((f.offset, ti.size) :: r)
      | none => none
    | none => none
theorem placesV_ok {P : Program} : ∀ {fs : List Field} {pl : List (Nat × Nat)}, placesV P fs = some pl → Places P fs pl
  | [], pl, h => by simp only [placesV, Option.some.injEq] at h; subst h; exact .nil
  | f :: fs, pl, h => by
    simp only [placesV] at h
    split at h <;> try (cases h; done)
    rename_i ti hti
    split at h <;> try (cases h; done)
    rename_i r hr
    simp only [Option.some.injEq] at h; subst h
    obtain ⟨by_, tf⟩ := tf_tinfo hti
    exact .cons tf (placesV_ok hr)
theorem flatAll_vr {ρ : Ren} : ∀ {l : List Value}, flatAll flat l = true → VRs ρ l l
  | [], _ => .nil
  | v :: l, h => by simp only [flatAll, Bool.and_eq_true] at h; exact .cons _ _ _ _ (flat_vr h.1) (flatAll_vr h.2)

section ops
variable {P : Program} {ρ : Ren} {n : Nat} {ce e : Env} {o : Oper} {s : St} {v : Value} {m : Mem} {F : Nat × Obj → Prop} {R : Nat → Option Obj}

def buildV (P : Program) (n : Nat) (ce : Env) : Op → Option Value
  | .build T ps => match tinfo P T with
    | some ⟨.struct fields, _, z, _⟩ => bif flatAll flat z then (match placesV P fields.toList with
      | some pl => match evcp n ce ps.toList with
        | some pv => match fillL (fun i => pl[i]?) z pv with
          | some l => some (.agg ⟨l⟩)
          | none => none
        | none => none
      | none => none) else none
    | some ⟨.array _ E, _, z, _⟩ => bif flatAll flat z then (match tinfo P E with
      | some te => match evcp n ce ps.toList with
        | some pv => match fillL (fun i => some (i * te.size, te.size)) z pv with
          | some l => some (.agg ⟨l⟩)
          | none => none
        | none => none
      | none => none) else none
    | _ => none
  | _ => none
theorem build_ok (he : ER ρ ce e) (h : buildV P n ce o.op = some v) : ∃ v', VR ρ v v' ∧ Yields P n e o s v' := by
  unfold buildV at h
  split at h <;> try (cases h; done)
  rename_i T ps heq
  split at h <;> try (cases h; done)
  · rename_i fields _ z _ hti
    obtain ⟨by_, tf⟩ := tf_tinfo hti
    cases hz : flatAll flat z with
    | false => rw [hz] at h; cases h
    | true =>
      rw [hz] at h; simp only [cond_true] at h
      split at h <;> try (cases h; done)
      rename_i pl hpl
      split at h <;> try (cases h; done)
      rename_i pv hpv
      split at h <;> try (cases h; done)
      rename_i l hl
      simp only [Option.some.injEq] at h; subst h
      obtain ⟨pv', k1, k2⟩ := evcp_ok he hpv
      obtain ⟨l', k3, k4⟩ := fillL_vr _ k2 (flatAll_vr hz) hl
      refine ⟨_, .agg _ _ k4, fun s' hs' f hf K E hK => ?_⟩
      simp only [execOp, heq, Instr.build, t_bind, t_zero tf, t_und tf, zval_cells tf]
      rw [Array.mapM_eq_mapM_toList]
      simp only [map_eq_pure_bind, t_bind, t_pure]
      rw [t_mapM_places (placesV_ok hpl)]
      rw [partsL_eq] at k3
      have h1 := fill_eq _ _ _ _ k3
      have h3 : (fun x => (pl.toArray)[x]? : Nat → Option (Nat × Nat)) = fun i => pl[i]? := by funext i; simp
      simp only [h3, hf.partsA k1, h1, t_pure]
      exact hK
  · rename_i len E _ z _ hti
    obtain ⟨by_, tf⟩ := tf_tinfo hti
    cases hz : flatAll flat z with
    | false => rw [hz] at h; cases h
    | true =>
      rw [hz] at h; simp only [cond_true] at h
      split at h <;> try (cases h; done)
      rename_i te hte
      obtain ⟨by2, tf2⟩ := tf_tinfo hte
      split at h <;> try (cases h; done)
      rename_i pv hpv
      split at h <;> try (cases h; done)
      rename_i l hl
      simp only [Option.some.injEq] at h; subst h
      obtain ⟨pv', k1, k2⟩ := evcp_ok he hpv
      obtain ⟨l', k3, k4⟩ := fillL_vr _ k2 (flatAll_vr hz) hl
      refine ⟨_, .agg _ _ k4, fun s' hs' f hf K E hK => ?_⟩
      simp only [execOp, heq, Instr.build, t_bind, t_zero tf, t_und tf, zval_cells tf, t_size tf2]
      rw [partsL_eq] at k3
      have h1 := fill_eq _ _ _ _ k3
      simp only [hf.partsA k1, h1, t_pure]
      exact hK

/-- part of what lies in a value -/
def partV (P : Program) (t : TypeId) (l : List Value) (off : Nat) : Option Value :=
  match tinfo P t with
  | some ti => bif ti.agg then (match sub l off ti.size with
    | some m => some (.agg ⟨m⟩)
    | none => none) else nth l off
  | none => none
theorem partV_ok {t : TypeId} {l l' : List Value} {off : Nat} (hl : VRs ρ l l') (h : partV P t l off = some v) : ∃ v', VR ρ v v' ∧ ∀ {α : Type} (k : Value → Sem α) (Q : α → St → Prop) (E : Halt → St → Prop) (s : St), tri P (part t ⟨l'⟩ off >>= k) s Q E = tri P (k v') s Q E := by
  unfold partV at h
  split at h <;> try (cases h; done)
  rename_i ti hti
  obtain ⟨by_, tf⟩ := tf_tinfo hti
  cases ha : ti.agg with
  | true =>
    rw [ha] at h tf; simp only [cond_true] at h
    split at h <;> try (cases h; done)
    rename_i m hm
    simp only [Option.some.injEq] at h; subst h
    obtain ⟨m', k1, k2⟩ := hl.sub hm []
    rw [List.append_nil] at k1
    exact ⟨_, .agg _ _ k2, fun k Q E s => t_partA tf k1⟩
  | false =>
    rw [ha] at h tf; simp only [cond_false] at h
    obtain ⟨v', k1, k2⟩ := hl.nth h []
    rw [List.append_nil] at k1
    exact ⟨_, k2, fun k Q E s => t_part0 tf k1⟩
def fieldV (P : Program) (n : Nat) (ce : Env) : Op → Option Value
  | .field T x k => match evc n ce x with
    | some (.agg ⟨l⟩) => match tinfo P T with
      | some ⟨.struct fields, _, _, _⟩ => match fields[k]? with
        | some f => partV P f.type l f.offset
        | none => none
      | _ => none
    | _ => none
  | _ => none
theorem field_ok (he : ER ρ ce e) (h : fieldV P n ce o.op = some v) : ∃ v', VR ρ v v' ∧ Yields P n e o s v' := by
  unfold fieldV at h
  split at h <;> try (cases h; done)
  rename_i T x k heq
  split at h <;> try (cases h; done)
  rename_i l hx
  split at h <;> try (cases h; done)
  rename_i fields _ _ _ hti
  split at h <;> try (cases h; done)
  rename_i fl hfl
  obtain ⟨by_, tf⟩ := tf_tinfo hti
  obtain ⟨u', k1, k2⟩ := he.evc hx
  cases k2
  rename_i l' k2
  obtain ⟨v', k3, k4⟩ := partV_ok k2 h
  refine ⟨_, k3, fun s' hs' f hf K E hK => ?_⟩
  simp only [execOp, heq, Instr.field, hf _ _ k1, t_bind, t_und tf, hfl, asAgg, t_pure]
  rw [k4]
  exact hK
def indexV (P : Program) (n : Nat) (ce : Env) : Op → Option Value
  | .index T x y => match evc n ce y with
    | some (.int _ ix) => match evc n ce x with
      | some (.agg ⟨l⟩) => match tinfo P T with
        | some ⟨.array len E, _, _, _⟩ => match tinfo P E with
          | some te => bif (decide (0 ≤ ix) && Nat.blt ix.toNat len) then partV P E l (ix.toNat * te.size) else none
          | none => none
        | _ => none
      | _ => none
    | _ => none
  | _ => none
theorem index_ok (he : ER ρ ce e) (h : indexV P n ce o.op = some v) : ∃ v', VR ρ v v' ∧ Yields P n e o s v' := by
  unfold indexV at h
  split at h <;> try (cases h; done)
  rename_i T x y heq
  split at h <;> try (cases h; done)
  rename_i ik ix hy
  split at h <;> try (cases h; done)
  rename_i l hx
  split at h <;> try (cases h; done)
  rename_i len E _ _ _ hti
  split at h <;> try (cases h; done)
  rename_i te hte
  obtain ⟨by_, tf⟩ := tf_tinfo hti
  obtain ⟨by2, tf2⟩ := tf_tinfo hte
  cases hb0 : (decide (0 ≤ ix) && Nat.blt ix.toNat len) with
  | false => rw [hb0] at h; cases h
  | true =>
    rw [hb0] at h; simp only [cond_true] at h
    have hix := ixOk hb0
    obtain ⟨y', j1, j2⟩ := he.evc hy
    cases j2
    obtain ⟨u', k1, k2⟩ := he.evc hx
    cases k2
    rename_i l' k2
    obtain ⟨v', k3, k4⟩ := partV_ok k2 h
    refine ⟨_, k3, fun s' hs' f hf K E hK => ?_⟩
    simp only [execOp, heq, Instr.index, hf _ _ k1, hf _ _ j1, asIntOf, t_bind, t_pure, t_und tf, hix, and_self, if_true, t_size tf2]
    rw [k4]
    exact hK

/-- len of what need not be flat -/
def lenV (P : Program) (n : Nat) (ce : Env) (m : Mem) : Op → Option Value
  | .call ⟨.builtin .len, xs, ts⟩ => match xs.toList, ts.toList with
    | [x], [T] => match evc n ce x with
      | some (.slice _ len _) => match tinfo P T with
        | some ⟨.slice _, _, _, _⟩ => some (.int .i64 len)
        | _ => none
      | some (.string b) => match tinfo P T with
        | some ⟨.string, _, _, _⟩ => some (.int .i64 b.size)
        | _ => none
      | some (.map (some i)) => match tinfo P T with
        | some ⟨.map _ _, _, _, _⟩ => match m.t.get i with
          | some ⟨_, .map es _⟩ => some (.int .i64 es.length)
          | _ => none
        | _ => none
      | _ => none
    | _, _ => none
  | _ => none
theorem MRs.len {ρ : Ren} : ∀ {l : List MEnt} {l' : List MapEntry}, MRs ρ l l' → l.length = l'.length
  | _, _, .nil => rfl
  | _, _, .cons _ _ _ _ _ _ _ _ _ h => by simp [h.len]
theorem arr1 {α : Type} {xs : Array α} {x : α} (h : xs.toList = [x]) : xs = #[x] := by
  rcases xs with ⟨xs⟩; simp only at h; rw [h]
theorem len_ok (he : ER ρ ce e) (hr : Rel P ρ m F R s) (h : lenV P n ce m o.op = some v) : ∃ v', VR ρ v v' ∧ Yields P n e o s v' := by
  unfold lenV at h
  split at h <;> try (cases h; done)
  rename_i xs ts heq
  split at h <;> try (cases h; done)
  rename_i x T hxs hts
  have hxs := arr1 hxs
  have hts := arr1 hts
  subst hxs hts
  split at h <;> try (cases h; done)
  · rename_i a len k hx
    split at h <;> try (cases h; done)
    rename_i hti
    simp only [Option.some.injEq] at h; subst h
    obtain ⟨by_, tf⟩ := tf_tinfo hti
    obtain ⟨u', k1, k2⟩ := he.evc hx
    refine ⟨_, .int _ _, fun s' hs' f hf K E hK => ?_⟩
    cases k2 <;>
    · simp only [execOp, heq, resolve, invoke, builtin, Builtin.len_, List.map_toArray, List.map_cons, List.map_nil, hf _ _ k1, t_pure]
      simp only [List.getElem?_toArray, List.getElem?_cons_zero, t_und tf, t_pure, t_bind]
      exact hK
  · rename_i b hx
    split at h <;> try (cases h; done)
    rename_i hti
    simp only [Option.some.injEq] at h; subst h
    obtain ⟨by_, tf⟩ := tf_tinfo hti
    obtain ⟨u', k1, k2⟩ := he.evc hx
    cases k2
    refine ⟨_, .int _ _, fun s' hs' f hf K E hK => ?_⟩
    simp only [execOp, heq, resolve, invoke, builtin, Builtin.len_, List.map_toArray, List.map_cons, List.map_nil, hf _ _ k1, t_pure]
    simp only [List.getElem?_toArray, List.getElem?_cons_zero, t_und tf, t_pure, t_bind]
    exact hK
  · rename_i i hx
    split at h <;> try (cases h; done)
    rename_i hti
    split at h <;> try (cases h; done)
    rename_i rb es ck hm
    simp only [Option.some.injEq] at h; subst h
    obtain ⟨by_, tf⟩ := tf_tinfo hti
    obtain ⟨u', k1, k2⟩ := he.evc hx
    cases k2
    rename_i b c hb
    obtain ⟨b2, c2, o', hb2, hor, hhas⟩ := hr.has hm
    rw [hb] at hb2; cases hb2
    cases hor
    rename_i es' hes
    refine ⟨_, .int _ _, fun s' hs' f hf K E hK => ?_⟩
    simp only [execOp, heq, resolve, invoke, builtin, Builtin.len_, List.map_toArray, List.map_cons, List.map_nil, hf _ _ k1, t_pure]
    simp only [List.getElem?_toArray, List.getElem?_cons_zero, t_und tf, t_pure, t_bind]
    refine ⟨_, hs' _ _ hhas, rfl, rfl, ?_⟩
    rw [hes.len] at *
    exact hK
end ops
end Go.L
