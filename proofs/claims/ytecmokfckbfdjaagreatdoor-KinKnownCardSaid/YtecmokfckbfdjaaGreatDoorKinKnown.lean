/- KinKnown: whatever the world at the call, on every schedule: wayzgooselaw08.KinKnown returns true; nothing that was there before has turned. Condition: the listed package variables read as the program's text lays them (tied). -/
import Derived.Test.YtecmokfckbfdjaaGreatDoorTie
import Derived.Test.YtecmokfckbfdjaaGreatDoorCards
import Derived.Test.YtecmokfckbfdjaaGreatDoorTab
import Derived.WalkKit
import Derived.ProofKit
import Derived.OpenShut
import Derived.LaidMore
import Derived.Lay
import Derived.Conc.LeavingOf
import Derived.SevenTiedAt
namespace Go.Proofs.YtecmokfckbfdjaaGreatDoor
open Go Go.L Go.L.Q Go.Conc Go.ChangeShapes Go.WideShapes Go.ChangeAt Go.RowKit
set_option linter.all false
set_option maxRecDepth 100000
theorem own : ownKnob Tryz.prog.godebug = none := by kernel_rfl
/-- THE RUN. -/
theorem good (W : World) {Post : Value → World → Prop}
    (hPost : ∀ w : World, (∀ (b : Nat) (o : Obj), W.heap[b]? = some o → w.heap[b]? = some o) → w.os = W.os → w.output = W.output → Post (.bool true) w) :
    ∃ N last o w' t', runNT Tryz.prog (N + 1) (solo (G (Frame.enter Tryz.prog 3 #[] .normal) []) W) #[] = (.ended o w', t') ∧ runN Tryz.prog N (solo (G (Frame.enter Tryz.prog 3 #[] .normal) []) W) = .next last ∧ step Tryz.prog last = .ended o w' ∧ Go.Conc.Good Tryz.prog Post last o w' t' :=
  whole_run mixed (call_ok c0_closed mixed root_tab) (f := 3) (LF := 100000) (by kernel_rfl) root_true W hPost
theorem kept {W w : World} (h1 : ∀ (b : Nat) (o : Obj), W.heap[b]? = some o → w.heap[b]? = some o) (h2 : w.os = W.os) (h3 : w.output = W.output) (may : MemPlace → Prop) : W.keptBut w may := by
  refine ⟨h2, h3, fun i hi => ?_⟩
  have e : w.heap[i]? = W.heap[i]? := by
    rw [Array.getElem?_eq_getElem hi]
    exact h1 i _ (Array.getElem?_eq_getElem hi)
  rw [e]
  split <;> simp_all

theorem lifted (os : Os) (started : os.Started) (H : Type) (enc : TypeId × Value → H) :
    ReturnsInLeavingWide {} Tryz.checked os 3 .any (fun w args => (Rows.kinKnownSpec.pre enc Tryz.prog Tryz.f3 [] false w args ∧ laidMetH Tryz.prog Rows.kinKnownRow.laid w) ∧ sizedMet enc Tryz.prog Tryz.f3 (OpenSpec.ofChange Rows.kinKnownSpec) false w args)
      (Rows.kinKnownSpec.post enc Tryz.prog Tryz.f3 false true false false) := by
  refine returnsInLeavingWide_of_good (C := Tryz.checked) own started
    (ChangeSpec.witness_shaped (enc := enc) (C := Tryz.checked) (os := os) (X := fun w _ => laidMetH Tryz.prog Rows.kinKnownRow.laid w) false (World.laidAll Tryz.prog os Rows.kinKnownRow.laid) #[] 8 (World.laidAll_os _ _ _)
      (World.shaped_of_ZipB (by kernel_rfl) (by kernel_rfl)) (by kernel_rfl) (by kernel_rfl) (by kernel_rfl)
      (by rw [MakeChecks.laidMetH_plain _ _ _ (by kernel_rfl)]; exact laidMet_laidAll _ (by kernel_rfl) (by kernel_rfl))) ?_
  intro w tape i _ _ _ hok hpre hholds
  obtain ⟨⟨⟨ds, gs, before, hw, hc⟩, hL⟩, hz⟩ := hpre
  have hW : DataW.Whole enc Tryz.prog Tryz.f3.params.toList Rows.kinKnownSpec.vars false (w.forCall tape i) i.args.toList ds gs before := DataW.Whole.of_heap (w' := w.forCall tape i) (by rfl) hw
  have hW' := hW
  obtain ⟨p, q, hA0, hV, rfl, _, _⟩ := hW
  have hA : DataW.TrodAll enc Tryz.prog (w.forCall tape i) 0 (fun _ => true) true Tryz.f3.params.toList i.args.toList ds p := hA0
  have hp3 : Tryz.f3.params.toList = [] := by kernel_rfl
  rw [hp3] at hA
  obtain ⟨ha, rfl, rfl⟩ := trodAll_nil hA
  obtain ⟨rfl, rfl⟩ := trodVars_none hV
  have hargs : i.args = #[] := by
    rcases h : i.args with ⟨l⟩
    rw [h] at ha
    simp only at ha
    rw [ha]
  simp only [List.append_nil] at hW'
  have hrun := good (w.forCall tape i) (Post := fun v W' => Rows.kinKnownSpec.post enc Tryz.prog Tryz.f3 false true false false (w.forCall tape i) i.args v W') (fun W' h1 h2 h3 => by
    rw [hargs]
    rw [hargs] at hW'
    exact ⟨_, _, _, [], [], [], hW', trodAll_mk1 (shut_bool Tryz.underlying4 true), trodAll_mk0, rfl, kept h1 h2 h3 _, fun h => by cases h⟩)
  rw [← hargs] at hrun
  obtain ⟨N, last, o, w', t', r1, r2, r3, r4⟩ := hrun
  exact ⟨N, last, o, w', t', r1, r2, r3, r4.mono fun v hp => ChangeSpec.post_blind hp⟩

theorem kinKnown_row : Rows.KinKnownSaid :=
  OpenClaim.holds_of_wide_leaving 3 Tryz.f3 rfl rfl rfl rfl rfl rfl rfl ⟨rfl, rfl, rfl, rfl, rfl⟩ rfl rfl rfl rfl rfl (by kernel_rfl) Tryz.func3 (by kernel_rfl)
    (of_decide_eq_true (by kernel_rfl)) (by unfold Func.isWrapper; first | (rw [if_pos (by decide +kernel)]; kernel_rfl) | (rw [if_neg (by decide +kernel)]; exact ⟨rfl, rfl⟩))
    (fun os started H enc _ => lifted os started H enc)
theorem looks_ok : ∀ f fn, Tryz.pinned.checked.prog.funcNamed Rows.kinKnownRow.func = some f → Tryz.pinned.checked.prog.funcs[f]? = some fn → true = Tryz.pinned.checked.prog.looks [] ∧ ∀ (j : Nat) t, fn.params[j]? = some t → Tryz.pinned.checked.prog.wantsStandIn t = false :=
  fun f fn hf hfn => by
    obtain rfl : f = 3 := Option.some.inj ((show Tryz.prog.funcNamed Rows.kinKnownRow.func = some 3 by kernel_rfl).symm.trans hf) |>.symm
    obtain rfl : fn = Tryz.f3 := (Option.some.inj (Tryz.func3.symm.trans hfn)).symm
    exact ⟨by kernel_rfl, fun j t ht => by
      have hp3 : Tryz.f3.params = #[] := by kernel_rfl
      rw [hp3] at ht
      simp at ht⟩
/-- THE TIED CARD. -/
theorem kinKnown_holds : Rows.KinKnownCardSaid :=
  ⟨Claim7.tied_new_at .later [.data, .pinned, .pinned] true
    (Claim7.new_of_sixth kinKnown_row (true, "87da75bd4f9e316429a4960245ed2c9a37aca18da0cae317f6ab4f6800116523") true rfl ⟨rfl, rfl⟩ (by kernel_rfl) (by kernel_rfl) looks_ok) (by kernel_rfl),
    (fun _ h => by cases h), kinKnown_row_tie, (fun h => by cases h), by kernel_rfl⟩
#print axioms kinKnown_holds
end Go.Proofs.YtecmokfckbfdjaaGreatDoor
