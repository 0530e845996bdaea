/- The row of this proof, part 2. -/
import Derived.Test.YtjpghiajlddegaaGreatDoorKinFactsA
namespace Go.Proofs.YtjpghiajlddegaaGreatDoor
open Go Go.L Go.Conc Go.ChangeShapes Go.WideShapes Go.ChangeAt Go.RowKit
set_option linter.all false
set_option maxRecDepth 100000
theorem and_tt{a b:Bool}(h:a=true)(k:b=true):(a&&b)=true:=by rw[h,k];rfl
set_option maxHeartbeats 100000000 in
theorem facts_ok:joinedFacts Tryz.pinned.checked.prog 5 Tryz.f5 Rows.kinFactsSpec Rows.kinFactsRow=true:=by
 unfold joinedFacts
 repeat' with_reducible apply and_tt
 all_goals (as_aux_lemma=>kernel_rfl)
theorem kinFacts_row:Rows.KinFactsSaid:=
 OpenClaim.holds_of_wide_leaving 5 Tryz.f5 rfl rfl rfl rfl rfl rfl rfl ⟨rfl,rfl,rfl,rfl,rfl⟩ rfl rfl rfl rfl rfl (by kernel_rfl) Tryz.func5 facts_ok
  (of_decide_eq_true (by kernel_rfl)) (by unfold Func.isWrapper;first| (rw[if_pos (by decide+kernel)];kernel_rfl)| (rw[if_neg (by decide+kernel)];exact⟨rfl,rfl⟩))
  (fun os started H enc _=>lifted os started H enc)
end Go.Proofs.YtjpghiajlddegaaGreatDoor
