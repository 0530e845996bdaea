/- KinWrong: whatever the list of numbers, whatever the world at the call, on every schedule: wayzgooselaw08.KinWrong returns true, the list reads as it did, and nothing that was there before has turned. Condition: the listed package variables read as the program's text lays them (tied). -/
import Derived.Test.YtknkndglfcfhkaaGreatDoorKinWrongA
import Derived.Test.YtknkndglfcfhkaaGreatDoorKinWrongB
namespace Go.Proofs.YtknkndglfcfhkaaGreatDoor
open Go Go.Conc Go.ChangeShapes Go.WideShapes Go.ChangeAt Go.RowKit
set_option linter.all false
set_option maxRecDepth 100000
theorem kinWrong_row:Rows.KinWrongSaid:=
 OpenClaim.holds_of_wide_leaving 6 Tryz.f6 rfl rfl rfl rfl rfl rfl rfl ⟨rfl,rfl,rfl,rfl,rfl⟩ rfl rfl rfl rfl rfl (by kernel_rfl) Tryz.func6 ajv
  (of_decide_eq_true (by kernel_rfl)) (by unfold Func.isWrapper;first| (rw[if_pos (by decide+kernel)];kernel_rfl)| (rw[if_neg (by decide+kernel)];exact⟨rfl,rfl⟩))
  (fun os started H enc _=>lifted os started H enc)
theorem kinWrong_holds:Rows.KinWrongCardSaid:=
 ⟨Claim7.tied_new_at .later [.data,.pinned,.pinned] true
  (Claim7.new_of_sixth kinWrong_row (true, "86a9335295d01a6cbb1436baf4bbb7f57dec4c09c6e51f2ff328748f16b76e33") true rfl ⟨rfl,rfl⟩ (by kernel_rfl) (by kernel_rfl) agh) (by kernel_rfl),
  (fun _ h=>by cases h),kinWrong_row_tie,(fun h=>by cases h),by kernel_rfl⟩
end Go.Proofs.YtknkndglfcfhkaaGreatDoor
