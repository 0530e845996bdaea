/- KinRenumbered: whatever the list of numbers, whatever the world at the call, on every schedule: wayzgooselaw08.KinRenumbered returns true, the list reads as it did, and nothing that was there before has turned. Condition: the listed package variables read as the program's text lays them (tied). -/
import Derived.Test.YtfamogolneloaaaGreatDoorKinRenumberedA
import Derived.Test.YtfamogolneloaaaGreatDoorKinRenumberedB
namespace Go.Proofs.YtfamogolneloaaaGreatDoor
open Go Go.Conc Go.ChangeShapes Go.WideShapes Go.ChangeAt Go.RowKit
set_option linter.all false
set_option maxRecDepth 100000
theorem kinRenumbered_row:Rows.KinRenumberedSaid:=
 OpenClaim.holds_of_wide_leaving 4 Tryz.f4 rfl rfl rfl rfl rfl rfl rfl ⟨rfl,rfl,rfl,rfl,rfl⟩ rfl rfl rfl rfl rfl (by kernel_rfl) Tryz.func4 ah7
  (of_decide_eq_true (by kernel_rfl)) (by unfold Func.isWrapper;first| (rw[if_pos (by decide+kernel)];kernel_rfl)| (rw[if_neg (by decide+kernel)];exact⟨rfl,rfl⟩))
  (fun os started H enc _=>lifted os started H enc)
theorem kinRenumbered_holds:Rows.KinRenumberedCardSaid:=
 ⟨Claim7.tied_new_at .later [.data,.pinned,.pinned] true
  (Claim7.new_of_sixth kinRenumbered_row (true, "277c6acc92eb3c068e728823d8bf8481e98592e56f1aa67ef0b163bdfd984dd0") true rfl ⟨rfl,rfl⟩ (by kernel_rfl) (by kernel_rfl) aeJ) (by kernel_rfl),
  (fun _ h=>by cases h),kinRenumbered_row_tie,(fun h=>by cases h),by kernel_rfl⟩
end Go.Proofs.YtfamogolneloaaaGreatDoor
