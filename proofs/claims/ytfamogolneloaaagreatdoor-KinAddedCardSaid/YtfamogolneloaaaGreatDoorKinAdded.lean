/- KinAdded: whatever the list of numbers, whatever the world at the call, on every schedule: wayzgooselaw08.KinAdded returns true, the list reads as it did, and nothing that was there before has turned. Condition: the listed package variables read as the program's text lays them (tied). -/
import Derived.Test.YtfamogolneloaaaGreatDoorKinAddedA
import Derived.Test.YtfamogolneloaaaGreatDoorKinAddedB
namespace Go.Proofs.YtfamogolneloaaaGreatDoor
open Go Go.Conc Go.ChangeShapes Go.WideShapes Go.ChangeAt Go.RowKit
set_option linter.all false
set_option maxRecDepth 100000
theorem kinAdded_row:Rows.KinAddedSaid:=
 OpenClaim.holds_of_wide_leaving 5 Tryz.f5 rfl rfl rfl rfl rfl rfl rfl ⟨rfl,rfl,rfl,rfl,rfl⟩ rfl rfl rfl rfl rfl (by kernel_rfl) Tryz.func5 ajN
  (of_decide_eq_true (by kernel_rfl)) (by unfold Func.isWrapper;first| (rw[if_pos (by decide+kernel)];kernel_rfl)| (rw[if_neg (by decide+kernel)];exact⟨rfl,rfl⟩))
  (fun os started H enc _=>lifted os started H enc)
theorem kinAdded_holds:Rows.KinAddedCardSaid:=
 ⟨Claim7.tied_new_at .later [.data,.pinned,.pinned] true
  (Claim7.new_of_sixth kinAdded_row (true, "277c6acc92eb3c068e728823d8bf8481e98592e56f1aa67ef0b163bdfd984dd0") true rfl ⟨rfl,rfl⟩ (by kernel_rfl) (by kernel_rfl) agb) (by kernel_rfl),
  (fun _ h=>by cases h),kinAdded_row_tie,(fun h=>by cases h),by kernel_rfl⟩
end Go.Proofs.YtfamogolneloaaaGreatDoor
