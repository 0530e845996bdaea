/- KinAll: whatever the list of numbers, whatever the world at the call, on every schedule: wayzgooselaw08.KinAll returns true, the list reads as it did, and nothing that was there before has turned. Condition: the listed package variables read as the program's text lays them (tied). -/
import Derived.Test.YthegconjacjohaaGreatDoorKinAllA
import Derived.Test.YthegconjacjohaaGreatDoorKinAllB
namespace Go.Proofs.YthegconjacjohaaGreatDoor
open Go Go.Conc Go.ChangeShapes Go.WideShapes Go.ChangeAt Go.RowKit
set_option linter.all false
set_option maxRecDepth 100000
theorem kinAll_row:Rows.KinAllSaid:=
 OpenClaim.holds_of_wide_leaving 4 Tryz.f4 rfl rfl rfl rfl rfl rfl rfl ⟨rfl,rfl,rfl,rfl,rfl⟩ rfl rfl rfl rfl rfl (by kernel_rfl) Tryz.func4 ako
  (of_decide_eq_true (by kernel_rfl)) (by unfold Func.isWrapper;first| (rw[if_pos (by decide+kernel)];kernel_rfl)| (rw[if_neg (by decide+kernel)];exact⟨rfl,rfl⟩))
  (fun os started H enc _=>lifted os started H enc)
theorem kinAll_holds:Rows.KinAllCardSaid:=
 ⟨Claim7.tied_new_at .later [.data,.pinned,.pinned] true
  (Claim7.new_of_sixth kinAll_row (true, "89c0774e38aad8a9ff3465044c497331604797601532a3d37932712898112053") true rfl ⟨rfl,rfl⟩ (by kernel_rfl) (by kernel_rfl) agW) (by kernel_rfl),
  (fun _ h=>by cases h),kinAll_row_tie,(fun h=>by cases h),by kernel_rfl⟩
end Go.Proofs.YthegconjacjohaaGreatDoor
