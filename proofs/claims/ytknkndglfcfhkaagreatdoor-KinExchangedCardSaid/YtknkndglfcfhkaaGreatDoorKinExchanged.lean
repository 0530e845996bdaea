/- KinExchanged: whatever the list of numbers, whatever the world at the call, on every schedule: wayzgooselaw08.KinExchanged returns true, the list reads as it did, and nothing that was there before has turned. Condition: the listed package variables read as the program's text lays them (tied). -/
import Derived.Test.YtknkndglfcfhkaaGreatDoorKinExchangedA
import Derived.Test.YtknkndglfcfhkaaGreatDoorKinExchangedB
namespace Go.Proofs.YtknkndglfcfhkaaGreatDoor
open Go Go.Conc Go.ChangeShapes Go.WideShapes Go.ChangeAt Go.RowKit
set_option linter.all false
set_option maxRecDepth 100000
theorem Dc:Rows.KinExchangedSaid:=
 OpenClaim.holds_of_wide_leaving 4 Tryz.f4 rfl rfl rfl rfl rfl rfl rfl ⟨rfl,rfl,rfl,rfl,rfl⟩ rfl rfl rfl rfl rfl (by kernel_rfl) Tryz.func4 aj7
  (of_decide_eq_true (by kernel_rfl)) (by unfold Func.isWrapper;first| (rw[if_pos (by decide+kernel)];kernel_rfl)| (rw[if_neg (by decide+kernel)];exact⟨rfl,rfl⟩))
  (fun os started H enc _=>lifted os started H enc)
theorem kinExchanged_holds:Rows.KinExchangedCardSaid:=
 ⟨Claim7.tied_new_at .later [.data,.pinned,.pinned] true
  (Claim7.new_of_sixth Dc (true, "86a9335295d01a6cbb1436baf4bbb7f57dec4c09c6e51f2ff328748f16b76e33") true rfl ⟨rfl,rfl⟩ (by kernel_rfl) (by kernel_rfl) agC) (by kernel_rfl),
  (fun _ h=>by cases h),kinExchanged_row_tie,(fun h=>by cases h),by kernel_rfl⟩
end Go.Proofs.YtknkndglfcfhkaaGreatDoor
