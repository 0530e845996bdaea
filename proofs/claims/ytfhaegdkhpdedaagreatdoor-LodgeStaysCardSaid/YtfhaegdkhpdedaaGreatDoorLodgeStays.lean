/- LodgeStays: whatever the list of numbers, whatever the world at the call, on every schedule: wayzgooselaw05.LodgeStays returns true, the list reads as it did, and nothing that was there before has turned (its searchers wait for one another at a lock: so time passes). Condition: the listed package variables read as the program's text lays them (tied); calm. -/
import Derived.Test.YtfhaegdkhpdedaaGreatDoorLodgeStaysA
import Derived.Test.YtfhaegdkhpdedaaGreatDoorLodgeStaysB
namespace Go.Proofs.YtfhaegdkhpdedaaGreatDoor
open Go Go.Conc Go.ChangeShapes Go.WideShapes Go.ChangeAt Go.RowKit
set_option linter.all false
set_option maxRecDepth 100000
theorem lodgeStays_row:Rows.LodgeStaysSaid:=
 OpenClaim.holds_of_wide_leaving_time 4 Tryz.f4 rfl rfl rfl rfl rfl rfl rfl ⟨rfl,rfl,rfl,rfl,rfl⟩ rfl rfl rfl rfl rfl (by kernel_rfl) Tryz.func4 asN
  (of_decide_eq_true (by kernel_rfl)) (by unfold Func.isWrapper;first| (rw[if_pos (by decide+kernel)];kernel_rfl)| (rw[if_neg (by decide+kernel)];exact⟨rfl,rfl⟩))
  (fun os started H enc _ F=>lifted os started H enc F)
theorem lodgeStays_holds:Rows.LodgeStaysCardSaid:=
 ⟨Claim7.tied_new_at .later [.data,.pinned,.pinned] true
  (Claim7.new_of_sixth lodgeStays_row (true, "ce79f5d51c037daa73663644b5ee7ba6b163353d694873cc223180f29eb6e60d") false rfl ⟨rfl,rfl⟩ (by kernel_rfl) (by kernel_rfl) aps) (by kernel_rfl),
  (fun _ h=>by cases h),lodgeStays_row_tie,(fun h=>by cases h),by kernel_rfl⟩
end Go.Proofs.YtfhaegdkhpdedaaGreatDoor
