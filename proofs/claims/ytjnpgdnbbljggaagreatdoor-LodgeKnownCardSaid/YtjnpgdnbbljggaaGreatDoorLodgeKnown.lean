/- LodgeKnown: whatever the world at the call, on every schedule: wayzgooselaw05.LodgeKnown returns true, and nothing that was there before has turned (its four searchers wait for one another at a lock: so time passes). Condition: the listed package variables read as the program's text lays them (tied); calm. -/
import Derived.Test.YtjnpgdnbbljggaaGreatDoorLodgeKnownA
import Derived.Test.YtjnpgdnbbljggaaGreatDoorLodgeKnownB
namespace Go.Proofs.YtjnpgdnbbljggaaGreatDoor
open Go Go.Conc Go.ChangeShapes Go.WideShapes Go.ChangeAt Go.RowKit
set_option linter.all false
set_option maxRecDepth 100000
theorem lodgeKnown_row:Rows.LodgeKnownSaid:=
 OpenClaim.holds_of_wide_leaving_time 3 Tryz.f3 rfl rfl rfl rfl rfl rfl rfl ⟨rfl,rfl,rfl,rfl,rfl⟩ rfl rfl rfl rfl rfl (by kernel_rfl) Tryz.func3 agW
  (of_decide_eq_true (by kernel_rfl)) (by unfold Func.isWrapper;first| (rw[if_pos (by decide+kernel)];kernel_rfl)| (rw[if_neg (by decide+kernel)];exact⟨rfl,rfl⟩))
  (fun os started H enc _ F=>lifted os started H enc F)
theorem lodgeKnown_holds:Rows.LodgeKnownCardSaid:=
 ⟨Claim7.tied_new_at .later [.data,.pinned,.pinned] true
  (Claim7.new_of_sixth lodgeKnown_row (true, "444eda36074c5984ecd0869cd56a0a9cd04b3682191f1e4fffe6f8e6a8bb36f6") false rfl ⟨rfl,rfl⟩ (by kernel_rfl) (by kernel_rfl) aez) (by kernel_rfl),
  (fun _ h=>by cases h),lodgeKnown_row_tie,(fun h=>by cases h),by kernel_rfl⟩
end Go.Proofs.YtjnpgdnbbljggaaGreatDoor
