/- KinAsked: whatever the list of numbers, whatever the world at the call, on every schedule: wayzgooselaw08.KinAsked returns true, the list reads as it did, and nothing that was there before has turned. Condition: the listed package variables read as the program's text lays them (tied). -/
import Derived.Test.YtjpghiajlddegaaGreatDoorKinAskedB
namespace Go.Proofs.YtjpghiajlddegaaGreatDoor
open Go Go.L Go.Conc Go.ChangeShapes Go.WideShapes Go.ChangeAt Go.RowKit
set_option linter.all false
set_option maxRecDepth 100000
theorem acW:∀f fn,Tryz.pinned.checked.prog.funcNamed Rows.kinAskedRow.func=some f→Tryz.pinned.checked.prog.funcs[f]?=some fn→true=Tryz.pinned.checked.prog.looks []∧∀(j:Nat) t,fn.params[j]?=some t→Tryz.pinned.checked.prog.wantsStandIn t=false:=
 fun f fn hf ui=>by
  obtain rfl:f=4:=Option.some.inj ((show Tryz.prog.funcNamed Rows.kinAskedRow.func=some 4 by kernel_rfl).symm.trans hf)|>.symm
  obtain rfl:fn=Tryz.f4:=(Option.some.inj (Tryz.func4.symm.trans ui)).symm
  exact⟨by kernel_rfl,fun j t ht=>by
   rw[Tryz.params4] at ht
   match j,ht with
   |0,ht=>
    obtain rfl:22=t:=Option.some.inj ht
    exact(by kernel_rfl:Tryz.prog.wantsStandIn 22=false)
   |j+1,ht=>simp at ht⟩
theorem kinAsked_holds:Rows.KinAskedCardSaid:=
 ⟨Claim7.tied_new_at .later [.data,.pinned,.pinned] true
  (Claim7.new_of_sixth kinAsked_row (true, "afd8fb069b87caf17c441304a03760a26e8085bc1c08edd1076ef068afe1307e") true rfl ⟨rfl,rfl⟩ (by kernel_rfl) (by kernel_rfl) acW) (by kernel_rfl),
  (fun _ h=>by cases h),kinAsked_row_tie,(fun h=>by cases h),by kernel_rfl⟩
end Go.Proofs.YtjpghiajlddegaaGreatDoor
