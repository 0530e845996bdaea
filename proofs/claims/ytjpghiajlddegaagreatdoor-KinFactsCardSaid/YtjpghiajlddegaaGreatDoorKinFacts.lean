/- KinFacts: whatever the list of numbers, whatever the world at the call, on every schedule: wayzgooselaw08.KinFacts returns true, the list reads as it did, and nothing that was there before has turned. Condition: the listed package variables read as the program's text lays them (tied). -/
import Derived.Test.YtjpghiajlddegaaGreatDoorKinFactsB
namespace Go.Proofs.YtjpghiajlddegaaGreatDoor
open Go Go.L Go.Conc Go.ChangeShapes Go.WideShapes Go.ChangeAt Go.RowKit
set_option linter.all false
set_option maxRecDepth 100000
theorem ad0:∀f fn,Tryz.pinned.checked.prog.funcNamed Rows.kinFactsRow.func=some f→Tryz.pinned.checked.prog.funcs[f]?=some fn→true=Tryz.pinned.checked.prog.looks []∧∀(j:Nat) t,fn.params[j]?=some t→Tryz.pinned.checked.prog.wantsStandIn t=false:=
 fun f fn hf u1=>by
  obtain rfl:f=5:=Option.some.inj ((show Tryz.prog.funcNamed Rows.kinFactsRow.func=some 5 by kernel_rfl).symm.trans hf)|>.symm
  obtain rfl:fn=Tryz.f5:=(Option.some.inj (Tryz.func5.symm.trans u1)).symm
  exact⟨by kernel_rfl,fun j t ht=>by
   rw[Tryz.params5] at ht
   match j,ht with
   |0,ht=>
    obtain rfl:22=t:=Option.some.inj ht
    exact(by kernel_rfl:Tryz.prog.wantsStandIn 22=false)
   |j+1,ht=>simp at ht⟩
theorem kinFacts_holds:Rows.KinFactsCardSaid:=
 ⟨Claim7.tied_new_at .later [.data,.pinned,.pinned] true
  (Claim7.new_of_sixth kinFacts_row (true, "afd8fb069b87caf17c441304a03760a26e8085bc1c08edd1076ef068afe1307e") true rfl ⟨rfl,rfl⟩ (by kernel_rfl) (by kernel_rfl) ad0) (by kernel_rfl),
  (fun _ h=>by cases h),kinFacts_row_tie,(fun h=>by cases h),by kernel_rfl⟩
end Go.Proofs.YtjpghiajlddegaaGreatDoor
