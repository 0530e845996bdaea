/- The facts of the row, one by one. -/
import Derived.Test.YtfhaegdkhpdedaaGreatDoorTie
import Derived.WalkKit
import Derived.ProofKit
import Derived.OpenShut
import Derived.LaidMore
import Derived.Lay
import Derived.Conc.LeavingOf
import Derived.Conc.HoldsTime
import Derived.SevenTiedAt
import Derived.ChangeSlices
import Derived.SizedLaws
import Derived.Handed
namespace Go.Proofs.YtfhaegdkhpdedaaGreatDoor
open Go Go.Conc Go.ChangeShapes Go.WideShapes Go.ChangeAt Go.RowKit
set_option linter.all false
set_option maxRecDepth 100000
theorem andTT{a b:Bool}(h:a=true)(k:b=true):(a&&b)=true:=by rw[h,k];rfl
set_option maxHeartbeats 100000000 in
theorem asN:joinedFacts Tryz.pinned.checked.prog 4 Tryz.f4 Rows.lodgeStaysSpec Rows.lodgeStaysRow=true:=by
 unfold joinedFacts
 repeat' with_reducible apply andTT
 all_goals (as_aux_lemma=>kernel_rfl)
theorem aps:∀f fn,Tryz.pinned.checked.prog.funcNamed Rows.lodgeStaysRow.func=some f→Tryz.pinned.checked.prog.funcs[f]?=some fn→false=Tryz.pinned.checked.prog.looks []∧∀(j:Nat) t,fn.params[j]?=some t→Tryz.pinned.checked.prog.wantsStandIn t=false:=
 fun f fn hf C4=>by
  obtain rfl:f=4:=Option.some.inj ((show Tryz.prog.funcNamed Rows.lodgeStaysRow.func=some 4 by kernel_rfl).symm.trans hf)|>.symm
  obtain rfl:fn=Tryz.f4:=(Option.some.inj (Tryz.func4.symm.trans C4)).symm
  exact⟨by kernel_rfl,fun j t ht=>by
   rw[Tryz.params4] at ht
   match j,ht with
   |0,ht=>
    obtain rfl:45=t:=Option.some.inj ht
    exact(by kernel_rfl:Tryz.prog.wantsStandIn 45=false)
   |j+1,ht=>simp at ht⟩
end Go.Proofs.YtfhaegdkhpdedaaGreatDoor
