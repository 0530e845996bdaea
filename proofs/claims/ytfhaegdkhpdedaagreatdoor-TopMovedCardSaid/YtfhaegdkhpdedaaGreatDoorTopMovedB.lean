/- The facts of the row, one by one. -/
import Derived.Test.YtfhaegdkhpdedaaGreatDoorTie
import Derived.WalkKit
import Derived.ProofKit
import Derived.OpenShut
import Derived.LaidMore
import Derived.Lay
import Derived.Conc.LeavingOf
import Derived.Conc.HoldsTime
import Derived.SevenTiedAt
import Derived.ChangeSlices
import Derived.SizedLaws
import Derived.Handed
namespace Go.Proofs.YtfhaegdkhpdedaaGreatDoor
open Go Go.Conc Go.ChangeShapes Go.WideShapes Go.ChangeAt Go.RowKit
set_option linter.all false
set_option maxRecDepth 100000
theorem andTT{a b:Bool}(h:a=true)(k:b=true):(a&&b)=true:=by rw[h,k];rfl
set_option maxHeartbeats 100000000 in
theorem asS:joinedFacts Tryz.pinned.checked.prog 9 Tryz.f9 Rows.topMovedSpec Rows.topMovedRow=true:=by
 unfold joinedFacts
 repeat' with_reducible apply andTT
 all_goals (as_aux_lemma=>kernel_rfl)
theorem aph:∀f fn,Tryz.pinned.checked.prog.funcNamed Rows.topMovedRow.func=some f→Tryz.pinned.checked.prog.funcs[f]?=some fn→false=Tryz.pinned.checked.prog.looks []∧∀(j:Nat) t,fn.params[j]?=some t→Tryz.pinned.checked.prog.wantsStandIn t=false:=
 fun f fn hf CM=>by
  obtain rfl:f=9:=Option.some.inj ((show Tryz.prog.funcNamed Rows.topMovedRow.func=some 9 by kernel_rfl).symm.trans hf)|>.symm
  obtain rfl:fn=Tryz.f9:=(Option.some.inj (Tryz.func9.symm.trans CM)).symm
  exact⟨by kernel_rfl,fun j t ht=>by
   rw[Tryz.params9] at ht
   match j,ht with
   |0,ht=>
    obtain rfl:45=t:=Option.some.inj ht
    exact(by kernel_rfl:Tryz.prog.wantsStandIn 45=false)
   |j+1,ht=>simp at ht⟩
end Go.Proofs.YtfhaegdkhpdedaaGreatDoor
