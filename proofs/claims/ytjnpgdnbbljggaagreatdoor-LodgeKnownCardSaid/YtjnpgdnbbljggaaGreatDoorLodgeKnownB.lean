/- The facts of the row, one by one. -/
import Derived.Test.YtjnpgdnbbljggaaGreatDoorTie
import Derived.WalkKit
import Derived.ProofKit
import Derived.OpenShut
import Derived.LaidMore
import Derived.Lay
import Derived.Conc.LeavingOf
import Derived.Conc.HoldsTime
import Derived.SevenTiedAt
namespace Go.Proofs.YtjnpgdnbbljggaaGreatDoor
open Go Go.Conc Go.ChangeShapes Go.WideShapes Go.ChangeAt Go.RowKit
set_option linter.all false
set_option maxRecDepth 100000
theorem andTT{a b:Bool}(h:a=true)(k:b=true):(a&&b)=true:=by rw[h,k];rfl
set_option maxHeartbeats 100000000 in
theorem agW:joinedFacts Tryz.pinned.checked.prog 3 Tryz.f3 Rows.lodgeKnownSpec Rows.lodgeKnownRow=true:=by
 unfold joinedFacts
 repeat' with_reducible apply andTT
 all_goals (as_aux_lemma=>kernel_rfl)
theorem aez:∀f fn,Tryz.pinned.checked.prog.funcNamed Rows.lodgeKnownRow.func=some f→Tryz.pinned.checked.prog.funcs[f]?=some fn→false=Tryz.pinned.checked.prog.looks []∧∀(j:Nat) t,fn.params[j]?=some t→Tryz.pinned.checked.prog.wantsStandIn t=false:=
 fun f fn hf wY=>by
  obtain rfl:f=3:=Option.some.inj ((show Tryz.prog.funcNamed Rows.lodgeKnownRow.func=some 3 by kernel_rfl).symm.trans hf)|>.symm
  obtain rfl:fn=Tryz.f3:=(Option.some.inj (Tryz.func3.symm.trans wY)).symm
  exact⟨by kernel_rfl,fun j t ht=>by
   have hp3:Tryz.f3.params= #[]:=by kernel_rfl
   rw[hp3] at ht
   simp at ht⟩
end Go.Proofs.YtjnpgdnbbljggaaGreatDoor
