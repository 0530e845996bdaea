/- Tables of YtecmokfckbfdjaaGreatDoor: each entry is what the program comes to. -/
import Derived.Test.YtecmokfckbfdjaaGreatDoorD1
import Derived.Test.YtecmokfckbfdjaaGreatDoorT0x84
import Derived.Test.YtecmokfckbfdjaaGreatDoorT1
import Derived.Test.YtecmokfckbfdjaaGreatDoorT2
namespace Go.L.Q
open Go Go.Conc Go.L Go.Proofs
set_option linter.all false
set_option maxRecDepth 100000
-- wayzgoose/name.Verdict 18
theorem t40 : TabOK (CA prog) prog e40 := entB_ok ca_closed mixed (fs := fs) (tab := [e19, e12]) ⟨t19, t12, trivial⟩ (by kernel_rfl)
-- wayzgoose/name.Verdict 8
theorem t42 : TabOK (CA prog) prog e42 := entB_ok ca_closed mixed (fs := fs) (tab := [e14]) ⟨t14, trivial⟩ (by kernel_rfl)
-- wayzgoose/name.Verdict 18
theorem t45 : TabOK (CA prog) prog e45 := entB_ok ca_closed mixed (fs := fs) (tab := [e10, e14]) ⟨t10, t14, trivial⟩ (by kernel_rfl)
-- wayzgoose/name.Verdict 35
theorem t47 : TabOK (CA prog) prog e47 := entB_ok ca_closed mixed (fs := fs) (tab := [e19, e14]) ⟨t19, t14, trivial⟩ (by kernel_rfl)
-- slices.SortStableFunc[[]wayzgoose/kin.truth,wayzgoose/kin.truth] 0
theorem t50 : TabOK (CA prog) prog e50 := entB_ok ca_closed mixed (fs := fs) (tab := [e49]) ⟨t49, trivial⟩ (by kernel_rfl)
-- slices.SortStableFunc[[]wayzgoose/kin.truth,wayzgoose/kin.truth] 0
theorem t52 : TabOK (CA prog) prog e52 := entB_ok ca_closed mixed (fs := fs) (tab := [e51]) ⟨t51, trivial⟩ (by kernel_rfl)
-- wayzgoose/kin.checkPerson 3
theorem t55 : TabOK (CA prog) prog e55 := entB_ok ca_closed mixed (fs := fs) (tab := [e10]) ⟨t10, trivial⟩ (by kernel_rfl)
-- wayzgoose/kin.checkPerson 3
theorem t56 : TabOK (CA prog) prog e56 := entB_ok ca_closed mixed (fs := fs) (tab := [e12]) ⟨t12, trivial⟩ (by kernel_rfl)
-- wayzgoose/kin.checkPerson 3
theorem t57 : TabOK (CA prog) prog e57 := entB_ok ca_closed mixed (fs := fs) (tab := [e14]) ⟨t14, trivial⟩ (by kernel_rfl)
-- wayzgoose/kin.checkPerson 2
theorem t59 : TabOK (CA prog) prog e59 := entB_ok ca_closed mixed (fs := fs) (tab := [e14]) ⟨t14, trivial⟩ (by kernel_rfl)
-- wayzgoose/kin.checkPerson 2
theorem t60 : TabOK (CA prog) prog e60 := entB_ok ca_closed mixed (fs := fs) (tab := [e10]) ⟨t10, trivial⟩ (by kernel_rfl)
-- wayzgoose/kin.checkPerson 2
theorem t61 : TabOK (CA prog) prog e61 := entB_ok ca_closed mixed (fs := fs) (tab := [e19]) ⟨t19, trivial⟩ (by kernel_rfl)
-- slices.SortStableFunc[[]wayzgoose/kin.truth,wayzgoose/kin.truth] 0
theorem t75 : TabOK (CA prog) prog e75 := entB_ok ca_closed mixed (fs := fs) (tab := [e74]) ⟨t74, trivial⟩ (by kernel_rfl)
-- slices.SortStableFunc[[]wayzgoose/kin.truth,wayzgoose/kin.truth] 0
theorem t77 : TabOK (CA prog) prog e77 := entB_ok ca_closed mixed (fs := fs) (tab := [e76]) ⟨t76, trivial⟩ (by kernel_rfl)
-- slices.SortStableFunc[[]wayzgoose/kin.truth,wayzgoose/kin.truth] 1
theorem t83 : TabOK (CA prog) prog e83 := entB_ok ca_closed mixed (fs := fs) (tab := [e82]) ⟨t82, trivial⟩ (by kernel_rfl)
-- slices.SortStableFunc[[]wayzgoose/kin.truth,wayzgoose/kin.truth] 0
theorem t85 : TabOK (CA prog) prog e85 := entB_ok ca_closed mixed (fs := fs) (tab := [e84]) ⟨t84, trivial⟩ (by kernel_rfl)
-- wayzgoose/kin.checkPerson 3
theorem t88 : TabOK (CA prog) prog e88 := entB_ok ca_closed mixed (fs := fs) (tab := [e10]) ⟨t10, trivial⟩ (by kernel_rfl)
-- wayzgoose/kin.checkPerson 3
theorem t89 : TabOK (CA prog) prog e89 := entB_ok ca_closed mixed (fs := fs) (tab := [e12]) ⟨t12, trivial⟩ (by kernel_rfl)
-- wayzgoose/kin.checkPerson 3
theorem t90 : TabOK (CA prog) prog e90 := entB_ok ca_closed mixed (fs := fs) (tab := [e14]) ⟨t14, trivial⟩ (by kernel_rfl)
-- wayzgoose/kin.checkPerson 2
theorem t92 : TabOK (CA prog) prog e92 := entB_ok ca_closed mixed (fs := fs) (tab := [e14]) ⟨t14, trivial⟩ (by kernel_rfl)
-- wayzgoose/kin.checkPerson 2
theorem t93 : TabOK (CA prog) prog e93 := entB_ok ca_closed mixed (fs := fs) (tab := [e10]) ⟨t10, trivial⟩ (by kernel_rfl)
-- wayzgoose/kin.checkPerson 2
theorem t94 : TabOK (CA prog) prog e94 := entB_ok ca_closed mixed (fs := fs) (tab := [e19]) ⟨t19, trivial⟩ (by kernel_rfl)
-- wayzgoose/name.Verdict 18
theorem t99 : TabOK (CA prog) prog e99 := entB_ok ca_closed mixed (fs := fs) (tab := [e14, e10]) ⟨t14, t10, trivial⟩ (by kernel_rfl)
end Go.L.Q
