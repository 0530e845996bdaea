/- Tables of YtecmokfckbfdjaaGreatDoor: each entry is what the program comes to. -/
import Derived.Test.YtecmokfckbfdjaaGreatDoorD1
import Derived.Test.YtecmokfckbfdjaaGreatDoorT1
import Derived.Test.YtecmokfckbfdjaaGreatDoorT3
import Derived.Test.YtecmokfckbfdjaaGreatDoorT4
import Derived.Test.YtecmokfckbfdjaaGreatDoorT5
namespace Go.L.Q
open Go Go.Conc Go.L Go.Proofs
set_option linter.all false
set_option maxRecDepth 100000
-- wayzgoose/name.Verdict 8
theorem t382 : TabOK (CA prog) prog e382 := entB_ok ca_closed mixed (fs := fs) (tab := [e14]) ⟨t14, trivial⟩ (by kernel_rfl)
-- wayzgoose/name.Verdict 17
theorem t385 : TabOK (CA prog) prog e385 := entB_ok ca_closed mixed (fs := fs) (tab := [e10, e14]) ⟨t10, t14, trivial⟩ (by kernel_rfl)
-- wayzgoose/name.Verdict 37
theorem t387 : TabOK (CA prog) prog e387 := entB_ok ca_closed mixed (fs := fs) (tab := [e19, e14]) ⟨t19, t14, trivial⟩ (by kernel_rfl)
-- slices.SortStableFunc[[]wayzgoose/kin.truth,wayzgoose/kin.truth] 0
theorem t390 : TabOK (CA prog) prog e390 := entB_ok ca_closed mixed (fs := fs) (tab := [e389]) ⟨t389, trivial⟩ (by kernel_rfl)
-- slices.SortStableFunc[[]wayzgoose/kin.truth,wayzgoose/kin.truth] 0
theorem t392 : TabOK (CA prog) prog e392 := entB_ok ca_closed mixed (fs := fs) (tab := [e391]) ⟨t391, trivial⟩ (by kernel_rfl)
-- wayzgoose/kin.checkPeople 2
theorem t16 : TabOK (CA prog) prog e16 := entB_ok ca_closed mixed (fs := fs) (tab := [e15, e13, e11]) ⟨t15, t13, t11, trivial⟩ (by kernel_rfl)
-- wayzgoose/kin.checkPeople 3
theorem t21 : TabOK (CA prog) prog e21 := entB_ok ca_closed mixed (fs := fs) (tab := [e20, e18, e17]) ⟨t20, t18, t17, trivial⟩ (by kernel_rfl)
-- (*wayzgoose/kin.family).fits 6
theorem t31 : TabOK (CA prog) prog e31 := entB_ok ca_closed mixed (fs := fs) (tab := [e30]) ⟨t30, trivial⟩ (by kernel_rfl)
-- (*wayzgoose/kin.family).fits 5
theorem t33 : TabOK (CA prog) prog e33 := entB_ok ca_closed mixed (fs := fs) (tab := [e32]) ⟨t32, trivial⟩ (by kernel_rfl)
-- (*wayzgoose/kin.family).fits 3
theorem t35 : TabOK (CA prog) prog e35 := entB_ok ca_closed mixed (fs := fs) (tab := [e34]) ⟨t34, trivial⟩ (by kernel_rfl)
-- (*wayzgoose/kin.family).fits 3
theorem t37 : TabOK (CA prog) prog e37 := entB_ok ca_closed mixed (fs := fs) (tab := [e36]) ⟨t36, trivial⟩ (by kernel_rfl)
-- (*wayzgoose/kin.family).fits 4
theorem t39 : TabOK (CA prog) prog e39 := entB_ok ca_closed mixed (fs := fs) (tab := [e38]) ⟨t38, trivial⟩ (by kernel_rfl)
-- (*wayzgoose/kin.family).fits 4
theorem t41 : TabOK (CA prog) prog e41 := entB_ok ca_closed mixed (fs := fs) (tab := [e40]) ⟨t40, trivial⟩ (by kernel_rfl)
-- (*wayzgoose/kin.family).fits 9
theorem t44 : TabOK (CA prog) prog e44 := entB_ok ca_closed mixed (fs := fs) (tab := [e43, e42]) ⟨t43, t42, trivial⟩ (by kernel_rfl)
-- (*wayzgoose/kin.family).fits 5
theorem t46 : TabOK (CA prog) prog e46 := entB_ok ca_closed mixed (fs := fs) (tab := [e45]) ⟨t45, trivial⟩ (by kernel_rfl)
-- (*wayzgoose/kin.family).fits 4
theorem t48 : TabOK (CA prog) prog e48 := entB_ok ca_closed mixed (fs := fs) (tab := [e47]) ⟨t47, trivial⟩ (by kernel_rfl)
-- wayzgoose/kin.checkPeople 2
theorem t58 : TabOK (CA prog) prog e58 := entB_ok ca_closed mixed (fs := fs) (tab := [e57, e56, e55]) ⟨t57, t56, t55, trivial⟩ (by kernel_rfl)
-- wayzgoose/kin.checkPeople 2
theorem t62 : TabOK (CA prog) prog e62 := entB_ok ca_closed mixed (fs := fs) (tab := [e61, e60, e59]) ⟨t61, t60, t59, trivial⟩ (by kernel_rfl)
-- (*wayzgoose/kin.family).fits 5
theorem t65 : TabOK (CA prog) prog e65 := entB_ok ca_closed mixed (fs := fs) (tab := [e30]) ⟨t30, trivial⟩ (by kernel_rfl)
-- (*wayzgoose/kin.family).fits 5
theorem t66 : TabOK (CA prog) prog e66 := entB_ok ca_closed mixed (fs := fs) (tab := [e32]) ⟨t32, trivial⟩ (by kernel_rfl)
-- (*wayzgoose/kin.family).fits 4
theorem t67 : TabOK (CA prog) prog e67 := entB_ok ca_closed mixed (fs := fs) (tab := [e34]) ⟨t34, trivial⟩ (by kernel_rfl)
-- (*wayzgoose/kin.family).fits 4
theorem t68 : TabOK (CA prog) prog e68 := entB_ok ca_closed mixed (fs := fs) (tab := [e36]) ⟨t36, trivial⟩ (by kernel_rfl)
-- (*wayzgoose/kin.family).fits 3
theorem t69 : TabOK (CA prog) prog e69 := entB_ok ca_closed mixed (fs := fs) (tab := [e38]) ⟨t38, trivial⟩ (by kernel_rfl)
end Go.L.Q
