/- Tables of YtecmokfckbfdjaaGreatDoor: each entry is what the program comes to. -/
import Derived.Test.YtecmokfckbfdjaaGreatDoorD1
import Derived.Test.YtecmokfckbfdjaaGreatDoorT1
import Derived.Test.YtecmokfckbfdjaaGreatDoorT10
import Derived.Test.YtecmokfckbfdjaaGreatDoorT3
import Derived.Test.YtecmokfckbfdjaaGreatDoorT5
import Derived.Test.YtecmokfckbfdjaaGreatDoorT6
import Derived.Test.YtecmokfckbfdjaaGreatDoorT7
import Derived.Test.YtecmokfckbfdjaaGreatDoorT8
import Derived.Test.YtecmokfckbfdjaaGreatDoorT9
namespace Go.L.Q
open Go Go.Conc Go.L Go.Proofs
set_option linter.all false
set_option maxRecDepth 100000
-- (*wayzgoose/kin.family).fits 3
theorem t347 : TabOK (CA prog) prog e347 := entB_ok ca_closed mixed (fs := fs) (tab := [e116]) ⟨t116, trivial⟩ (by kernel_rfl)
-- wayzgoose/kin.checkPeople 1
theorem t357 : TabOK (CA prog) prog e357 := entB_ok ca_closed mixed (fs := fs) (tab := [e356, e355, e354]) ⟨t356, t355, t354, trivial⟩ (by kernel_rfl)
-- wayzgoose/kin.checkPeople 3
theorem t361 : TabOK (CA prog) prog e361 := entB_ok ca_closed mixed (fs := fs) (tab := [e360, e359, e358]) ⟨t360, t359, t358, trivial⟩ (by kernel_rfl)
-- (*wayzgoose/kin.family).fits 5
theorem t371 : TabOK (CA prog) prog e371 := entB_ok ca_closed mixed (fs := fs) (tab := [e370]) ⟨t370, trivial⟩ (by kernel_rfl)
-- (*wayzgoose/kin.family).fits 6
theorem t373 : TabOK (CA prog) prog e373 := entB_ok ca_closed mixed (fs := fs) (tab := [e372]) ⟨t372, trivial⟩ (by kernel_rfl)
-- (*wayzgoose/kin.family).fits 4
theorem t375 : TabOK (CA prog) prog e375 := entB_ok ca_closed mixed (fs := fs) (tab := [e374]) ⟨t374, trivial⟩ (by kernel_rfl)
-- (*wayzgoose/kin.family).fits 4
theorem t377 : TabOK (CA prog) prog e377 := entB_ok ca_closed mixed (fs := fs) (tab := [e376]) ⟨t376, trivial⟩ (by kernel_rfl)
-- (*wayzgoose/kin.family).fits 3
theorem t379 : TabOK (CA prog) prog e379 := entB_ok ca_closed mixed (fs := fs) (tab := [e378]) ⟨t378, trivial⟩ (by kernel_rfl)
-- (*wayzgoose/kin.family).fits 3
theorem t381 : TabOK (CA prog) prog e381 := entB_ok ca_closed mixed (fs := fs) (tab := [e380]) ⟨t380, trivial⟩ (by kernel_rfl)
-- (*wayzgoose/kin.family).fits 10
theorem t384 : TabOK (CA prog) prog e384 := entB_ok ca_closed mixed (fs := fs) (tab := [e383, e382]) ⟨t383, t382, trivial⟩ (by kernel_rfl)
-- (*wayzgoose/kin.family).fits 7
theorem t386 : TabOK (CA prog) prog e386 := entB_ok ca_closed mixed (fs := fs) (tab := [e385]) ⟨t385, trivial⟩ (by kernel_rfl)
-- (*wayzgoose/kin.family).fits 3
theorem t388 : TabOK (CA prog) prog e388 := entB_ok ca_closed mixed (fs := fs) (tab := [e387]) ⟨t387, trivial⟩ (by kernel_rfl)
-- wayzgoose/kin.check 4
theorem t22 : TabOK (CA prog) prog e22 := entB_ok ca_closed mixed (fs := fs) (tab := [e21, e16, e9, e7, e6]) ⟨t21, t16, t9, t7, t6, trivial⟩ (by kernel_rfl)
-- (*wayzgoose/kin.family).each 131
theorem t53 : TabOK (C0 prog) prog e53 := eachEB_ok each_ok mixed (fs := fs) (tab := [e52, e50, e48, e46, e44, e41, e39, e37, e35, e33, e31]) ⟨t52, t50, t48, t46, t44, t41, t39, t37, t35, t33, t31, trivial⟩ rfl (by kernel_rfl)
-- wayzgoose/kin.check 3
theorem t63 : TabOK (CA prog) prog e63 := entB_ok ca_closed mixed (fs := fs) (tab := [e62, e58, e9, e7, e6]) ⟨t62, t58, t9, t7, t6, trivial⟩ (by kernel_rfl)
-- (*wayzgoose/kin.family).each 132
theorem t78 : TabOK (C0 prog) prog e78 := eachEB_ok each_ok mixed (fs := fs) (tab := [e77, e75, e73, e72, e71, e70, e69, e68, e67, e66, e65]) ⟨t77, t75, t73, t72, t71, t70, t69, t68, t67, t66, t65, trivial⟩ rfl (by kernel_rfl)
end Go.L.Q
