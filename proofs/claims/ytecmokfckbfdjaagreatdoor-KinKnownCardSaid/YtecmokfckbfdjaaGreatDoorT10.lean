/- Tables of YtecmokfckbfdjaaGreatDoor: each entry is what the program comes to. -/
import Derived.Test.YtecmokfckbfdjaaGreatDoorD1
import Derived.Test.YtecmokfckbfdjaaGreatDoorT1
import Derived.Test.YtecmokfckbfdjaaGreatDoorT3
import Derived.Test.YtecmokfckbfdjaaGreatDoorT5
import Derived.Test.YtecmokfckbfdjaaGreatDoorT6
namespace Go.L.Q
open Go Go.Conc Go.L Go.Proofs
set_option linter.all false
set_option maxRecDepth 100000
-- (*wayzgoose/kin.family).fits 3
theorem t70 : TabOK (CA prog) prog e70 := entB_ok ca_closed mixed (fs := fs) (tab := [e40]) ⟨t40, trivial⟩ (by kernel_rfl)
-- (*wayzgoose/kin.family).fits 8
theorem t71 : TabOK (CA prog) prog e71 := entB_ok ca_closed mixed (fs := fs) (tab := [e43, e42]) ⟨t43, t42, trivial⟩ (by kernel_rfl)
-- (*wayzgoose/kin.family).fits 5
theorem t72 : TabOK (CA prog) prog e72 := entB_ok ca_closed mixed (fs := fs) (tab := [e45]) ⟨t45, trivial⟩ (by kernel_rfl)
-- (*wayzgoose/kin.family).fits 3
theorem t73 : TabOK (CA prog) prog e73 := entB_ok ca_closed mixed (fs := fs) (tab := [e47]) ⟨t47, trivial⟩ (by kernel_rfl)
-- wayzgoose/kin.checkPeople 3
theorem t91 : TabOK (CA prog) prog e91 := entB_ok ca_closed mixed (fs := fs) (tab := [e90, e89, e88]) ⟨t90, t89, t88, trivial⟩ (by kernel_rfl)
-- wayzgoose/kin.checkPeople 2
theorem t95 : TabOK (CA prog) prog e95 := entB_ok ca_closed mixed (fs := fs) (tab := [e94, e93, e92]) ⟨t94, t93, t92, trivial⟩ (by kernel_rfl)
-- (*wayzgoose/kin.family).fits 5
theorem t100 : TabOK (CA prog) prog e100 := entB_ok ca_closed mixed (fs := fs) (tab := [e99]) ⟨t99, trivial⟩ (by kernel_rfl)
-- (*wayzgoose/kin.family).fits 5
theorem t102 : TabOK (CA prog) prog e102 := entB_ok ca_closed mixed (fs := fs) (tab := [e101]) ⟨t101, trivial⟩ (by kernel_rfl)
-- (*wayzgoose/kin.family).fits 3
theorem t104 : TabOK (CA prog) prog e104 := entB_ok ca_closed mixed (fs := fs) (tab := [e103]) ⟨t103, trivial⟩ (by kernel_rfl)
-- (*wayzgoose/kin.family).fits 4
theorem t106 : TabOK (CA prog) prog e106 := entB_ok ca_closed mixed (fs := fs) (tab := [e105]) ⟨t105, trivial⟩ (by kernel_rfl)
-- (*wayzgoose/kin.family).fits 4
theorem t108 : TabOK (CA prog) prog e108 := entB_ok ca_closed mixed (fs := fs) (tab := [e107]) ⟨t107, trivial⟩ (by kernel_rfl)
-- (*wayzgoose/kin.family).fits 3
theorem t110 : TabOK (CA prog) prog e110 := entB_ok ca_closed mixed (fs := fs) (tab := [e109]) ⟨t109, trivial⟩ (by kernel_rfl)
-- (*wayzgoose/kin.family).fits 10
theorem t113 : TabOK (CA prog) prog e113 := entB_ok ca_closed mixed (fs := fs) (tab := [e112, e111]) ⟨t112, t111, trivial⟩ (by kernel_rfl)
-- (*wayzgoose/kin.family).fits 7
theorem t115 : TabOK (CA prog) prog e115 := entB_ok ca_closed mixed (fs := fs) (tab := [e114]) ⟨t114, trivial⟩ (by kernel_rfl)
-- (*wayzgoose/kin.family).fits 4
theorem t117 : TabOK (CA prog) prog e117 := entB_ok ca_closed mixed (fs := fs) (tab := [e116]) ⟨t116, trivial⟩ (by kernel_rfl)
-- (*wayzgoose/kin.family).fits 6
theorem t119 : TabOK (CA prog) prog e119 := entB_ok ca_closed mixed (fs := fs) (tab := [e99]) ⟨t99, trivial⟩ (by kernel_rfl)
-- (*wayzgoose/kin.family).fits 6
theorem t120 : TabOK (CA prog) prog e120 := entB_ok ca_closed mixed (fs := fs) (tab := [e101]) ⟨t101, trivial⟩ (by kernel_rfl)
-- (*wayzgoose/kin.family).fits 4
theorem t121 : TabOK (CA prog) prog e121 := entB_ok ca_closed mixed (fs := fs) (tab := [e103]) ⟨t103, trivial⟩ (by kernel_rfl)
-- (*wayzgoose/kin.family).fits 3
theorem t122 : TabOK (CA prog) prog e122 := entB_ok ca_closed mixed (fs := fs) (tab := [e105]) ⟨t105, trivial⟩ (by kernel_rfl)
-- (*wayzgoose/kin.family).fits 4
theorem t123 : TabOK (CA prog) prog e123 := entB_ok ca_closed mixed (fs := fs) (tab := [e107]) ⟨t107, trivial⟩ (by kernel_rfl)
-- (*wayzgoose/kin.family).fits 4
theorem t124 : TabOK (CA prog) prog e124 := entB_ok ca_closed mixed (fs := fs) (tab := [e109]) ⟨t109, trivial⟩ (by kernel_rfl)
-- (*wayzgoose/kin.family).fits 10
theorem t125 : TabOK (CA prog) prog e125 := entB_ok ca_closed mixed (fs := fs) (tab := [e112, e111]) ⟨t112, t111, trivial⟩ (by kernel_rfl)
-- (*wayzgoose/kin.family).fits 6
theorem t126 : TabOK (CA prog) prog e126 := entB_ok ca_closed mixed (fs := fs) (tab := [e114]) ⟨t114, trivial⟩ (by kernel_rfl)
end Go.L.Q
