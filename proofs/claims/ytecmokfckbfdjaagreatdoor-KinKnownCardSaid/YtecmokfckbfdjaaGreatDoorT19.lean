/- Tables of YtecmokfckbfdjaaGreatDoor: each entry is what the program comes to. -/
import Derived.Test.YtecmokfckbfdjaaGreatDoorD1
import Derived.Test.YtecmokfckbfdjaaGreatDoorT15
import Derived.Test.YtecmokfckbfdjaaGreatDoorT16
import Derived.Test.YtecmokfckbfdjaaGreatDoorT17
import Derived.Test.YtecmokfckbfdjaaGreatDoorT18
import Derived.Test.YtecmokfckbfdjaaGreatDoorT3
import Derived.Test.YtecmokfckbfdjaaGreatDoorT4
import Derived.Test.YtecmokfckbfdjaaGreatDoorT7
import Derived.Test.YtecmokfckbfdjaaGreatDoorT8
import Derived.Test.YtecmokfckbfdjaaGreatDoorT9
namespace Go.L.Q
open Go Go.Conc Go.L Go.Proofs
set_option linter.all false
set_option maxRecDepth 100000
-- (*wayzgoose/kin.family).can 50
theorem t348 : TabOK (CA prog) prog e348 := entB_ok ca_closed mixed (fs := fs) (tab := [e347, e346, e345, e344, e343, e342, e341, e340, e339]) ⟨t347, t346, t345, t344, t343, t342, t341, t340, t339, trivial⟩ (by kernel_rfl)
-- wayzgoose/kin.check 4
theorem t362 : TabOK (CA prog) prog e362 := entB_ok ca_closed mixed (fs := fs) (tab := [e361, e357, e353, e352, e351]) ⟨t361, t357, t353, t352, t351, trivial⟩ (by kernel_rfl)
-- (*wayzgoose/kin.family).each 92
theorem t393 : TabOK (C0 prog) prog e393 := eachEB_ok each_ok mixed (fs := fs) (tab := [e392, e390, e388, e386, e384, e381, e379, e377, e375, e373, e371]) ⟨t392, t390, t388, t386, t384, t381, t379, t377, t375, t373, t371, trivial⟩ rfl (by kernel_rfl)
-- wayzgoose/kin.begin 43
theorem t29 : TabOK (CA prog) prog e29 := entB_ok ca_closed mixed (fs := fs) (tab := [e28, e27, e26, e25, e24, e23, e22]) ⟨t28, t27, t26, t25, t24, t23, t22, trivial⟩ (by kernel_rfl)
-- wayzgoose/kin.begin 41
theorem t64 : TabOK (CA prog) prog e64 := entB_ok ca_closed mixed (fs := fs) (tab := [e28, e27, e26, e25, e24, e23, e63]) ⟨t28, t27, t26, t25, t24, t23, t63, trivial⟩ (by kernel_rfl)
-- wayzgoose/kin.begin 42
theorem t97 : TabOK (CA prog) prog e97 := entB_ok ca_closed mixed (fs := fs) (tab := [e28, e27, e26, e25, e24, e23, e96]) ⟨t28, t27, t26, t25, t24, t23, t96, trivial⟩ (by kernel_rfl)
-- wayzgoose/kin.begin 1
theorem t144 : TabOK (CA prog) prog e144 := entB_ok ca_closed mixed (fs := fs) (tab := [e143]) ⟨t143, trivial⟩ (by kernel_rfl)
-- wayzgoose/kin.begin 2
theorem t150 : TabOK (CA prog) prog e150 := entB_ok ca_closed mixed (fs := fs) (tab := [e149]) ⟨t149, trivial⟩ (by kernel_rfl)
-- wayzgoose/kin.begin 0
theorem t161 : TabOK (CA prog) prog e161 := entB_ok ca_closed mixed (fs := fs) (tab := [e160]) ⟨t160, trivial⟩ (by kernel_rfl)
-- wayzgoose/kin.begin 42
theorem t177 : TabOK (CA prog) prog e177 := entB_ok ca_closed mixed (fs := fs) (tab := [e28, e27, e26, e25, e24, e23, e176]) ⟨t28, t27, t26, t25, t24, t23, t176, trivial⟩ (by kernel_rfl)
-- wayzgoose/kin.begin 43
theorem t189 : TabOK (CA prog) prog e189 := entB_ok ca_closed mixed (fs := fs) (tab := [e28, e27, e26, e25, e24, e23, e188]) ⟨t28, t27, t26, t25, t24, t23, t188, trivial⟩ (by kernel_rfl)
-- wayzgoose/kin.begin 43
theorem t250 : TabOK (CA prog) prog e250 := entB_ok ca_closed mixed (fs := fs) (tab := [e28, e27, e26, e25, e24, e23, e249]) ⟨t28, t27, t26, t25, t24, t23, t249, trivial⟩ (by kernel_rfl)
-- wayzgoose/kin.begin 40
theorem t369 : TabOK (CA prog) prog e369 := entB_ok ca_closed mixed (fs := fs) (tab := [e368, e367, e366, e365, e364, e363, e362]) ⟨t368, t367, t366, t365, t364, t363, t362, trivial⟩ (by kernel_rfl)
end Go.L.Q
