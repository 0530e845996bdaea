/- Tables of YtecmokfckbfdjaaGreatDoor: each entry is what the program comes to. -/
import Derived.Test.YtecmokfckbfdjaaGreatDoorD1
import Derived.Test.YtecmokfckbfdjaaGreatDoorT1
import Derived.Test.YtecmokfckbfdjaaGreatDoorT10
import Derived.Test.YtecmokfckbfdjaaGreatDoorT11
import Derived.Test.YtecmokfckbfdjaaGreatDoorT12
import Derived.Test.YtecmokfckbfdjaaGreatDoorT3
import Derived.Test.YtecmokfckbfdjaaGreatDoorT5
import Derived.Test.YtecmokfckbfdjaaGreatDoorT7
import Derived.Test.YtecmokfckbfdjaaGreatDoorT9
namespace Go.L.Q
open Go Go.Conc Go.L Go.Proofs
set_option linter.all false
set_option maxRecDepth 100000
-- (*wayzgoose/kin.family).each 102
theorem t86 : TabOK (C0 prog) prog e86 := eachEB_ok each_ok mixed (fs := fs) (tab := [e85, e83, e73, e72, e71, e70, e69, e68, e67, e66, e65]) ⟨t85, t83, t73, t72, t71, t70, t69, t68, t67, t66, t65, trivial⟩ rfl (by kernel_rfl)
-- wayzgoose/kin.check 5
theorem t96 : TabOK (CA prog) prog e96 := entB_ok ca_closed mixed (fs := fs) (tab := [e95, e91, e9, e7, e6]) ⟨t95, t91, t9, t7, t6, trivial⟩ (by kernel_rfl)
-- (*wayzgoose/kin.family).can 37
theorem t118 : TabOK (CA prog) prog e118 := entB_ok ca_closed mixed (fs := fs) (tab := [e117, e115, e113, e110, e108, e106, e104, e102, e100]) ⟨t117, t115, t113, t110, t108, t106, t104, t102, t100, trivial⟩ (by kernel_rfl)
-- (*wayzgoose/kin.family).can 57
theorem t128 : TabOK (CA prog) prog e128 := entB_ok ca_closed mixed (fs := fs) (tab := [e127, e126, e125, e124, e123, e122, e121, e120, e119]) ⟨t127, t126, t125, t124, t123, t122, t121, t120, t119, trivial⟩ (by kernel_rfl)
-- wayzgoose/kin.check 3
theorem t143 : TabOK (CA prog) prog e143 := entB_ok ca_closed mixed (fs := fs) (tab := [e142, e138, e9, e7, e6]) ⟨t142, t138, t9, t7, t6, trivial⟩ (by kernel_rfl)
-- wayzgoose/kin.check 1
theorem t149 : TabOK (CA prog) prog e149 := entB_ok ca_closed mixed (fs := fs) (tab := [e148, e9, e7, e6]) ⟨t148, t9, t7, t6, trivial⟩ (by kernel_rfl)
-- wayzgoose/kin.check 6
theorem t160 : TabOK (CA prog) prog e160 := entB_ok ca_closed mixed (fs := fs) (tab := [e159, e155, e9, e7, e6]) ⟨t159, t155, t9, t7, t6, trivial⟩ (by kernel_rfl)
-- wayzgoose/kin.check 4
theorem t176 : TabOK (CA prog) prog e176 := entB_ok ca_closed mixed (fs := fs) (tab := [e175, e171, e9, e7, e6]) ⟨t175, t171, t9, t7, t6, trivial⟩ (by kernel_rfl)
-- wayzgoose/kin.check 2
theorem t188 : TabOK (CA prog) prog e188 := entB_ok ca_closed mixed (fs := fs) (tab := [e187, e183, e9, e7, e6]) ⟨t187, t183, t9, t7, t6, trivial⟩ (by kernel_rfl)
-- (*wayzgoose/kin.family).each 133
theorem t201 : TabOK (C0 prog) prog e201 := eachEB_ok each_ok mixed (fs := fs) (tab := [e200, e198, e197, e196, e195, e194, e193, e192, e191, e190]) ⟨t200, t198, t197, t196, t195, t194, t193, t192, t191, t190, trivial⟩ rfl (by kernel_rfl)
-- (*wayzgoose/kin.family).can 89
theorem t229 : TabOK (CA prog) prog e229 := entB_ok ca_closed mixed (fs := fs) (tab := [e228, e227, e226, e225, e224, e223, e222, e221, e220]) ⟨t228, t227, t226, t225, t224, t223, t222, t221, t220, trivial⟩ (by kernel_rfl)
-- (*wayzgoose/kin.family).can 50
theorem t239 : TabOK (CA prog) prog e239 := entB_ok ca_closed mixed (fs := fs) (tab := [e238, e237, e236, e235, e234, e233, e232, e231, e230]) ⟨t238, t237, t236, t235, t234, t233, t232, t231, t230, trivial⟩ (by kernel_rfl)
end Go.L.Q
