/- Tables of YtecmokfckbfdjaaGreatDoor: each entry is what the program comes to. -/
import Derived.Test.YtecmokfckbfdjaaGreatDoorD1
import Derived.Test.YtecmokfckbfdjaaGreatDoorT1
import Derived.Test.YtecmokfckbfdjaaGreatDoorT3
namespace Go.L.Q
open Go Go.Conc Go.L Go.Proofs
set_option linter.all false
set_option maxRecDepth 100000
-- wayzgoose/kin.checkPerson 2
theorem t158 : TabOK (CA prog) prog e158 := entB_ok ca_closed mixed (fs := fs) (tab := [e19]) ⟨t19, trivial⟩ (by kernel_rfl)
-- wayzgoose/kin.checkPerson 3
theorem t168 : TabOK (CA prog) prog e168 := entB_ok ca_closed mixed (fs := fs) (tab := [e10]) ⟨t10, trivial⟩ (by kernel_rfl)
-- wayzgoose/kin.checkPerson 3
theorem t169 : TabOK (CA prog) prog e169 := entB_ok ca_closed mixed (fs := fs) (tab := [e12]) ⟨t12, trivial⟩ (by kernel_rfl)
-- wayzgoose/kin.checkPerson 2
theorem t170 : TabOK (CA prog) prog e170 := entB_ok ca_closed mixed (fs := fs) (tab := [e14]) ⟨t14, trivial⟩ (by kernel_rfl)
-- wayzgoose/kin.checkPerson 2
theorem t172 : TabOK (CA prog) prog e172 := entB_ok ca_closed mixed (fs := fs) (tab := [e14]) ⟨t14, trivial⟩ (by kernel_rfl)
-- wayzgoose/kin.checkPerson 1
theorem t173 : TabOK (CA prog) prog e173 := entB_ok ca_closed mixed (fs := fs) (tab := [e10]) ⟨t10, trivial⟩ (by kernel_rfl)
-- wayzgoose/kin.checkPerson 2
theorem t174 : TabOK (CA prog) prog e174 := entB_ok ca_closed mixed (fs := fs) (tab := [e19]) ⟨t19, trivial⟩ (by kernel_rfl)
-- wayzgoose/kin.checkPerson 3
theorem t180 : TabOK (CA prog) prog e180 := entB_ok ca_closed mixed (fs := fs) (tab := [e10]) ⟨t10, trivial⟩ (by kernel_rfl)
-- wayzgoose/kin.checkPerson 3
theorem t181 : TabOK (CA prog) prog e181 := entB_ok ca_closed mixed (fs := fs) (tab := [e12]) ⟨t12, trivial⟩ (by kernel_rfl)
-- wayzgoose/kin.checkPerson 2
theorem t182 : TabOK (CA prog) prog e182 := entB_ok ca_closed mixed (fs := fs) (tab := [e14]) ⟨t14, trivial⟩ (by kernel_rfl)
-- wayzgoose/kin.checkPerson 2
theorem t184 : TabOK (CA prog) prog e184 := entB_ok ca_closed mixed (fs := fs) (tab := [e14]) ⟨t14, trivial⟩ (by kernel_rfl)
-- wayzgoose/kin.checkPerson 1
theorem t185 : TabOK (CA prog) prog e185 := entB_ok ca_closed mixed (fs := fs) (tab := [e10]) ⟨t10, trivial⟩ (by kernel_rfl)
-- wayzgoose/kin.checkPerson 2
theorem t186 : TabOK (CA prog) prog e186 := entB_ok ca_closed mixed (fs := fs) (tab := [e19]) ⟨t19, trivial⟩ (by kernel_rfl)
-- slices.SortStableFunc[[]wayzgoose/kin.truth,wayzgoose/kin.truth] 0
theorem t200 : TabOK (CA prog) prog e200 := entB_ok ca_closed mixed (fs := fs) (tab := [e199]) ⟨t199, trivial⟩ (by kernel_rfl)
-- wayzgoose/kin.checkPerson 3
theorem t241 : TabOK (CA prog) prog e241 := entB_ok ca_closed mixed (fs := fs) (tab := [e10]) ⟨t10, trivial⟩ (by kernel_rfl)
-- wayzgoose/kin.checkPerson 3
theorem t242 : TabOK (CA prog) prog e242 := entB_ok ca_closed mixed (fs := fs) (tab := [e12]) ⟨t12, trivial⟩ (by kernel_rfl)
-- wayzgoose/kin.checkPerson 3
theorem t243 : TabOK (CA prog) prog e243 := entB_ok ca_closed mixed (fs := fs) (tab := [e14]) ⟨t14, trivial⟩ (by kernel_rfl)
-- wayzgoose/kin.checkPerson 2
theorem t245 : TabOK (CA prog) prog e245 := entB_ok ca_closed mixed (fs := fs) (tab := [e14]) ⟨t14, trivial⟩ (by kernel_rfl)
-- wayzgoose/kin.checkPerson 2
theorem t246 : TabOK (CA prog) prog e246 := entB_ok ca_closed mixed (fs := fs) (tab := [e10]) ⟨t10, trivial⟩ (by kernel_rfl)
-- wayzgoose/kin.checkPerson 2
theorem t247 : TabOK (CA prog) prog e247 := entB_ok ca_closed mixed (fs := fs) (tab := [e19]) ⟨t19, trivial⟩ (by kernel_rfl)
-- wayzgoose/street.Truths 46
theorem t351 : TabOK (CA prog) prog e351 := entB_ok ca_closed mixed (fs := fs) (tab := [e5, e4, e3, e2]) ⟨t5, t4, t3, t2, trivial⟩ (by kernel_rfl)
-- wayzgoose/name.Verdict 5
theorem t353 : TabOK (CA prog) prog e353 := entB_ok ca_closed mixed (fs := fs) (tab := [e8]) ⟨t8, trivial⟩ (by kernel_rfl)
-- wayzgoose/kin.checkPerson 3
theorem t354 : TabOK (CA prog) prog e354 := entB_ok ca_closed mixed (fs := fs) (tab := [e10]) ⟨t10, trivial⟩ (by kernel_rfl)
-- wayzgoose/kin.checkPerson 4
theorem t355 : TabOK (CA prog) prog e355 := entB_ok ca_closed mixed (fs := fs) (tab := [e12]) ⟨t12, trivial⟩ (by kernel_rfl)
end Go.L.Q
