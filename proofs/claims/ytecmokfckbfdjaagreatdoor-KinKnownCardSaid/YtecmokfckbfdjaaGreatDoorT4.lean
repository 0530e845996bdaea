/- Tables of YtecmokfckbfdjaaGreatDoor: each entry is what the program comes to. -/
import Derived.Test.YtecmokfckbfdjaaGreatDoorD1
import Derived.Test.YtecmokfckbfdjaaGreatDoorT1
namespace Go.L.Q
open Go Go.Conc Go.L Go.Proofs
set_option linter.all false
set_option maxRecDepth 100000
-- wayzgoose/kin.checkPerson 2
theorem t11 : TabOK (CA prog) prog e11 := entB_ok ca_closed mixed (fs := fs) (tab := [e10]) ⟨t10, trivial⟩ (by kernel_rfl)
-- wayzgoose/kin.checkPerson 3
theorem t13 : TabOK (CA prog) prog e13 := entB_ok ca_closed mixed (fs := fs) (tab := [e12]) ⟨t12, trivial⟩ (by kernel_rfl)
-- wayzgoose/kin.checkPerson 2
theorem t15 : TabOK (CA prog) prog e15 := entB_ok ca_closed mixed (fs := fs) (tab := [e14]) ⟨t14, trivial⟩ (by kernel_rfl)
-- wayzgoose/kin.checkPerson 2
theorem t17 : TabOK (CA prog) prog e17 := entB_ok ca_closed mixed (fs := fs) (tab := [e14]) ⟨t14, trivial⟩ (by kernel_rfl)
-- wayzgoose/kin.checkPerson 2
theorem t18 : TabOK (CA prog) prog e18 := entB_ok ca_closed mixed (fs := fs) (tab := [e10]) ⟨t10, trivial⟩ (by kernel_rfl)
-- wayzgoose/kin.checkPerson 2
theorem t20 : TabOK (CA prog) prog e20 := entB_ok ca_closed mixed (fs := fs) (tab := [e19]) ⟨t19, trivial⟩ (by kernel_rfl)
-- wayzgoose/street.Where 32
theorem t23 : TabOK (CA prog) prog e23 := entB_ok ca_closed mixed (fs := fs) (tab := [e3, e2]) ⟨t3, t2, trivial⟩ (by kernel_rfl)
-- wayzgoose/street.Where 33
theorem t24 : TabOK (CA prog) prog e24 := entB_ok ca_closed mixed (fs := fs) (tab := [e3, e2]) ⟨t3, t2, trivial⟩ (by kernel_rfl)
-- wayzgoose/street.Where 33
theorem t25 : TabOK (CA prog) prog e25 := entB_ok ca_closed mixed (fs := fs) (tab := [e3, e2]) ⟨t3, t2, trivial⟩ (by kernel_rfl)
-- wayzgoose/street.Where 30
theorem t26 : TabOK (CA prog) prog e26 := entB_ok ca_closed mixed (fs := fs) (tab := [e5, e4]) ⟨t5, t4, trivial⟩ (by kernel_rfl)
-- wayzgoose/street.Where 31
theorem t27 : TabOK (CA prog) prog e27 := entB_ok ca_closed mixed (fs := fs) (tab := [e5, e4]) ⟨t5, t4, trivial⟩ (by kernel_rfl)
-- wayzgoose/street.Where 31
theorem t28 : TabOK (CA prog) prog e28 := entB_ok ca_closed mixed (fs := fs) (tab := [e5, e4]) ⟨t5, t4, trivial⟩ (by kernel_rfl)
-- wayzgoose/name.Verdict 18
theorem t30 : TabOK (CA prog) prog e30 := entB_ok ca_closed mixed (fs := fs) (tab := [e14, e10]) ⟨t14, t10, trivial⟩ (by kernel_rfl)
-- wayzgoose/name.Verdict 8
theorem t32 : TabOK (CA prog) prog e32 := entB_ok ca_closed mixed (fs := fs) (tab := [e10]) ⟨t10, trivial⟩ (by kernel_rfl)
-- wayzgoose/name.Verdict 36
theorem t34 : TabOK (CA prog) prog e34 := entB_ok ca_closed mixed (fs := fs) (tab := [e19, e10]) ⟨t19, t10, trivial⟩ (by kernel_rfl)
-- wayzgoose/name.Verdict 20
theorem t36 : TabOK (CA prog) prog e36 := entB_ok ca_closed mixed (fs := fs) (tab := [e14, e12]) ⟨t14, t12, trivial⟩ (by kernel_rfl)
-- wayzgoose/name.Verdict 20
theorem t38 : TabOK (CA prog) prog e38 := entB_ok ca_closed mixed (fs := fs) (tab := [e10, e12]) ⟨t10, t12, trivial⟩ (by kernel_rfl)
end Go.L.Q
