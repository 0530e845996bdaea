/- Tables of YtecmokfckbfdjaaGreatDoor: each entry is what the program comes to. -/
import Derived.Test.YtecmokfckbfdjaaGreatDoorD1
import Derived.Test.YtecmokfckbfdjaaGreatDoorT1
namespace Go.L.Q
open Go Go.Conc Go.L Go.Proofs
set_option linter.all false
set_option maxRecDepth 100000
-- wayzgoose/kin.checkPerson 3
theorem t356 : TabOK (CA prog) prog e356 := entB_ok ca_closed mixed (fs := fs) (tab := [e14]) ⟨t14, trivial⟩ (by kernel_rfl)
-- wayzgoose/kin.checkPerson 1
theorem t358 : TabOK (CA prog) prog e358 := entB_ok ca_closed mixed (fs := fs) (tab := [e14]) ⟨t14, trivial⟩ (by kernel_rfl)
-- wayzgoose/kin.checkPerson 2
theorem t359 : TabOK (CA prog) prog e359 := entB_ok ca_closed mixed (fs := fs) (tab := [e10]) ⟨t10, trivial⟩ (by kernel_rfl)
-- wayzgoose/kin.checkPerson 2
theorem t360 : TabOK (CA prog) prog e360 := entB_ok ca_closed mixed (fs := fs) (tab := [e19]) ⟨t19, trivial⟩ (by kernel_rfl)
-- wayzgoose/street.Where 34
theorem t363 : TabOK (CA prog) prog e363 := entB_ok ca_closed mixed (fs := fs) (tab := [e3, e2]) ⟨t3, t2, trivial⟩ (by kernel_rfl)
-- wayzgoose/street.Where 34
theorem t364 : TabOK (CA prog) prog e364 := entB_ok ca_closed mixed (fs := fs) (tab := [e3, e2]) ⟨t3, t2, trivial⟩ (by kernel_rfl)
-- wayzgoose/street.Where 34
theorem t365 : TabOK (CA prog) prog e365 := entB_ok ca_closed mixed (fs := fs) (tab := [e3, e2]) ⟨t3, t2, trivial⟩ (by kernel_rfl)
-- wayzgoose/street.Where 30
theorem t366 : TabOK (CA prog) prog e366 := entB_ok ca_closed mixed (fs := fs) (tab := [e5, e4]) ⟨t5, t4, trivial⟩ (by kernel_rfl)
-- wayzgoose/street.Where 32
theorem t367 : TabOK (CA prog) prog e367 := entB_ok ca_closed mixed (fs := fs) (tab := [e5, e4]) ⟨t5, t4, trivial⟩ (by kernel_rfl)
-- wayzgoose/street.Where 31
theorem t368 : TabOK (CA prog) prog e368 := entB_ok ca_closed mixed (fs := fs) (tab := [e5, e4]) ⟨t5, t4, trivial⟩ (by kernel_rfl)
-- wayzgoose/name.Verdict 19
theorem t370 : TabOK (CA prog) prog e370 := entB_ok ca_closed mixed (fs := fs) (tab := [e14, e10]) ⟨t14, t10, trivial⟩ (by kernel_rfl)
-- wayzgoose/name.Verdict 8
theorem t372 : TabOK (CA prog) prog e372 := entB_ok ca_closed mixed (fs := fs) (tab := [e10]) ⟨t10, trivial⟩ (by kernel_rfl)
-- wayzgoose/name.Verdict 36
theorem t374 : TabOK (CA prog) prog e374 := entB_ok ca_closed mixed (fs := fs) (tab := [e19, e10]) ⟨t19, t10, trivial⟩ (by kernel_rfl)
-- wayzgoose/name.Verdict 20
theorem t376 : TabOK (CA prog) prog e376 := entB_ok ca_closed mixed (fs := fs) (tab := [e14, e12]) ⟨t14, t12, trivial⟩ (by kernel_rfl)
-- wayzgoose/name.Verdict 20
theorem t378 : TabOK (CA prog) prog e378 := entB_ok ca_closed mixed (fs := fs) (tab := [e10, e12]) ⟨t10, t12, trivial⟩ (by kernel_rfl)
-- wayzgoose/name.Verdict 20
theorem t380 : TabOK (CA prog) prog e380 := entB_ok ca_closed mixed (fs := fs) (tab := [e19, e12]) ⟨t19, t12, trivial⟩ (by kernel_rfl)
end Go.L.Q
