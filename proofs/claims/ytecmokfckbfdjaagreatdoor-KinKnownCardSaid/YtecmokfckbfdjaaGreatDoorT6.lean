/- Tables of YtecmokfckbfdjaaGreatDoor: each entry is what the program comes to. -/
import Derived.Test.YtecmokfckbfdjaaGreatDoorD1
import Derived.Test.YtecmokfckbfdjaaGreatDoorT1
namespace Go.L.Q
open Go Go.Conc Go.L Go.Proofs
set_option linter.all false
set_option maxRecDepth 100000
-- wayzgoose/name.Verdict 8
theorem t101 : TabOK (CA prog) prog e101 := entB_ok ca_closed mixed (fs := fs) (tab := [e10]) ⟨t10, trivial⟩ (by kernel_rfl)
-- wayzgoose/name.Verdict 36
theorem t103 : TabOK (CA prog) prog e103 := entB_ok ca_closed mixed (fs := fs) (tab := [e19, e10]) ⟨t19, t10, trivial⟩ (by kernel_rfl)
-- wayzgoose/name.Verdict 20
theorem t105 : TabOK (CA prog) prog e105 := entB_ok ca_closed mixed (fs := fs) (tab := [e14, e12]) ⟨t14, t12, trivial⟩ (by kernel_rfl)
-- wayzgoose/name.Verdict 20
theorem t107 : TabOK (CA prog) prog e107 := entB_ok ca_closed mixed (fs := fs) (tab := [e10, e12]) ⟨t10, t12, trivial⟩ (by kernel_rfl)
-- wayzgoose/name.Verdict 20
theorem t109 : TabOK (CA prog) prog e109 := entB_ok ca_closed mixed (fs := fs) (tab := [e19, e12]) ⟨t19, t12, trivial⟩ (by kernel_rfl)
-- wayzgoose/name.Verdict 8
theorem t111 : TabOK (CA prog) prog e111 := entB_ok ca_closed mixed (fs := fs) (tab := [e14]) ⟨t14, trivial⟩ (by kernel_rfl)
-- wayzgoose/name.Verdict 18
theorem t114 : TabOK (CA prog) prog e114 := entB_ok ca_closed mixed (fs := fs) (tab := [e10, e14]) ⟨t10, t14, trivial⟩ (by kernel_rfl)
-- wayzgoose/name.Verdict 36
theorem t116 : TabOK (CA prog) prog e116 := entB_ok ca_closed mixed (fs := fs) (tab := [e19, e14]) ⟨t19, t14, trivial⟩ (by kernel_rfl)
-- wayzgoose/kin.checkPerson 3
theorem t135 : TabOK (CA prog) prog e135 := entB_ok ca_closed mixed (fs := fs) (tab := [e10]) ⟨t10, trivial⟩ (by kernel_rfl)
-- wayzgoose/kin.checkPerson 3
theorem t136 : TabOK (CA prog) prog e136 := entB_ok ca_closed mixed (fs := fs) (tab := [e12]) ⟨t12, trivial⟩ (by kernel_rfl)
-- wayzgoose/kin.checkPerson 2
theorem t137 : TabOK (CA prog) prog e137 := entB_ok ca_closed mixed (fs := fs) (tab := [e14]) ⟨t14, trivial⟩ (by kernel_rfl)
-- wayzgoose/kin.checkPerson 2
theorem t139 : TabOK (CA prog) prog e139 := entB_ok ca_closed mixed (fs := fs) (tab := [e14]) ⟨t14, trivial⟩ (by kernel_rfl)
-- wayzgoose/kin.checkPerson 1
theorem t140 : TabOK (CA prog) prog e140 := entB_ok ca_closed mixed (fs := fs) (tab := [e10]) ⟨t10, trivial⟩ (by kernel_rfl)
-- wayzgoose/kin.checkPerson 2
theorem t141 : TabOK (CA prog) prog e141 := entB_ok ca_closed mixed (fs := fs) (tab := [e19]) ⟨t19, trivial⟩ (by kernel_rfl)
-- wayzgoose/kin.checkPerson 3
theorem t146 : TabOK (CA prog) prog e146 := entB_ok ca_closed mixed (fs := fs) (tab := [e10]) ⟨t10, trivial⟩ (by kernel_rfl)
-- wayzgoose/kin.checkPerson 3
theorem t147 : TabOK (CA prog) prog e147 := entB_ok ca_closed mixed (fs := fs) (tab := [e12]) ⟨t12, trivial⟩ (by kernel_rfl)
-- wayzgoose/kin.checkPerson 3
theorem t152 : TabOK (CA prog) prog e152 := entB_ok ca_closed mixed (fs := fs) (tab := [e10]) ⟨t10, trivial⟩ (by kernel_rfl)
-- wayzgoose/kin.checkPerson 3
theorem t153 : TabOK (CA prog) prog e153 := entB_ok ca_closed mixed (fs := fs) (tab := [e12]) ⟨t12, trivial⟩ (by kernel_rfl)
-- wayzgoose/kin.checkPerson 3
theorem t154 : TabOK (CA prog) prog e154 := entB_ok ca_closed mixed (fs := fs) (tab := [e14]) ⟨t14, trivial⟩ (by kernel_rfl)
-- wayzgoose/kin.checkPerson 2
theorem t156 : TabOK (CA prog) prog e156 := entB_ok ca_closed mixed (fs := fs) (tab := [e14]) ⟨t14, trivial⟩ (by kernel_rfl)
-- wayzgoose/kin.checkPerson 2
theorem t157 : TabOK (CA prog) prog e157 := entB_ok ca_closed mixed (fs := fs) (tab := [e10]) ⟨t10, trivial⟩ (by kernel_rfl)
end Go.L.Q
