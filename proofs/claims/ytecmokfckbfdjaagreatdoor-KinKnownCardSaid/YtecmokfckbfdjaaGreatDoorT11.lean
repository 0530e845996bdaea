/- Tables of YtecmokfckbfdjaaGreatDoor: each entry is what the program comes to. -/
import Derived.Test.YtecmokfckbfdjaaGreatDoorD1
import Derived.Test.YtecmokfckbfdjaaGreatDoorT1
import Derived.Test.YtecmokfckbfdjaaGreatDoorT4
import Derived.Test.YtecmokfckbfdjaaGreatDoorT5
import Derived.Test.YtecmokfckbfdjaaGreatDoorT6
import Derived.Test.YtecmokfckbfdjaaGreatDoorT7
namespace Go.L.Q
open Go Go.Conc Go.L Go.Proofs
set_option linter.all false
set_option maxRecDepth 100000
-- (*wayzgoose/kin.family).fits 3
theorem t127 : TabOK (CA prog) prog e127 := entB_ok ca_closed mixed (fs := fs) (tab := [e116]) ⟨t116, trivial⟩ (by kernel_rfl)
-- wayzgoose/kin.checkPeople 3
theorem t138 : TabOK (CA prog) prog e138 := entB_ok ca_closed mixed (fs := fs) (tab := [e137, e136, e135]) ⟨t137, t136, t135, trivial⟩ (by kernel_rfl)
-- wayzgoose/kin.checkPeople 3
theorem t142 : TabOK (CA prog) prog e142 := entB_ok ca_closed mixed (fs := fs) (tab := [e141, e140, e139]) ⟨t141, t140, t139, trivial⟩ (by kernel_rfl)
-- wayzgoose/kin.checkPeople 1
theorem t148 : TabOK (CA prog) prog e148 := entB_ok ca_closed mixed (fs := fs) (tab := [e147, e146]) ⟨t147, t146, trivial⟩ (by kernel_rfl)
-- wayzgoose/kin.checkPeople 2
theorem t155 : TabOK (CA prog) prog e155 := entB_ok ca_closed mixed (fs := fs) (tab := [e154, e153, e152]) ⟨t154, t153, t152, trivial⟩ (by kernel_rfl)
-- wayzgoose/kin.checkPeople 2
theorem t159 : TabOK (CA prog) prog e159 := entB_ok ca_closed mixed (fs := fs) (tab := [e158, e157, e156]) ⟨t158, t157, t156, trivial⟩ (by kernel_rfl)
-- wayzgoose/kin.checkPeople 3
theorem t171 : TabOK (CA prog) prog e171 := entB_ok ca_closed mixed (fs := fs) (tab := [e170, e169, e168]) ⟨t170, t169, t168, trivial⟩ (by kernel_rfl)
-- wayzgoose/kin.checkPeople 3
theorem t175 : TabOK (CA prog) prog e175 := entB_ok ca_closed mixed (fs := fs) (tab := [e174, e173, e172]) ⟨t174, t173, t172, trivial⟩ (by kernel_rfl)
-- wayzgoose/kin.checkPeople 3
theorem t183 : TabOK (CA prog) prog e183 := entB_ok ca_closed mixed (fs := fs) (tab := [e182, e181, e180]) ⟨t182, t181, t180, trivial⟩ (by kernel_rfl)
-- wayzgoose/kin.checkPeople 3
theorem t187 : TabOK (CA prog) prog e187 := entB_ok ca_closed mixed (fs := fs) (tab := [e186, e185, e184]) ⟨t186, t185, t184, trivial⟩ (by kernel_rfl)
-- (*wayzgoose/kin.family).fits 5
theorem t190 : TabOK (CA prog) prog e190 := entB_ok ca_closed mixed (fs := fs) (tab := [e30]) ⟨t30, trivial⟩ (by kernel_rfl)
-- (*wayzgoose/kin.family).fits 5
theorem t191 : TabOK (CA prog) prog e191 := entB_ok ca_closed mixed (fs := fs) (tab := [e32]) ⟨t32, trivial⟩ (by kernel_rfl)
-- (*wayzgoose/kin.family).fits 3
theorem t192 : TabOK (CA prog) prog e192 := entB_ok ca_closed mixed (fs := fs) (tab := [e34]) ⟨t34, trivial⟩ (by kernel_rfl)
-- (*wayzgoose/kin.family).fits 3
theorem t193 : TabOK (CA prog) prog e193 := entB_ok ca_closed mixed (fs := fs) (tab := [e36]) ⟨t36, trivial⟩ (by kernel_rfl)
-- (*wayzgoose/kin.family).fits 3
theorem t194 : TabOK (CA prog) prog e194 := entB_ok ca_closed mixed (fs := fs) (tab := [e38]) ⟨t38, trivial⟩ (by kernel_rfl)
-- (*wayzgoose/kin.family).fits 3
theorem t195 : TabOK (CA prog) prog e195 := entB_ok ca_closed mixed (fs := fs) (tab := [e40]) ⟨t40, trivial⟩ (by kernel_rfl)
-- (*wayzgoose/kin.family).fits 8
theorem t196 : TabOK (CA prog) prog e196 := entB_ok ca_closed mixed (fs := fs) (tab := [e43, e42]) ⟨t43, t42, trivial⟩ (by kernel_rfl)
-- (*wayzgoose/kin.family).fits 5
theorem t197 : TabOK (CA prog) prog e197 := entB_ok ca_closed mixed (fs := fs) (tab := [e45]) ⟨t45, trivial⟩ (by kernel_rfl)
-- (*wayzgoose/kin.family).fits 3
theorem t198 : TabOK (CA prog) prog e198 := entB_ok ca_closed mixed (fs := fs) (tab := [e47]) ⟨t47, trivial⟩ (by kernel_rfl)
-- (*wayzgoose/kin.family).fits 6
theorem t220 : TabOK (CA prog) prog e220 := entB_ok ca_closed mixed (fs := fs) (tab := [e99]) ⟨t99, trivial⟩ (by kernel_rfl)
-- (*wayzgoose/kin.family).fits 5
theorem t221 : TabOK (CA prog) prog e221 := entB_ok ca_closed mixed (fs := fs) (tab := [e101]) ⟨t101, trivial⟩ (by kernel_rfl)
-- (*wayzgoose/kin.family).fits 3
theorem t222 : TabOK (CA prog) prog e222 := entB_ok ca_closed mixed (fs := fs) (tab := [e103]) ⟨t103, trivial⟩ (by kernel_rfl)
-- (*wayzgoose/kin.family).fits 3
theorem t223 : TabOK (CA prog) prog e223 := entB_ok ca_closed mixed (fs := fs) (tab := [e105]) ⟨t105, trivial⟩ (by kernel_rfl)
-- (*wayzgoose/kin.family).fits 3
theorem t224 : TabOK (CA prog) prog e224 := entB_ok ca_closed mixed (fs := fs) (tab := [e107]) ⟨t107, trivial⟩ (by kernel_rfl)
end Go.L.Q
