/- Tables of YtecmokfckbfdjaaGreatDoor: each entry is what the program comes to. -/
import Derived.Test.YtecmokfckbfdjaaGreatDoorD1
import Derived.Test.YtecmokfckbfdjaaGreatDoorT3
import Derived.Test.YtecmokfckbfdjaaGreatDoorT5
import Derived.Test.YtecmokfckbfdjaaGreatDoorT6
namespace Go.L.Q
open Go Go.Conc Go.L Go.Proofs
set_option linter.all false
set_option maxRecDepth 100000
-- (*wayzgoose/kin.family).fits 3
theorem t288 : TabOK (CA prog) prog e288 := entB_ok ca_closed mixed (fs := fs) (tab := [e109]) ⟨t109, trivial⟩ (by kernel_rfl)
-- (*wayzgoose/kin.family).fits 9
theorem t289 : TabOK (CA prog) prog e289 := entB_ok ca_closed mixed (fs := fs) (tab := [e112, e111]) ⟨t112, t111, trivial⟩ (by kernel_rfl)
-- (*wayzgoose/kin.family).fits 5
theorem t290 : TabOK (CA prog) prog e290 := entB_ok ca_closed mixed (fs := fs) (tab := [e114]) ⟨t114, trivial⟩ (by kernel_rfl)
-- (*wayzgoose/kin.family).fits 3
theorem t291 : TabOK (CA prog) prog e291 := entB_ok ca_closed mixed (fs := fs) (tab := [e116]) ⟨t116, trivial⟩ (by kernel_rfl)
-- (*wayzgoose/kin.family).fits 5
theorem t295 : TabOK (CA prog) prog e295 := entB_ok ca_closed mixed (fs := fs) (tab := [e99]) ⟨t99, trivial⟩ (by kernel_rfl)
-- (*wayzgoose/kin.family).fits 5
theorem t296 : TabOK (CA prog) prog e296 := entB_ok ca_closed mixed (fs := fs) (tab := [e101]) ⟨t101, trivial⟩ (by kernel_rfl)
-- (*wayzgoose/kin.family).fits 3
theorem t297 : TabOK (CA prog) prog e297 := entB_ok ca_closed mixed (fs := fs) (tab := [e103]) ⟨t103, trivial⟩ (by kernel_rfl)
-- (*wayzgoose/kin.family).fits 4
theorem t298 : TabOK (CA prog) prog e298 := entB_ok ca_closed mixed (fs := fs) (tab := [e105]) ⟨t105, trivial⟩ (by kernel_rfl)
-- (*wayzgoose/kin.family).fits 4
theorem t299 : TabOK (CA prog) prog e299 := entB_ok ca_closed mixed (fs := fs) (tab := [e107]) ⟨t107, trivial⟩ (by kernel_rfl)
-- (*wayzgoose/kin.family).fits 3
theorem t300 : TabOK (CA prog) prog e300 := entB_ok ca_closed mixed (fs := fs) (tab := [e109]) ⟨t109, trivial⟩ (by kernel_rfl)
-- (*wayzgoose/kin.family).fits 8
theorem t301 : TabOK (CA prog) prog e301 := entB_ok ca_closed mixed (fs := fs) (tab := [e112, e111]) ⟨t112, t111, trivial⟩ (by kernel_rfl)
-- (*wayzgoose/kin.family).fits 5
theorem t302 : TabOK (CA prog) prog e302 := entB_ok ca_closed mixed (fs := fs) (tab := [e114]) ⟨t114, trivial⟩ (by kernel_rfl)
-- (*wayzgoose/kin.family).fits 3
theorem t303 : TabOK (CA prog) prog e303 := entB_ok ca_closed mixed (fs := fs) (tab := [e116]) ⟨t116, trivial⟩ (by kernel_rfl)
-- (*wayzgoose/kin.family).fits 5
theorem t308 : TabOK (CA prog) prog e308 := entB_ok ca_closed mixed (fs := fs) (tab := [e99]) ⟨t99, trivial⟩ (by kernel_rfl)
-- (*wayzgoose/kin.family).fits 4
theorem t309 : TabOK (CA prog) prog e309 := entB_ok ca_closed mixed (fs := fs) (tab := [e101]) ⟨t101, trivial⟩ (by kernel_rfl)
-- (*wayzgoose/kin.family).fits 3
theorem t310 : TabOK (CA prog) prog e310 := entB_ok ca_closed mixed (fs := fs) (tab := [e103]) ⟨t103, trivial⟩ (by kernel_rfl)
-- (*wayzgoose/kin.family).fits 3
theorem t311 : TabOK (CA prog) prog e311 := entB_ok ca_closed mixed (fs := fs) (tab := [e105]) ⟨t105, trivial⟩ (by kernel_rfl)
-- (*wayzgoose/kin.family).fits 4
theorem t312 : TabOK (CA prog) prog e312 := entB_ok ca_closed mixed (fs := fs) (tab := [e107]) ⟨t107, trivial⟩ (by kernel_rfl)
-- (*wayzgoose/kin.family).fits 4
theorem t313 : TabOK (CA prog) prog e313 := entB_ok ca_closed mixed (fs := fs) (tab := [e109]) ⟨t109, trivial⟩ (by kernel_rfl)
-- (*wayzgoose/kin.family).fits 8
theorem t314 : TabOK (CA prog) prog e314 := entB_ok ca_closed mixed (fs := fs) (tab := [e112, e111]) ⟨t112, t111, trivial⟩ (by kernel_rfl)
-- (*wayzgoose/kin.family).fits 5
theorem t315 : TabOK (CA prog) prog e315 := entB_ok ca_closed mixed (fs := fs) (tab := [e114]) ⟨t114, trivial⟩ (by kernel_rfl)
-- (*wayzgoose/kin.family).fits 4
theorem t316 : TabOK (CA prog) prog e316 := entB_ok ca_closed mixed (fs := fs) (tab := [e116]) ⟨t116, trivial⟩ (by kernel_rfl)
-- (*wayzgoose/kin.family).fits 6
theorem t318 : TabOK (CA prog) prog e318 := entB_ok ca_closed mixed (fs := fs) (tab := [e99]) ⟨t99, trivial⟩ (by kernel_rfl)
-- (*wayzgoose/kin.family).fits 6
theorem t319 : TabOK (CA prog) prog e319 := entB_ok ca_closed mixed (fs := fs) (tab := [e101]) ⟨t101, trivial⟩ (by kernel_rfl)
end Go.L.Q
