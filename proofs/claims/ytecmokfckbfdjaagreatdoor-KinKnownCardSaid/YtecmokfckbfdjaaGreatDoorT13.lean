/- Tables of YtecmokfckbfdjaaGreatDoor: each entry is what the program comes to. -/
import Derived.Test.YtecmokfckbfdjaaGreatDoorD1
import Derived.Test.YtecmokfckbfdjaaGreatDoorT3
import Derived.Test.YtecmokfckbfdjaaGreatDoorT5
import Derived.Test.YtecmokfckbfdjaaGreatDoorT6
namespace Go.L.Q
open Go Go.Conc Go.L Go.Proofs
set_option linter.all false
set_option maxRecDepth 100000
-- (*wayzgoose/kin.family).fits 5
theorem t262 : TabOK (CA prog) prog e262 := entB_ok ca_closed mixed (fs := fs) (tab := [e99]) ⟨t99, trivial⟩ (by kernel_rfl)
-- (*wayzgoose/kin.family).fits 6
theorem t263 : TabOK (CA prog) prog e263 := entB_ok ca_closed mixed (fs := fs) (tab := [e101]) ⟨t101, trivial⟩ (by kernel_rfl)
-- (*wayzgoose/kin.family).fits 4
theorem t264 : TabOK (CA prog) prog e264 := entB_ok ca_closed mixed (fs := fs) (tab := [e103]) ⟨t103, trivial⟩ (by kernel_rfl)
-- (*wayzgoose/kin.family).fits 4
theorem t265 : TabOK (CA prog) prog e265 := entB_ok ca_closed mixed (fs := fs) (tab := [e105]) ⟨t105, trivial⟩ (by kernel_rfl)
-- (*wayzgoose/kin.family).fits 3
theorem t266 : TabOK (CA prog) prog e266 := entB_ok ca_closed mixed (fs := fs) (tab := [e107]) ⟨t107, trivial⟩ (by kernel_rfl)
-- (*wayzgoose/kin.family).fits 3
theorem t267 : TabOK (CA prog) prog e267 := entB_ok ca_closed mixed (fs := fs) (tab := [e109]) ⟨t109, trivial⟩ (by kernel_rfl)
-- (*wayzgoose/kin.family).fits 9
theorem t268 : TabOK (CA prog) prog e268 := entB_ok ca_closed mixed (fs := fs) (tab := [e112, e111]) ⟨t112, t111, trivial⟩ (by kernel_rfl)
-- (*wayzgoose/kin.family).fits 6
theorem t269 : TabOK (CA prog) prog e269 := entB_ok ca_closed mixed (fs := fs) (tab := [e114]) ⟨t114, trivial⟩ (by kernel_rfl)
-- (*wayzgoose/kin.family).fits 4
theorem t270 : TabOK (CA prog) prog e270 := entB_ok ca_closed mixed (fs := fs) (tab := [e116]) ⟨t116, trivial⟩ (by kernel_rfl)
-- (*wayzgoose/kin.family).fits 6
theorem t272 : TabOK (CA prog) prog e272 := entB_ok ca_closed mixed (fs := fs) (tab := [e99]) ⟨t99, trivial⟩ (by kernel_rfl)
-- (*wayzgoose/kin.family).fits 6
theorem t273 : TabOK (CA prog) prog e273 := entB_ok ca_closed mixed (fs := fs) (tab := [e101]) ⟨t101, trivial⟩ (by kernel_rfl)
-- (*wayzgoose/kin.family).fits 4
theorem t274 : TabOK (CA prog) prog e274 := entB_ok ca_closed mixed (fs := fs) (tab := [e103]) ⟨t103, trivial⟩ (by kernel_rfl)
-- (*wayzgoose/kin.family).fits 4
theorem t275 : TabOK (CA prog) prog e275 := entB_ok ca_closed mixed (fs := fs) (tab := [e105]) ⟨t105, trivial⟩ (by kernel_rfl)
-- (*wayzgoose/kin.family).fits 4
theorem t276 : TabOK (CA prog) prog e276 := entB_ok ca_closed mixed (fs := fs) (tab := [e107]) ⟨t107, trivial⟩ (by kernel_rfl)
-- (*wayzgoose/kin.family).fits 4
theorem t277 : TabOK (CA prog) prog e277 := entB_ok ca_closed mixed (fs := fs) (tab := [e109]) ⟨t109, trivial⟩ (by kernel_rfl)
-- (*wayzgoose/kin.family).fits 9
theorem t278 : TabOK (CA prog) prog e278 := entB_ok ca_closed mixed (fs := fs) (tab := [e112, e111]) ⟨t112, t111, trivial⟩ (by kernel_rfl)
-- (*wayzgoose/kin.family).fits 6
theorem t279 : TabOK (CA prog) prog e279 := entB_ok ca_closed mixed (fs := fs) (tab := [e114]) ⟨t114, trivial⟩ (by kernel_rfl)
-- (*wayzgoose/kin.family).fits 3
theorem t280 : TabOK (CA prog) prog e280 := entB_ok ca_closed mixed (fs := fs) (tab := [e116]) ⟨t116, trivial⟩ (by kernel_rfl)
-- (*wayzgoose/kin.family).fits 6
theorem t283 : TabOK (CA prog) prog e283 := entB_ok ca_closed mixed (fs := fs) (tab := [e99]) ⟨t99, trivial⟩ (by kernel_rfl)
-- (*wayzgoose/kin.family).fits 6
theorem t284 : TabOK (CA prog) prog e284 := entB_ok ca_closed mixed (fs := fs) (tab := [e101]) ⟨t101, trivial⟩ (by kernel_rfl)
-- (*wayzgoose/kin.family).fits 4
theorem t285 : TabOK (CA prog) prog e285 := entB_ok ca_closed mixed (fs := fs) (tab := [e103]) ⟨t103, trivial⟩ (by kernel_rfl)
-- (*wayzgoose/kin.family).fits 4
theorem t286 : TabOK (CA prog) prog e286 := entB_ok ca_closed mixed (fs := fs) (tab := [e105]) ⟨t105, trivial⟩ (by kernel_rfl)
-- (*wayzgoose/kin.family).fits 4
theorem t287 : TabOK (CA prog) prog e287 := entB_ok ca_closed mixed (fs := fs) (tab := [e107]) ⟨t107, trivial⟩ (by kernel_rfl)
end Go.L.Q
