/- Tables of YtecmokfckbfdjaaGreatDoor: each entry is what the program comes to. -/
import Derived.Test.YtecmokfckbfdjaaGreatDoorD1
import Derived.Test.YtecmokfckbfdjaaGreatDoorT3
import Derived.Test.YtecmokfckbfdjaaGreatDoorT5
import Derived.Test.YtecmokfckbfdjaaGreatDoorT6
namespace Go.L.Q
open Go Go.Conc Go.L Go.Proofs
set_option linter.all false
set_option maxRecDepth 100000
-- (*wayzgoose/kin.family).fits 4
theorem t320 : TabOK (CA prog) prog e320 := entB_ok ca_closed mixed (fs := fs) (tab := [e103]) ⟨t103, trivial⟩ (by kernel_rfl)
-- (*wayzgoose/kin.family).fits 4
theorem t321 : TabOK (CA prog) prog e321 := entB_ok ca_closed mixed (fs := fs) (tab := [e105]) ⟨t105, trivial⟩ (by kernel_rfl)
-- (*wayzgoose/kin.family).fits 3
theorem t322 : TabOK (CA prog) prog e322 := entB_ok ca_closed mixed (fs := fs) (tab := [e107]) ⟨t107, trivial⟩ (by kernel_rfl)
-- (*wayzgoose/kin.family).fits 3
theorem t323 : TabOK (CA prog) prog e323 := entB_ok ca_closed mixed (fs := fs) (tab := [e109]) ⟨t109, trivial⟩ (by kernel_rfl)
-- (*wayzgoose/kin.family).fits 8
theorem t324 : TabOK (CA prog) prog e324 := entB_ok ca_closed mixed (fs := fs) (tab := [e112, e111]) ⟨t112, t111, trivial⟩ (by kernel_rfl)
-- (*wayzgoose/kin.family).fits 5
theorem t325 : TabOK (CA prog) prog e325 := entB_ok ca_closed mixed (fs := fs) (tab := [e114]) ⟨t114, trivial⟩ (by kernel_rfl)
-- (*wayzgoose/kin.family).fits 3
theorem t326 : TabOK (CA prog) prog e326 := entB_ok ca_closed mixed (fs := fs) (tab := [e116]) ⟨t116, trivial⟩ (by kernel_rfl)
-- (*wayzgoose/kin.family).fits 5
theorem t329 : TabOK (CA prog) prog e329 := entB_ok ca_closed mixed (fs := fs) (tab := [e99]) ⟨t99, trivial⟩ (by kernel_rfl)
-- (*wayzgoose/kin.family).fits 5
theorem t330 : TabOK (CA prog) prog e330 := entB_ok ca_closed mixed (fs := fs) (tab := [e101]) ⟨t101, trivial⟩ (by kernel_rfl)
-- (*wayzgoose/kin.family).fits 4
theorem t331 : TabOK (CA prog) prog e331 := entB_ok ca_closed mixed (fs := fs) (tab := [e103]) ⟨t103, trivial⟩ (by kernel_rfl)
-- (*wayzgoose/kin.family).fits 4
theorem t332 : TabOK (CA prog) prog e332 := entB_ok ca_closed mixed (fs := fs) (tab := [e105]) ⟨t105, trivial⟩ (by kernel_rfl)
-- (*wayzgoose/kin.family).fits 4
theorem t333 : TabOK (CA prog) prog e333 := entB_ok ca_closed mixed (fs := fs) (tab := [e107]) ⟨t107, trivial⟩ (by kernel_rfl)
-- (*wayzgoose/kin.family).fits 4
theorem t334 : TabOK (CA prog) prog e334 := entB_ok ca_closed mixed (fs := fs) (tab := [e109]) ⟨t109, trivial⟩ (by kernel_rfl)
-- (*wayzgoose/kin.family).fits 9
theorem t335 : TabOK (CA prog) prog e335 := entB_ok ca_closed mixed (fs := fs) (tab := [e112, e111]) ⟨t112, t111, trivial⟩ (by kernel_rfl)
-- (*wayzgoose/kin.family).fits 5
theorem t336 : TabOK (CA prog) prog e336 := entB_ok ca_closed mixed (fs := fs) (tab := [e114]) ⟨t114, trivial⟩ (by kernel_rfl)
-- (*wayzgoose/kin.family).fits 3
theorem t337 : TabOK (CA prog) prog e337 := entB_ok ca_closed mixed (fs := fs) (tab := [e116]) ⟨t116, trivial⟩ (by kernel_rfl)
-- (*wayzgoose/kin.family).fits 5
theorem t339 : TabOK (CA prog) prog e339 := entB_ok ca_closed mixed (fs := fs) (tab := [e99]) ⟨t99, trivial⟩ (by kernel_rfl)
-- (*wayzgoose/kin.family).fits 5
theorem t340 : TabOK (CA prog) prog e340 := entB_ok ca_closed mixed (fs := fs) (tab := [e101]) ⟨t101, trivial⟩ (by kernel_rfl)
-- (*wayzgoose/kin.family).fits 4
theorem t341 : TabOK (CA prog) prog e341 := entB_ok ca_closed mixed (fs := fs) (tab := [e103]) ⟨t103, trivial⟩ (by kernel_rfl)
-- (*wayzgoose/kin.family).fits 4
theorem t342 : TabOK (CA prog) prog e342 := entB_ok ca_closed mixed (fs := fs) (tab := [e105]) ⟨t105, trivial⟩ (by kernel_rfl)
-- (*wayzgoose/kin.family).fits 4
theorem t343 : TabOK (CA prog) prog e343 := entB_ok ca_closed mixed (fs := fs) (tab := [e107]) ⟨t107, trivial⟩ (by kernel_rfl)
-- (*wayzgoose/kin.family).fits 3
theorem t344 : TabOK (CA prog) prog e344 := entB_ok ca_closed mixed (fs := fs) (tab := [e109]) ⟨t109, trivial⟩ (by kernel_rfl)
-- (*wayzgoose/kin.family).fits 9
theorem t345 : TabOK (CA prog) prog e345 := entB_ok ca_closed mixed (fs := fs) (tab := [e112, e111]) ⟨t112, t111, trivial⟩ (by kernel_rfl)
-- (*wayzgoose/kin.family).fits 6
theorem t346 : TabOK (CA prog) prog e346 := entB_ok ca_closed mixed (fs := fs) (tab := [e114]) ⟨t114, trivial⟩ (by kernel_rfl)
end Go.L.Q
