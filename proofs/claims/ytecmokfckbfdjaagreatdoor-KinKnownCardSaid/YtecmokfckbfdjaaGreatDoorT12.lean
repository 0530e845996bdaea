/- Tables of YtecmokfckbfdjaaGreatDoor: each entry is what the program comes to. -/
import Derived.Test.YtecmokfckbfdjaaGreatDoorD1
import Derived.Test.YtecmokfckbfdjaaGreatDoorT3
import Derived.Test.YtecmokfckbfdjaaGreatDoorT5
import Derived.Test.YtecmokfckbfdjaaGreatDoorT6
import Derived.Test.YtecmokfckbfdjaaGreatDoorT7
namespace Go.L.Q
open Go Go.Conc Go.L Go.Proofs
set_option linter.all false
set_option maxRecDepth 100000
-- (*wayzgoose/kin.family).fits 4
theorem t225 : TabOK (CA prog) prog e225 := entB_ok ca_closed mixed (fs := fs) (tab := [e109]) ⟨t109, trivial⟩ (by kernel_rfl)
-- (*wayzgoose/kin.family).fits 9
theorem t226 : TabOK (CA prog) prog e226 := entB_ok ca_closed mixed (fs := fs) (tab := [e112, e111]) ⟨t112, t111, trivial⟩ (by kernel_rfl)
-- (*wayzgoose/kin.family).fits 6
theorem t227 : TabOK (CA prog) prog e227 := entB_ok ca_closed mixed (fs := fs) (tab := [e114]) ⟨t114, trivial⟩ (by kernel_rfl)
-- (*wayzgoose/kin.family).fits 3
theorem t228 : TabOK (CA prog) prog e228 := entB_ok ca_closed mixed (fs := fs) (tab := [e116]) ⟨t116, trivial⟩ (by kernel_rfl)
-- (*wayzgoose/kin.family).fits 6
theorem t230 : TabOK (CA prog) prog e230 := entB_ok ca_closed mixed (fs := fs) (tab := [e99]) ⟨t99, trivial⟩ (by kernel_rfl)
-- (*wayzgoose/kin.family).fits 6
theorem t231 : TabOK (CA prog) prog e231 := entB_ok ca_closed mixed (fs := fs) (tab := [e101]) ⟨t101, trivial⟩ (by kernel_rfl)
-- (*wayzgoose/kin.family).fits 6
theorem t232 : TabOK (CA prog) prog e232 := entB_ok ca_closed mixed (fs := fs) (tab := [e103]) ⟨t103, trivial⟩ (by kernel_rfl)
-- (*wayzgoose/kin.family).fits 3
theorem t233 : TabOK (CA prog) prog e233 := entB_ok ca_closed mixed (fs := fs) (tab := [e105]) ⟨t105, trivial⟩ (by kernel_rfl)
-- (*wayzgoose/kin.family).fits 3
theorem t234 : TabOK (CA prog) prog e234 := entB_ok ca_closed mixed (fs := fs) (tab := [e107]) ⟨t107, trivial⟩ (by kernel_rfl)
-- (*wayzgoose/kin.family).fits 3
theorem t235 : TabOK (CA prog) prog e235 := entB_ok ca_closed mixed (fs := fs) (tab := [e109]) ⟨t109, trivial⟩ (by kernel_rfl)
-- (*wayzgoose/kin.family).fits 9
theorem t236 : TabOK (CA prog) prog e236 := entB_ok ca_closed mixed (fs := fs) (tab := [e112, e111]) ⟨t112, t111, trivial⟩ (by kernel_rfl)
-- (*wayzgoose/kin.family).fits 6
theorem t237 : TabOK (CA prog) prog e237 := entB_ok ca_closed mixed (fs := fs) (tab := [e114]) ⟨t114, trivial⟩ (by kernel_rfl)
-- (*wayzgoose/kin.family).fits 4
theorem t238 : TabOK (CA prog) prog e238 := entB_ok ca_closed mixed (fs := fs) (tab := [e116]) ⟨t116, trivial⟩ (by kernel_rfl)
-- wayzgoose/kin.checkPeople 2
theorem t244 : TabOK (CA prog) prog e244 := entB_ok ca_closed mixed (fs := fs) (tab := [e243, e242, e241]) ⟨t243, t242, t241, trivial⟩ (by kernel_rfl)
-- wayzgoose/kin.checkPeople 2
theorem t248 : TabOK (CA prog) prog e248 := entB_ok ca_closed mixed (fs := fs) (tab := [e247, e246, e245]) ⟨t247, t246, t245, trivial⟩ (by kernel_rfl)
-- (*wayzgoose/kin.family).fits 6
theorem t252 : TabOK (CA prog) prog e252 := entB_ok ca_closed mixed (fs := fs) (tab := [e99]) ⟨t99, trivial⟩ (by kernel_rfl)
-- (*wayzgoose/kin.family).fits 5
theorem t253 : TabOK (CA prog) prog e253 := entB_ok ca_closed mixed (fs := fs) (tab := [e101]) ⟨t101, trivial⟩ (by kernel_rfl)
-- (*wayzgoose/kin.family).fits 3
theorem t254 : TabOK (CA prog) prog e254 := entB_ok ca_closed mixed (fs := fs) (tab := [e103]) ⟨t103, trivial⟩ (by kernel_rfl)
-- (*wayzgoose/kin.family).fits 3
theorem t255 : TabOK (CA prog) prog e255 := entB_ok ca_closed mixed (fs := fs) (tab := [e105]) ⟨t105, trivial⟩ (by kernel_rfl)
-- (*wayzgoose/kin.family).fits 3
theorem t256 : TabOK (CA prog) prog e256 := entB_ok ca_closed mixed (fs := fs) (tab := [e107]) ⟨t107, trivial⟩ (by kernel_rfl)
-- (*wayzgoose/kin.family).fits 3
theorem t257 : TabOK (CA prog) prog e257 := entB_ok ca_closed mixed (fs := fs) (tab := [e109]) ⟨t109, trivial⟩ (by kernel_rfl)
-- (*wayzgoose/kin.family).fits 9
theorem t258 : TabOK (CA prog) prog e258 := entB_ok ca_closed mixed (fs := fs) (tab := [e112, e111]) ⟨t112, t111, trivial⟩ (by kernel_rfl)
-- (*wayzgoose/kin.family).fits 5
theorem t259 : TabOK (CA prog) prog e259 := entB_ok ca_closed mixed (fs := fs) (tab := [e114]) ⟨t114, trivial⟩ (by kernel_rfl)
-- (*wayzgoose/kin.family).fits 3
theorem t260 : TabOK (CA prog) prog e260 := entB_ok ca_closed mixed (fs := fs) (tab := [e116]) ⟨t116, trivial⟩ (by kernel_rfl)
end Go.L.Q
