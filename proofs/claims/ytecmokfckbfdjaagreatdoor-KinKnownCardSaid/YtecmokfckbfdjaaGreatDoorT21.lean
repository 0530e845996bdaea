/- Tables of YtecmokfckbfdjaaGreatDoor: each entry is what the program comes to. -/
import Derived.Test.YtecmokfckbfdjaaGreatDoorD1
import Derived.Test.YtecmokfckbfdjaaGreatDoorT1
import Derived.Test.YtecmokfckbfdjaaGreatDoorT16
import Derived.Test.YtecmokfckbfdjaaGreatDoorT17
import Derived.Test.YtecmokfckbfdjaaGreatDoorT18
import Derived.Test.YtecmokfckbfdjaaGreatDoorT19
import Derived.Test.YtecmokfckbfdjaaGreatDoorT2
import Derived.Test.YtecmokfckbfdjaaGreatDoorT20
import Derived.Test.YtecmokfckbfdjaaGreatDoorT3
namespace Go.L.Q
open Go Go.Conc Go.L Go.Proofs
set_option linter.all false
set_option maxRecDepth 100000
-- wayzgoose/kin.Fate 8
theorem t210 : TabOK (C0 prog) prog e210 := entB_ok c0_closed mixed (fs := fs) (tab := [e53, e29]) ⟨t53, t29.anti c0_closed, trivial⟩ (by kernel_rfl)
-- wayzgoose/kin.Origin 11
theorem t211 : TabOK (C0 prog) prog e211 := entB_ok c0_closed mixed (fs := fs) (tab := [e53, e29]) ⟨t53, t29.anti c0_closed, trivial⟩ (by kernel_rfl)
-- wayzgoose/kin.Origin 15
theorem t212 : TabOK (C0 prog) prog e212 := entB_ok c0_closed mixed (fs := fs) (tab := [e53, e29]) ⟨t53, t29.anti c0_closed, trivial⟩ (by kernel_rfl)
-- wayzgoose/kin.Stays 5
theorem t213 : TabOK (C0 prog) prog e213 := entB_ok c0_closed mixed (fs := fs) (tab := [e78, e64]) ⟨t78, t64.anti c0_closed, trivial⟩ (by kernel_rfl)
-- wayzgoose/kin.Stays 9
theorem t214 : TabOK (C0 prog) prog e214 := entB_ok c0_closed mixed (fs := fs) (tab := [e78, e64]) ⟨t78, t64.anti c0_closed, trivial⟩ (by kernel_rfl)
-- wayzgoose/kin.Stays 5
theorem t215 : TabOK (C0 prog) prog e215 := entB_ok c0_closed mixed (fs := fs) (tab := [e78, e64]) ⟨t78, t64.anti c0_closed, trivial⟩ (by kernel_rfl)
-- wayzgoose/kin.Gone 3
theorem t216 : TabOK (C0 prog) prog e216 := entB_ok c0_closed mixed (fs := fs) (tab := [e78, e64]) ⟨t78, t64.anti c0_closed, trivial⟩ (by kernel_rfl)
-- wayzgoose/kin.New 3
theorem t217 : TabOK (C0 prog) prog e217 := entB_ok c0_closed mixed (fs := fs) (tab := [e78, e64]) ⟨t78, t64.anti c0_closed, trivial⟩ (by kernel_rfl)
-- wayzgoose/kin.Moved 3
theorem t218 : TabOK (C0 prog) prog e218 := entB_ok c0_closed mixed (fs := fs) (tab := [e78, e64]) ⟨t78, t64.anti c0_closed, trivial⟩ (by kernel_rfl)
-- wayzgoose/kin.Best 4
theorem t219 : TabOK (C0 prog) prog e219 := entB_ok c0_closed mixed (fs := fs) (tab := [e53, e29]) ⟨t53, t29.anti c0_closed, trivial⟩ (by kernel_rfl)
-- wayzgoose/kin.Clash 6
theorem t240 : TabOK (CA prog) prog e240 := entB_ok ca_closed mixed (fs := fs) (tab := [e118, e128, e239, e229, e98, e97]) ⟨t118, t128, t239, t229, t98, t97, trivial⟩ (by kernel_rfl)
-- wayzgoose/kin.Wrong 4
theorem t282 : TabOK (CA prog) prog e282 := entB_ok ca_closed mixed (fs := fs) (tab := [e281, e271, e261, e251, e250]) ⟨t281, t271, t261, t251, t250, trivial⟩ (by kernel_rfl)
-- wayzgoose/kin.Clash 5
theorem t293 : TabOK (CA prog) prog e293 := entB_ok ca_closed mixed (fs := fs) (tab := [e271, e281, e292, e251, e250]) ⟨t271, t281, t292, t251, t250, trivial⟩ (by kernel_rfl)
-- wayzgoose/kin.Wrong 3
theorem t305 : TabOK (CA prog) prog e305 := entB_ok ca_closed mixed (fs := fs) (tab := [e304, e294, e189]) ⟨t304, t294, t189, trivial⟩ (by kernel_rfl)
-- wayzgoose/kin.Clash 3
theorem t306 : TabOK (CA prog) prog e306 := entB_ok ca_closed mixed (fs := fs) (tab := [e304, e294, e189]) ⟨t304, t294, t189, trivial⟩ (by kernel_rfl)
-- wayzgoose/kin.Verdict 2
theorem t307 : TabOK (C0 prog) prog e307 := entB_ok c0_closed mixed (fs := fs) (tab := [e201, e189]) ⟨t201, t189.anti c0_closed, trivial⟩ (by kernel_rfl)
-- wayzgoose/kin.Add 5
theorem t328 : TabOK (CA prog) prog e328 := entB_ok ca_closed mixed (fs := fs) (tab := [e327, e317, e64]) ⟨t327, t317, t64, trivial⟩ (by kernel_rfl)
-- wayzgoose/kin.Add 5
theorem t350 : TabOK (CA prog) prog e350 := entB_ok ca_closed mixed (fs := fs) (tab := [e349, e348, e338, e29]) ⟨t349, t348, t338, t29, trivial⟩ (by kernel_rfl)
-- wayzgoose/kin.Truths 2
theorem t394 : TabOK (C0 prog) prog e394 := entB_ok c0_closed mixed (fs := fs) (tab := [e393, e369]) ⟨t393, t369.anti c0_closed, trivial⟩ (by kernel_rfl)
-- wayzgoose/kin.Ask 12
theorem t395 : TabOK (C0 prog) prog e395 := entB_ok c0_closed mixed (fs := fs) (tab := [e79, e78, e64]) ⟨t79.anti c0_closed, t78, t64.anti c0_closed, trivial⟩ (by kernel_rfl)
-- wayzgoose/wayzgooselaw08.related 10
theorem t132 : TabOK (C0 prog) prog e132 := entB_ok c0_closed mixed (fs := fs) (tab := [e131, e129, e87, e81, e80, e0, e54, e1]) ⟨t131, t129.anti c0_closed, t87, t81, t80, t0.anti c0_closed, t54, t1.anti c0_closed, trivial⟩ (by kernel_rfl)
end Go.L.Q
