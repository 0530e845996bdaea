/- Tables of YtecmokfckbfdjaaGreatDoor: each entry is what the program comes to. -/
import Derived.Test.YtecmokfckbfdjaaGreatDoorD1
import Derived.Test.YtecmokfckbfdjaaGreatDoorT16
import Derived.Test.YtecmokfckbfdjaaGreatDoorT17
import Derived.Test.YtecmokfckbfdjaaGreatDoorT19
import Derived.Test.YtecmokfckbfdjaaGreatDoorT2
import Derived.Test.YtecmokfckbfdjaaGreatDoorT3
import Derived.Test.YtecmokfckbfdjaaGreatDoorT5
import Derived.Test.YtecmokfckbfdjaaGreatDoorT6
namespace Go.L.Q
open Go Go.Conc Go.L Go.Proofs
set_option linter.all false
set_option maxRecDepth 100000
-- wayzgoose/kin.Truths 2
theorem t54 : TabOK (C0 prog) prog e54 := entB_ok c0_closed mixed (fs := fs) (tab := [e53, e29]) ⟨t53, t29.anti c0_closed, trivial⟩ (by kernel_rfl)
-- wayzgoose/kin.Must 5
theorem t80 : TabOK (C0 prog) prog e80 := entB_ok c0_closed mixed (fs := fs) (tab := [e79, e78, e64]) ⟨t79.anti c0_closed, t78, t64.anti c0_closed, trivial⟩ (by kernel_rfl)
-- wayzgoose/kin.Moved 4
theorem t81 : TabOK (C0 prog) prog e81 := entB_ok c0_closed mixed (fs := fs) (tab := [e53, e29]) ⟨t53, t29.anti c0_closed, trivial⟩ (by kernel_rfl)
-- wayzgoose/kin.Least 8
theorem t87 : TabOK (C0 prog) prog e87 := entB_ok c0_closed mixed (fs := fs) (tab := [e86, e64]) ⟨t86, t64.anti c0_closed, trivial⟩ (by kernel_rfl)
-- wayzgoose/kin.Wrong 5
theorem t129 : TabOK (CA prog) prog e129 := entB_ok ca_closed mixed (fs := fs) (tab := [e128, e118, e98, e97]) ⟨t128, t118, t98, t97, trivial⟩ (by kernel_rfl)
-- wayzgoose/kin.Ask 12
theorem t131 : TabOK (C0 prog) prog e131 := entB_ok c0_closed mixed (fs := fs) (tab := [e130, e53, e29]) ⟨t130.anti c0_closed, t53, t29.anti c0_closed, trivial⟩ (by kernel_rfl)
-- wayzgoose/kin.Check 1
theorem t133 : TabOK (CA prog) prog e133 := entB_ok ca_closed mixed (fs := fs) (tab := [e64]) ⟨t64, trivial⟩ (by kernel_rfl)
-- wayzgoose/kin.Check 0
theorem t145 : TabOK (CA prog) prog e145 := entB_ok ca_closed mixed (fs := fs) (tab := [e144]) ⟨t144, trivial⟩ (by kernel_rfl)
-- wayzgoose/kin.Check 0
theorem t151 : TabOK (CA prog) prog e151 := entB_ok ca_closed mixed (fs := fs) (tab := [e150]) ⟨t150, trivial⟩ (by kernel_rfl)
-- wayzgoose/kin.Check 2
theorem t162 : TabOK (CA prog) prog e162 := entB_ok ca_closed mixed (fs := fs) (tab := [e161]) ⟨t161, trivial⟩ (by kernel_rfl)
-- wayzgoose/kin.Apart 9
theorem t163 : TabOK (CA prog) prog e163 := entB_ok ca_closed mixed (fs := fs) (tab := [e99, e64]) ⟨t99, t64, trivial⟩ (by kernel_rfl)
-- wayzgoose/kin.Apart 11
theorem t165 : TabOK (CA prog) prog e165 := entB_ok ca_closed mixed (fs := fs) (tab := [e164, e109, e64]) ⟨t164, t109, t64, trivial⟩ (by kernel_rfl)
-- wayzgoose/kin.Apart 12
theorem t167 : TabOK (CA prog) prog e167 := entB_ok ca_closed mixed (fs := fs) (tab := [e166, e116, e64]) ⟨t166, t116, t64, trivial⟩ (by kernel_rfl)
-- wayzgoose/kin.Apart 9
theorem t178 : TabOK (CA prog) prog e178 := entB_ok ca_closed mixed (fs := fs) (tab := [e99, e177]) ⟨t99, t177, trivial⟩ (by kernel_rfl)
-- wayzgoose/kin.Truths 2
theorem t179 : TabOK (C0 prog) prog e179 := entB_ok c0_closed mixed (fs := fs) (tab := [e78, e64]) ⟨t78, t64.anti c0_closed, trivial⟩ (by kernel_rfl)
-- wayzgoose/kin.Truths 1
theorem t202 : TabOK (C0 prog) prog e202 := entB_ok c0_closed mixed (fs := fs) (tab := [e201, e189]) ⟨t201, t189.anti c0_closed, trivial⟩ (by kernel_rfl)
-- wayzgoose/kin.Pairs 5
theorem t203 : TabOK (C0 prog) prog e203 := entB_ok c0_closed mixed (fs := fs) (tab := [e79, e78, e64]) ⟨t79.anti c0_closed, t78, t64.anti c0_closed, trivial⟩ (by kernel_rfl)
-- wayzgoose/kin.Pairs 5
theorem t204 : TabOK (C0 prog) prog e204 := entB_ok c0_closed mixed (fs := fs) (tab := [e130, e53, e29]) ⟨t130.anti c0_closed, t53, t29.anti c0_closed, trivial⟩ (by kernel_rfl)
-- wayzgoose/kin.Must 4
theorem t205 : TabOK (C0 prog) prog e205 := entB_ok c0_closed mixed (fs := fs) (tab := [e130, e53, e29]) ⟨t130.anti c0_closed, t53, t29.anti c0_closed, trivial⟩ (by kernel_rfl)
-- wayzgoose/kin.Verdict 2
theorem t206 : TabOK (C0 prog) prog e206 := entB_ok c0_closed mixed (fs := fs) (tab := [e79, e78, e64]) ⟨t79.anti c0_closed, t78, t64.anti c0_closed, trivial⟩ (by kernel_rfl)
-- wayzgoose/kin.Verdict 3
theorem t207 : TabOK (C0 prog) prog e207 := entB_ok c0_closed mixed (fs := fs) (tab := [e79, e78, e64]) ⟨t79.anti c0_closed, t78, t64.anti c0_closed, trivial⟩ (by kernel_rfl)
-- wayzgoose/kin.Verdict 2
theorem t208 : TabOK (C0 prog) prog e208 := entB_ok c0_closed mixed (fs := fs) (tab := [e130, e53, e29]) ⟨t130.anti c0_closed, t53, t29.anti c0_closed, trivial⟩ (by kernel_rfl)
-- wayzgoose/kin.Fate 8
theorem t209 : TabOK (C0 prog) prog e209 := entB_ok c0_closed mixed (fs := fs) (tab := [e53, e29]) ⟨t53, t29.anti c0_closed, trivial⟩ (by kernel_rfl)
end Go.L.Q
