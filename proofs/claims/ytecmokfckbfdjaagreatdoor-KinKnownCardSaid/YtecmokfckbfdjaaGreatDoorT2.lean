/- Tables of YtecmokfckbfdjaaGreatDoor: each entry is what the program comes to. -/
import Derived.Test.YtecmokfckbfdjaaGreatDoorD1
namespace Go.L.Q
open Go Go.Conc Go.L Go.Proofs
set_option linter.all false
set_option maxRecDepth 100000
-- wayzgoose/kin.counted 5
theorem t79 : TabOK (CA prog) prog e79 := entB_ok ca_closed mixed (fs := fs) (tab := []) trivial (by kernel_rfl)
-- slices.insertionSortCmpFunc[wayzgoose/kin.truth] 22
theorem t82 : TabOK (CA prog) prog e82 := entB_ok ca_closed mixed (fs := fs) (tab := []) trivial (by kernel_rfl)
end Go.L.Q
