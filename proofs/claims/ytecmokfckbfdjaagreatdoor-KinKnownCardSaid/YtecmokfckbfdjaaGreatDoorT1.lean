/- Tables of YtecmokfckbfdjaaGreatDoor: each entry is what the program comes to. -/
import Derived.Test.YtecmokfckbfdjaaGreatDoorD1
namespace Go.L.Q
open Go Go.Conc Go.L Go.Proofs
set_option linter.all false
set_option maxRecDepth 100000
-- wayzgoose/wayzgooselaw08.clan 6
theorem t0 : TabOK (CA prog) prog e0 := entB_ok ca_closed mixed (fs := fs) (tab := []) trivial (by kernel_rfl)
-- wayzgoose/wayzgooselaw08.clan 5
theorem t1 : TabOK (CA prog) prog e1 := entB_ok ca_closed mixed (fs := fs) (tab := []) trivial (by kernel_rfl)
-- wayzgoose/street.after 59
theorem t2 : TabOK (CA prog) prog e2 := entB_ok ca_closed mixed (fs := fs) (tab := []) trivial (by kernel_rfl)
-- wayzgoose/street.then 31
theorem t3 : TabOK (CA prog) prog e3 := entB_ok ca_closed mixed (fs := fs) (tab := []) trivial (by kernel_rfl)
-- wayzgoose/street.after 76
theorem t4 : TabOK (CA prog) prog e4 := entB_ok ca_closed mixed (fs := fs) (tab := []) trivial (by kernel_rfl)
-- wayzgoose/street.then 30
theorem t5 : TabOK (CA prog) prog e5 := entB_ok ca_closed mixed (fs := fs) (tab := []) trivial (by kernel_rfl)
-- wayzgoose/trade.Check 31
theorem t7 : TabOK (CA prog) prog e7 := entB_ok ca_closed mixed (fs := fs) (tab := []) trivial (by kernel_rfl)
-- wayzgoose/name.Check 0
theorem t8 : TabOK (CA prog) prog e8 := entB_ok ca_closed mixed (fs := fs) (tab := []) trivial (by kernel_rfl)
-- wayzgoose/name.Check 2
theorem t10 : TabOK (CA prog) prog e10 := entB_ok ca_closed mixed (fs := fs) (tab := []) trivial (by kernel_rfl)
-- wayzgoose/name.Check 1
theorem t12 : TabOK (CA prog) prog e12 := entB_ok ca_closed mixed (fs := fs) (tab := []) trivial (by kernel_rfl)
-- wayzgoose/name.Check 2
theorem t14 : TabOK (CA prog) prog e14 := entB_ok ca_closed mixed (fs := fs) (tab := []) trivial (by kernel_rfl)
-- wayzgoose/name.Check 0
theorem t19 : TabOK (CA prog) prog e19 := entB_ok ca_closed mixed (fs := fs) (tab := []) trivial (by kernel_rfl)
-- wayzgoose/trade.Least 48
theorem t43 : TabOK (CA prog) prog e43 := entB_ok ca_closed mixed (fs := fs) (tab := []) trivial (by kernel_rfl)
-- slices.insertionSortCmpFunc[wayzgoose/kin.truth] 5
theorem t49 : TabOK (CA prog) prog e49 := entB_ok ca_closed mixed (fs := fs) (tab := []) trivial (by kernel_rfl)
-- slices.insertionSortCmpFunc[wayzgoose/kin.truth] 19
theorem t51 : TabOK (CA prog) prog e51 := entB_ok ca_closed mixed (fs := fs) (tab := []) trivial (by kernel_rfl)
-- slices.insertionSortCmpFunc[wayzgoose/kin.truth] 2
theorem t74 : TabOK (CA prog) prog e74 := entB_ok ca_closed mixed (fs := fs) (tab := []) trivial (by kernel_rfl)
-- slices.insertionSortCmpFunc[wayzgoose/kin.truth] 5
theorem t76 : TabOK (CA prog) prog e76 := entB_ok ca_closed mixed (fs := fs) (tab := []) trivial (by kernel_rfl)
end Go.L.Q
