/- Tables of YtecmokfckbfdjaaGreatDoor: each entry is what the program comes to. -/
import Derived.Test.YtecmokfckbfdjaaGreatDoorD1
import Derived.Test.YtecmokfckbfdjaaGreatDoorT1
namespace Go.L.Q
open Go Go.Conc Go.L Go.Proofs
set_option linter.all false
set_option maxRecDepth 100000
-- (*wayzgoose/kin.family).sets 8
theorem t98 : TabOK (CA prog) prog e98 := entB_ok ca_closed mixed (fs := fs) (tab := []) trivial (by kernel_rfl)
-- wayzgoose/trade.Least 48
theorem t112 : TabOK (CA prog) prog e112 := entB_ok ca_closed mixed (fs := fs) (tab := []) trivial (by kernel_rfl)
-- wayzgoose/kin.counted 13
theorem t130 : TabOK (CA prog) prog e130 := entB_ok ca_closed mixed (fs := fs) (tab := []) trivial (by kernel_rfl)
-- wayzgoose/wayzgooselaw08.clan 5
theorem t134 : TabOK (CA prog) prog e134 := entB_ok ca_closed mixed (fs := fs) (tab := []) trivial (by kernel_rfl)
-- wayzgoose/trade.Least 46
theorem t164 : TabOK (CA prog) prog e164 := entB_ok ca_closed mixed (fs := fs) (tab := []) trivial (by kernel_rfl)
-- wayzgoose/trade.Least 48
theorem t166 : TabOK (CA prog) prog e166 := entB_ok ca_closed mixed (fs := fs) (tab := []) trivial (by kernel_rfl)
-- slices.insertionSortCmpFunc[wayzgoose/kin.truth] 1
theorem t199 : TabOK (CA prog) prog e199 := entB_ok ca_closed mixed (fs := fs) (tab := []) trivial (by kernel_rfl)
-- (*wayzgoose/kin.family).sets 8
theorem t251 : TabOK (CA prog) prog e251 := entB_ok ca_closed mixed (fs := fs) (tab := []) trivial (by kernel_rfl)
-- (*wayzgoose/kin.family).sets 1
theorem t294 : TabOK (CA prog) prog e294 := entB_ok ca_closed mixed (fs := fs) (tab := []) trivial (by kernel_rfl)
-- wayzgoose/kin.copied 17
theorem t349 : TabOK (CA prog) prog e349 := entB_ok ca_closed mixed (fs := fs) (tab := []) trivial (by kernel_rfl)
-- wayzgoose/trade.Check 30
theorem t352 : TabOK (CA prog) prog e352 := entB_ok ca_closed mixed (fs := fs) (tab := []) trivial (by kernel_rfl)
-- wayzgoose/trade.Least 48
theorem t383 : TabOK (CA prog) prog e383 := entB_ok ca_closed mixed (fs := fs) (tab := []) trivial (by kernel_rfl)
-- slices.insertionSortCmpFunc[wayzgoose/kin.truth] 2
theorem t389 : TabOK (CA prog) prog e389 := entB_ok ca_closed mixed (fs := fs) (tab := []) trivial (by kernel_rfl)
-- slices.insertionSortCmpFunc[wayzgoose/kin.truth] 5
theorem t391 : TabOK (CA prog) prog e391 := entB_ok ca_closed mixed (fs := fs) (tab := []) trivial (by kernel_rfl)
-- wayzgoose/street.Truths 48
theorem t6 : TabOK (CA prog) prog e6 := entB_ok ca_closed mixed (fs := fs) (tab := [e5, e4, e3, e2]) ⟨t5, t4, t3, t2, trivial⟩ (by kernel_rfl)
-- wayzgoose/name.Verdict 4
theorem t9 : TabOK (CA prog) prog e9 := entB_ok ca_closed mixed (fs := fs) (tab := [e8]) ⟨t8, trivial⟩ (by kernel_rfl)
end Go.L.Q
