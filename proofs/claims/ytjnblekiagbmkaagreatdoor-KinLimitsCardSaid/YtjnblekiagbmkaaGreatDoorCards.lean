/-
  DERIVED. GIVEN WITH THE SEED: THE CARDS: each row of YtjnblekiagbmkaaGreatDoorRows.lean that lists a variable, with what it lists TIED to the program's text (the seventh form; the later family's looks); each row that meets fmt, with fmt's text TOLD by the authors' own Lean function (tested against real Go, not proved from fmt's source: count such statements apart). THE CARD IS WHAT COUNTS. Prove the row's statement (the work); the ties are given (YtjnblekiagbmkaaGreatDoorTie.lean); close each card by the builder's one call (the guide's Derived/Test/ToyasCard.lean, 'card_holds'). Laid BY PROGRAM, IN A SANDBOX (cutbox-door.mjs). By AI agents, Wed Nov 11 2026. No macro, syntax, notation, axiom, sorry.
-/
import Derived.Test.YtjnblekiagbmkaaGreatDoorRows
import GoSem.ClaimSeven
namespace Go.Proofs.YtjnblekiagbmkaaGreatDoor
namespace Rows

/-- THE TIED CARD OF 'wayzgooselaw08.KinLimits'. -/
def kinLimitsCard : Claim7 := { stood := { row := kinLimitsRow, standIns := [], harness := (true, "46ec263568caac797791fe923f2d32ab6bf30f3ef79d6aa8603e80fbf381f21a"), looks := true }, kinds := [], alts := [], goes := true, laidByText := true, laidKinds := [.data, .pinned, .pinned], laidTests := true, laidLooks := .later }
def KinLimitsCardSaid : Prop := Claim7.holds Tryz.pinned (.plain (OpenSpec.ofChange kinLimitsSpec)) kinLimitsCard

/-- THE SECOND FORM's CARD OF 'wayzgooselaw08.KinLimits'. -/
def kinLimitsUptoCard : Claim7 := { stood := { row := kinLimitsUptoRow, standIns := [], harness := (true, "46ec263568caac797791fe923f2d32ab6bf30f3ef79d6aa8603e80fbf381f21a"), looks := true }, kinds := [], alts := [], goes := true, laidByText := true, laidKinds := [.data, .pinned, .pinned], laidTests := true, laidLooks := .later }
def KinLimitsUptoCardSaid : Prop := Claim7.holds Tryz.pinned (.plain (OpenSpec.upto kinLimitsSpec)) kinLimitsUptoCard
end Rows
end Go.Proofs.YtjnblekiagbmkaaGreatDoor
