/-
  DERIVED. GIVEN WITH THE SEED: THE CARDS: each row of YtecmokfckbfdjaaGreatDoorRows.lean that lists a variable, with what it lists TIED to the program's text (the seventh form; the later family's looks); each row that meets fmt, with fmt's text TOLD by the authors' own Lean function (tested against real Go, not proved from fmt's source: count such statements apart). THE CARD IS WHAT COUNTS. Prove the row's statement (the work); the ties are given (YtecmokfckbfdjaaGreatDoorTie.lean); close each card by the builder's one call (the guide's Derived/Test/ToyasCard.lean, 'card_holds'). Laid BY PROGRAM, IN A SANDBOX (cutbox-door.mjs). By AI agents, Wed Nov 11 2026. No macro, syntax, notation, axiom, sorry.
-/
import Derived.Test.YtecmokfckbfdjaaGreatDoorRows
import GoSem.ClaimSeven
namespace Go.Proofs.YtecmokfckbfdjaaGreatDoor
namespace Rows

/-- THE TIED CARD OF 'wayzgooselaw08.KinKnown'. -/
def kinKnownCard : Claim7 := { stood := { row := kinKnownRow, standIns := [], harness := (true, "87da75bd4f9e316429a4960245ed2c9a37aca18da0cae317f6ab4f6800116523"), looks := true }, kinds := [], alts := [], goes := true, laidByText := true, laidKinds := [.data, .pinned, .pinned], laidTests := true, laidLooks := .later }
def KinKnownCardSaid : Prop := Claim7.holds Tryz.pinned (.plain (OpenSpec.ofChange kinKnownSpec)) kinKnownCard

/-- THE SECOND FORM's CARD OF 'wayzgooselaw08.KinKnown'. -/
def kinKnownUptoCard : Claim7 := { stood := { row := kinKnownUptoRow, standIns := [], harness := (true, "87da75bd4f9e316429a4960245ed2c9a37aca18da0cae317f6ab4f6800116523"), looks := true }, kinds := [], alts := [], goes := true, laidByText := true, laidKinds := [.data, .pinned, .pinned], laidTests := true, laidLooks := .later }
def KinKnownUptoCardSaid : Prop := Claim7.holds Tryz.pinned (.plain (OpenSpec.upto kinKnownSpec)) kinKnownUptoCard
end Rows
end Go.Proofs.YtecmokfckbfdjaaGreatDoor
