/-
  DERIVED. GIVEN WITH THE SEED: THE CARDS: each row of YthegconjacjohaaGreatDoorRows.lean that lists a variable, with what it lists TIED to the program's text (the seventh form; the later family's looks); each row that meets fmt, with fmt's text TOLD by the authors' own Lean function (tested against real Go, not proved from fmt's source: count such statements apart). THE CARD IS WHAT COUNTS. Prove the row's statement (the work); the ties are given (YthegconjacjohaaGreatDoorTie.lean); close each card by the builder's one call (the guide's Derived/Test/ToyasCard.lean, 'card_holds'). Laid BY PROGRAM, IN A SANDBOX (cutbox-door.mjs). By AI agents, Wed Nov 11 2026. No macro, syntax, notation, axiom, sorry.
-/
import Derived.Test.YthegconjacjohaaGreatDoorRows
import GoSem.ClaimSeven
namespace Go.Proofs.YthegconjacjohaaGreatDoor
namespace Rows

/-- THE TIED CARD OF 'wayzgooselaw08.KinClash'. -/
def kinClashCard : Claim7 := { stood := { row := kinClashRow, standIns := [], harness := (true, "89c0774e38aad8a9ff3465044c497331604797601532a3d37932712898112053"), looks := true }, kinds := [], alts := [], goes := true, laidByText := true, laidKinds := [.data, .pinned, .pinned], laidTests := true, laidLooks := .later }
def KinClashCardSaid : Prop := Claim7.holds Tryz.pinned (.plain (OpenSpec.ofChange kinClashSpec)) kinClashCard

/-- THE TIED CARD OF 'wayzgooselaw08.KinAll'. -/
def kinAllCard : Claim7 := { stood := { row := kinAllRow, standIns := [], harness := (true, "89c0774e38aad8a9ff3465044c497331604797601532a3d37932712898112053"), looks := true }, kinds := [], alts := [], goes := true, laidByText := true, laidKinds := [.data, .pinned, .pinned], laidTests := true, laidLooks := .later }
def KinAllCardSaid : Prop := Claim7.holds Tryz.pinned (.plain (OpenSpec.ofChange kinAllSpec)) kinAllCard

/-- THE TIED CARD OF 'wayzgoosetop.TopJoined'. -/
def topJoinedCard : Claim7 := { stood := { row := topJoinedRow, standIns := [], harness := (true, "89c0774e38aad8a9ff3465044c497331604797601532a3d37932712898112053"), looks := true }, kinds := [], alts := [], goes := true, laidByText := true, laidKinds := [.data, .pinned, .pinned], laidTests := true, laidLooks := .later }
def TopJoinedCardSaid : Prop := Claim7.holds Tryz.pinned (.plain (OpenSpec.ofChange topJoinedSpec)) topJoinedCard

/-- THE SECOND FORM's CARD OF 'wayzgooselaw08.KinClash'. -/
def kinClashUptoCard : Claim7 := { stood := { row := kinClashUptoRow, standIns := [], harness := (true, "89c0774e38aad8a9ff3465044c497331604797601532a3d37932712898112053"), looks := true }, kinds := [], alts := [], goes := true, laidByText := true, laidKinds := [.data, .pinned, .pinned], laidTests := true, laidLooks := .later }
def KinClashUptoCardSaid : Prop := Claim7.holds Tryz.pinned (.plain (OpenSpec.upto kinClashSpec)) kinClashUptoCard

/-- THE SECOND FORM's CARD OF 'wayzgooselaw08.KinAll'. -/
def kinAllUptoCard : Claim7 := { stood := { row := kinAllUptoRow, standIns := [], harness := (true, "89c0774e38aad8a9ff3465044c497331604797601532a3d37932712898112053"), looks := true }, kinds := [], alts := [], goes := true, laidByText := true, laidKinds := [.data, .pinned, .pinned], laidTests := true, laidLooks := .later }
def KinAllUptoCardSaid : Prop := Claim7.holds Tryz.pinned (.plain (OpenSpec.upto kinAllSpec)) kinAllUptoCard

/-- THE SECOND FORM's CARD OF 'wayzgoosetop.TopJoined'. -/
def topJoinedUptoCard : Claim7 := { stood := { row := topJoinedUptoRow, standIns := [], harness := (true, "89c0774e38aad8a9ff3465044c497331604797601532a3d37932712898112053"), looks := true }, kinds := [], alts := [], goes := true, laidByText := true, laidKinds := [.data, .pinned, .pinned], laidTests := true, laidLooks := .later }
def TopJoinedUptoCardSaid : Prop := Claim7.holds Tryz.pinned (.plain (OpenSpec.upto topJoinedSpec)) topJoinedUptoCard
end Rows
end Go.Proofs.YthegconjacjohaaGreatDoor
