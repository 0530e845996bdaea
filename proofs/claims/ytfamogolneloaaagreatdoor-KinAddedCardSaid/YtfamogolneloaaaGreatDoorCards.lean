/-
  DERIVED. GIVEN WITH THE SEED: THE CARDS: each row of YtfamogolneloaaaGreatDoorRows.lean that lists a variable, with what it lists TIED to the program's text (the seventh form; the later family's looks); each row that meets fmt, with fmt's text TOLD by the authors' own Lean function (tested against real Go, not proved from fmt's source: count such statements apart). THE CARD IS WHAT COUNTS. Prove the row's statement (the work); the ties are given (YtfamogolneloaaaGreatDoorTie.lean); close each card by the builder's one call (the guide's Derived/Test/ToyasCard.lean, 'card_holds'). Laid BY PROGRAM, IN A SANDBOX (cutbox-door.mjs). By AI agents, Wed Nov 11 2026. No macro, syntax, notation, axiom, sorry.
-/
import Derived.Test.YtfamogolneloaaaGreatDoorRows
import GoSem.ClaimSeven
namespace Go.Proofs.YtfamogolneloaaaGreatDoor
namespace Rows

/-- THE TIED CARD OF 'wayzgooselaw08.KinAlike'. -/
def kinAlikeCard : Claim7 := { stood := { row := kinAlikeRow, standIns := [], harness := (true, "277c6acc92eb3c068e728823d8bf8481e98592e56f1aa67ef0b163bdfd984dd0"), looks := true }, kinds := [], alts := [], goes := true, laidByText := true, laidKinds := [.data, .pinned, .pinned], laidTests := true, laidLooks := .later }
def KinAlikeCardSaid : Prop := Claim7.holds Tryz.pinned (.plain (OpenSpec.ofChange kinAlikeSpec)) kinAlikeCard

/-- THE TIED CARD OF 'wayzgooselaw08.KinRenumbered'. -/
def kinRenumberedCard : Claim7 := { stood := { row := kinRenumberedRow, standIns := [], harness := (true, "277c6acc92eb3c068e728823d8bf8481e98592e56f1aa67ef0b163bdfd984dd0"), looks := true }, kinds := [], alts := [], goes := true, laidByText := true, laidKinds := [.data, .pinned, .pinned], laidTests := true, laidLooks := .later }
def KinRenumberedCardSaid : Prop := Claim7.holds Tryz.pinned (.plain (OpenSpec.ofChange kinRenumberedSpec)) kinRenumberedCard

/-- THE TIED CARD OF 'wayzgooselaw08.KinAdded'. -/
def kinAddedCard : Claim7 := { stood := { row := kinAddedRow, standIns := [], harness := (true, "277c6acc92eb3c068e728823d8bf8481e98592e56f1aa67ef0b163bdfd984dd0"), looks := true }, kinds := [], alts := [], goes := true, laidByText := true, laidKinds := [.data, .pinned, .pinned], laidTests := true, laidLooks := .later }
def KinAddedCardSaid : Prop := Claim7.holds Tryz.pinned (.plain (OpenSpec.ofChange kinAddedSpec)) kinAddedCard

/-- THE TIED CARD OF 'wayzgooselaw08.KinAgree'. -/
def kinAgreeCard : Claim7 := { stood := { row := kinAgreeRow, standIns := [], harness := (true, "277c6acc92eb3c068e728823d8bf8481e98592e56f1aa67ef0b163bdfd984dd0"), looks := true }, kinds := [], alts := [], goes := true, laidByText := true, laidKinds := [.data, .pinned, .pinned], laidTests := true, laidLooks := .later }
def KinAgreeCardSaid : Prop := Claim7.holds Tryz.pinned (.plain (OpenSpec.ofChange kinAgreeSpec)) kinAgreeCard

/-- THE SECOND FORM's CARD OF 'wayzgooselaw08.KinAlike'. -/
def kinAlikeUptoCard : Claim7 := { stood := { row := kinAlikeUptoRow, standIns := [], harness := (true, "277c6acc92eb3c068e728823d8bf8481e98592e56f1aa67ef0b163bdfd984dd0"), looks := true }, kinds := [], alts := [], goes := true, laidByText := true, laidKinds := [.data, .pinned, .pinned], laidTests := true, laidLooks := .later }
def KinAlikeUptoCardSaid : Prop := Claim7.holds Tryz.pinned (.plain (OpenSpec.upto kinAlikeSpec)) kinAlikeUptoCard

/-- THE SECOND FORM's CARD OF 'wayzgooselaw08.KinRenumbered'. -/
def kinRenumberedUptoCard : Claim7 := { stood := { row := kinRenumberedUptoRow, standIns := [], harness := (true, "277c6acc92eb3c068e728823d8bf8481e98592e56f1aa67ef0b163bdfd984dd0"), looks := true }, kinds := [], alts := [], goes := true, laidByText := true, laidKinds := [.data, .pinned, .pinned], laidTests := true, laidLooks := .later }
def KinRenumberedUptoCardSaid : Prop := Claim7.holds Tryz.pinned (.plain (OpenSpec.upto kinRenumberedSpec)) kinRenumberedUptoCard

/-- THE SECOND FORM's CARD OF 'wayzgooselaw08.KinAdded'. -/
def kinAddedUptoCard : Claim7 := { stood := { row := kinAddedUptoRow, standIns := [], harness := (true, "277c6acc92eb3c068e728823d8bf8481e98592e56f1aa67ef0b163bdfd984dd0"), looks := true }, kinds := [], alts := [], goes := true, laidByText := true, laidKinds := [.data, .pinned, .pinned], laidTests := true, laidLooks := .later }
def KinAddedUptoCardSaid : Prop := Claim7.holds Tryz.pinned (.plain (OpenSpec.upto kinAddedSpec)) kinAddedUptoCard

/-- THE SECOND FORM's CARD OF 'wayzgooselaw08.KinAgree'. -/
def kinAgreeUptoCard : Claim7 := { stood := { row := kinAgreeUptoRow, standIns := [], harness := (true, "277c6acc92eb3c068e728823d8bf8481e98592e56f1aa67ef0b163bdfd984dd0"), looks := true }, kinds := [], alts := [], goes := true, laidByText := true, laidKinds := [.data, .pinned, .pinned], laidTests := true, laidLooks := .later }
def KinAgreeUptoCardSaid : Prop := Claim7.holds Tryz.pinned (.plain (OpenSpec.upto kinAgreeSpec)) kinAgreeUptoCard
end Rows
end Go.Proofs.YtfamogolneloaaaGreatDoor
