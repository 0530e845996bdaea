/-
  DERIVED. GIVEN WITH THE SEED: THE CARDS: each row of YtjpghiajlddegaaGreatDoorRows.lean that lists a variable, with what it lists TIED to the program's text (the seventh form; the later family's looks); each row that meets fmt, with fmt's text TOLD by the authors' own Lean function (tested against real Go, not proved from fmt's source: count such statements apart). THE CARD IS WHAT COUNTS. Prove the row's statement (the work); the ties are given (YtjpghiajlddegaaGreatDoorTie.lean); close each card by the builder's one call (the guide's Derived/Test/ToyasCard.lean, 'card_holds'). Laid BY PROGRAM, IN A SANDBOX (cutbox-door.mjs). By AI agents, Wed Nov 11 2026. No macro, syntax, notation, axiom, sorry.
-/
import Derived.Test.YtjpghiajlddegaaGreatDoorRows
import GoSem.ClaimSeven
namespace Go.Proofs.YtjpghiajlddegaaGreatDoor
namespace Rows

/-- THE TIED CARD OF 'wayzgooselaw08.KinWrong'. -/
def kinWrongCard : Claim7 := { stood := { row := kinWrongRow, standIns := [], harness := (true, "afd8fb069b87caf17c441304a03760a26e8085bc1c08edd1076ef068afe1307e"), looks := true }, kinds := [], alts := [], goes := true, laidByText := true, laidKinds := [.data, .pinned, .pinned], laidTests := true, laidLooks := .later }
def KinWrongCardSaid : Prop := Claim7.holds Tryz.pinned (.plain (OpenSpec.ofChange kinWrongSpec)) kinWrongCard

/-- THE TIED CARD OF 'wayzgooselaw08.KinAsked'. -/
def kinAskedCard : Claim7 := { stood := { row := kinAskedRow, standIns := [], harness := (true, "afd8fb069b87caf17c441304a03760a26e8085bc1c08edd1076ef068afe1307e"), looks := true }, kinds := [], alts := [], goes := true, laidByText := true, laidKinds := [.data, .pinned, .pinned], laidTests := true, laidLooks := .later }
def KinAskedCardSaid : Prop := Claim7.holds Tryz.pinned (.plain (OpenSpec.ofChange kinAskedSpec)) kinAskedCard

/-- THE TIED CARD OF 'wayzgooselaw08.KinFacts'. -/
def kinFactsCard : Claim7 := { stood := { row := kinFactsRow, standIns := [], harness := (true, "afd8fb069b87caf17c441304a03760a26e8085bc1c08edd1076ef068afe1307e"), looks := true }, kinds := [], alts := [], goes := true, laidByText := true, laidKinds := [.data, .pinned, .pinned], laidTests := true, laidLooks := .later }
def KinFactsCardSaid : Prop := Claim7.holds Tryz.pinned (.plain (OpenSpec.ofChange kinFactsSpec)) kinFactsCard

/-- THE TIED CARD OF 'wayzgooselaw08.KinCounted'. -/
def kinCountedCard : Claim7 := { stood := { row := kinCountedRow, standIns := [], harness := (true, "afd8fb069b87caf17c441304a03760a26e8085bc1c08edd1076ef068afe1307e"), looks := true }, kinds := [], alts := [], goes := true, laidByText := true, laidKinds := [.data, .pinned, .pinned], laidTests := true, laidLooks := .later }
def KinCountedCardSaid : Prop := Claim7.holds Tryz.pinned (.plain (OpenSpec.ofChange kinCountedSpec)) kinCountedCard

/-- THE SECOND FORM's CARD OF 'wayzgooselaw08.KinWrong'. -/
def kinWrongUptoCard : Claim7 := { stood := { row := kinWrongUptoRow, standIns := [], harness := (true, "afd8fb069b87caf17c441304a03760a26e8085bc1c08edd1076ef068afe1307e"), looks := true }, kinds := [], alts := [], goes := true, laidByText := true, laidKinds := [.data, .pinned, .pinned], laidTests := true, laidLooks := .later }
def KinWrongUptoCardSaid : Prop := Claim7.holds Tryz.pinned (.plain (OpenSpec.upto kinWrongSpec)) kinWrongUptoCard

/-- THE SECOND FORM's CARD OF 'wayzgooselaw08.KinAsked'. -/
def kinAskedUptoCard : Claim7 := { stood := { row := kinAskedUptoRow, standIns := [], harness := (true, "afd8fb069b87caf17c441304a03760a26e8085bc1c08edd1076ef068afe1307e"), looks := true }, kinds := [], alts := [], goes := true, laidByText := true, laidKinds := [.data, .pinned, .pinned], laidTests := true, laidLooks := .later }
def KinAskedUptoCardSaid : Prop := Claim7.holds Tryz.pinned (.plain (OpenSpec.upto kinAskedSpec)) kinAskedUptoCard

/-- THE SECOND FORM's CARD OF 'wayzgooselaw08.KinFacts'. -/
def kinFactsUptoCard : Claim7 := { stood := { row := kinFactsUptoRow, standIns := [], harness := (true, "afd8fb069b87caf17c441304a03760a26e8085bc1c08edd1076ef068afe1307e"), looks := true }, kinds := [], alts := [], goes := true, laidByText := true, laidKinds := [.data, .pinned, .pinned], laidTests := true, laidLooks := .later }
def KinFactsUptoCardSaid : Prop := Claim7.holds Tryz.pinned (.plain (OpenSpec.upto kinFactsSpec)) kinFactsUptoCard

/-- THE SECOND FORM's CARD OF 'wayzgooselaw08.KinCounted'. -/
def kinCountedUptoCard : Claim7 := { stood := { row := kinCountedUptoRow, standIns := [], harness := (true, "afd8fb069b87caf17c441304a03760a26e8085bc1c08edd1076ef068afe1307e"), looks := true }, kinds := [], alts := [], goes := true, laidByText := true, laidKinds := [.data, .pinned, .pinned], laidTests := true, laidLooks := .later }
def KinCountedUptoCardSaid : Prop := Claim7.holds Tryz.pinned (.plain (OpenSpec.upto kinCountedSpec)) kinCountedUptoCard
end Rows
end Go.Proofs.YtjpghiajlddegaaGreatDoor
