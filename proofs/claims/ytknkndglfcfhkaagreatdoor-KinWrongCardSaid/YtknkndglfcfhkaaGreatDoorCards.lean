/-
  DERIVED. GIVEN WITH THE SEED: THE CARDS: each row of YtknkndglfcfhkaaGreatDoorRows.lean that lists a variable, with what it lists TIED to the program's text (the seventh form; the later family's looks); each row that meets fmt, with fmt's text TOLD by the authors' own Lean function (tested against real Go, not proved from fmt's source: count such statements apart). THE CARD IS WHAT COUNTS. Prove the row's statement (the work); the ties are given (YtknkndglfcfhkaaGreatDoorTie.lean); close each card by the builder's one call (the guide's Derived/Test/ToyasCard.lean, 'card_holds'). Laid BY PROGRAM, IN A SANDBOX (cutbox-door.mjs). By AI agents, Wed Nov 11 2026. No macro, syntax, notation, axiom, sorry.
-/
import Derived.Test.YtknkndglfcfhkaaGreatDoorRows
import GoSem.ClaimSeven
namespace Go.Proofs.YtknkndglfcfhkaaGreatDoor
namespace Rows

/-- THE TIED CARD OF 'wayzgooselaw08.KinRules'. -/
def kinRulesCard : Claim7 := { stood := { row := kinRulesRow, standIns := [], harness := (true, "86a9335295d01a6cbb1436baf4bbb7f57dec4c09c6e51f2ff328748f16b76e33"), looks := true }, kinds := [], alts := [], goes := true, laidByText := true, laidKinds := [.data, .pinned, .pinned], laidTests := true, laidLooks := .later }
def KinRulesCardSaid : Prop := Claim7.holds Tryz.pinned (.plain (OpenSpec.ofChange kinRulesSpec)) kinRulesCard

/-- THE TIED CARD OF 'wayzgooselaw08.KinExchanged'. -/
def kinExchangedCard : Claim7 := { stood := { row := kinExchangedRow, standIns := [], harness := (true, "86a9335295d01a6cbb1436baf4bbb7f57dec4c09c6e51f2ff328748f16b76e33"), looks := true }, kinds := [], alts := [], goes := true, laidByText := true, laidKinds := [.data, .pinned, .pinned], laidTests := true, laidLooks := .later }
def KinExchangedCardSaid : Prop := Claim7.holds Tryz.pinned (.plain (OpenSpec.ofChange kinExchangedSpec)) kinExchangedCard

/-- THE TIED CARD OF 'wayzgooselaw08.KinBest'. -/
def kinBestCard : Claim7 := { stood := { row := kinBestRow, standIns := [], harness := (true, "86a9335295d01a6cbb1436baf4bbb7f57dec4c09c6e51f2ff328748f16b76e33"), looks := true }, kinds := [], alts := [], goes := true, laidByText := true, laidKinds := [.data, .pinned, .pinned], laidTests := true, laidLooks := .later }
def KinBestCardSaid : Prop := Claim7.holds Tryz.pinned (.plain (OpenSpec.ofChange kinBestSpec)) kinBestCard

/-- THE TIED CARD OF 'wayzgooselaw08.KinWrong'. -/
def kinWrongCard : Claim7 := { stood := { row := kinWrongRow, standIns := [], harness := (true, "86a9335295d01a6cbb1436baf4bbb7f57dec4c09c6e51f2ff328748f16b76e33"), looks := true }, kinds := [], alts := [], goes := true, laidByText := true, laidKinds := [.data, .pinned, .pinned], laidTests := true, laidLooks := .later }
def KinWrongCardSaid : Prop := Claim7.holds Tryz.pinned (.plain (OpenSpec.ofChange kinWrongSpec)) kinWrongCard

/-- THE TIED CARD OF 'wayzgooselaw08.KinClash'. -/
def kinClashCard : Claim7 := { stood := { row := kinClashRow, standIns := [], harness := (true, "86a9335295d01a6cbb1436baf4bbb7f57dec4c09c6e51f2ff328748f16b76e33"), looks := true }, kinds := [], alts := [], goes := true, laidByText := true, laidKinds := [.data, .pinned, .pinned], laidTests := true, laidLooks := .later }
def KinClashCardSaid : Prop := Claim7.holds Tryz.pinned (.plain (OpenSpec.ofChange kinClashSpec)) kinClashCard

/-- THE SECOND FORM's CARD OF 'wayzgooselaw08.KinRules'. -/
def kinRulesUptoCard : Claim7 := { stood := { row := kinRulesUptoRow, standIns := [], harness := (true, "86a9335295d01a6cbb1436baf4bbb7f57dec4c09c6e51f2ff328748f16b76e33"), looks := true }, kinds := [], alts := [], goes := true, laidByText := true, laidKinds := [.data, .pinned, .pinned], laidTests := true, laidLooks := .later }
def KinRulesUptoCardSaid : Prop := Claim7.holds Tryz.pinned (.plain (OpenSpec.upto kinRulesSpec)) kinRulesUptoCard

/-- THE SECOND FORM's CARD OF 'wayzgooselaw08.KinExchanged'. -/
def kinExchangedUptoCard : Claim7 := { stood := { row := kinExchangedUptoRow, standIns := [], harness := (true, "86a9335295d01a6cbb1436baf4bbb7f57dec4c09c6e51f2ff328748f16b76e33"), looks := true }, kinds := [], alts := [], goes := true, laidByText := true, laidKinds := [.data, .pinned, .pinned], laidTests := true, laidLooks := .later }
def KinExchangedUptoCardSaid : Prop := Claim7.holds Tryz.pinned (.plain (OpenSpec.upto kinExchangedSpec)) kinExchangedUptoCard

/-- THE SECOND FORM's CARD OF 'wayzgooselaw08.KinBest'. -/
def kinBestUptoCard : Claim7 := { stood := { row := kinBestUptoRow, standIns := [], harness := (true, "86a9335295d01a6cbb1436baf4bbb7f57dec4c09c6e51f2ff328748f16b76e33"), looks := true }, kinds := [], alts := [], goes := true, laidByText := true, laidKinds := [.data, .pinned, .pinned], laidTests := true, laidLooks := .later }
def KinBestUptoCardSaid : Prop := Claim7.holds Tryz.pinned (.plain (OpenSpec.upto kinBestSpec)) kinBestUptoCard

/-- THE SECOND FORM's CARD OF 'wayzgooselaw08.KinWrong'. -/
def kinWrongUptoCard : Claim7 := { stood := { row := kinWrongUptoRow, standIns := [], harness := (true, "86a9335295d01a6cbb1436baf4bbb7f57dec4c09c6e51f2ff328748f16b76e33"), looks := true }, kinds := [], alts := [], goes := true, laidByText := true, laidKinds := [.data, .pinned, .pinned], laidTests := true, laidLooks := .later }
def KinWrongUptoCardSaid : Prop := Claim7.holds Tryz.pinned (.plain (OpenSpec.upto kinWrongSpec)) kinWrongUptoCard

/-- THE SECOND FORM's CARD OF 'wayzgooselaw08.KinClash'. -/
def kinClashUptoCard : Claim7 := { stood := { row := kinClashUptoRow, standIns := [], harness := (true, "86a9335295d01a6cbb1436baf4bbb7f57dec4c09c6e51f2ff328748f16b76e33"), looks := true }, kinds := [], alts := [], goes := true, laidByText := true, laidKinds := [.data, .pinned, .pinned], laidTests := true, laidLooks := .later }
def KinClashUptoCardSaid : Prop := Claim7.holds Tryz.pinned (.plain (OpenSpec.upto kinClashSpec)) kinClashUptoCard
end Rows
end Go.Proofs.YtknkndglfcfhkaaGreatDoor
