/-
  DERIVED. GIVEN WITH THE SEED: THE CARDS: each row of YtfhaegdkhpdedaaGreatDoorRows.lean that lists a variable, with what it lists TIED to the program's text (the seventh form; the later family's looks); each row that meets fmt, with fmt's text TOLD by the authors' own Lean function (tested against real Go, not proved from fmt's source: count such statements apart). THE CARD IS WHAT COUNTS. Prove the row's statement (the work); the ties are given (YtfhaegdkhpdedaaGreatDoorTie.lean); close each card by the builder's one call (the guide's Derived/Test/ToyasCard.lean, 'card_holds'). Laid BY PROGRAM, IN A SANDBOX (cutbox-door.mjs). By AI agents, Wed Nov 11 2026. No macro, syntax, notation, axiom, sorry.
-/
import Derived.Test.YtfhaegdkhpdedaaGreatDoorRows
import GoSem.ClaimSeven
namespace Go.Proofs.YtfhaegdkhpdedaaGreatDoor
namespace Rows

/-- THE TIED CARD OF 'wayzgooselaw05.LodgeKnown'. -/
def lodgeKnownCard : Claim7 := { stood := { row := lodgeKnownRow, standIns := [], harness := (true, "ce79f5d51c037daa73663644b5ee7ba6b163353d694873cc223180f29eb6e60d"), looks := false }, kinds := [], alts := [], goes := true, laidByText := true, laidKinds := [.data, .pinned, .pinned], laidTests := true, laidLooks := .later }
def LodgeKnownCardSaid : Prop := Claim7.holds Tryz.pinned (.plain (OpenSpec.ofChange lodgeKnownSpec)) lodgeKnownCard

/-- THE TIED CARD OF 'wayzgooselaw05.LodgeStays'. -/
def lodgeStaysCard : Claim7 := { stood := { row := lodgeStaysRow, standIns := [], harness := (true, "ce79f5d51c037daa73663644b5ee7ba6b163353d694873cc223180f29eb6e60d"), looks := false }, kinds := [], alts := [], goes := true, laidByText := true, laidKinds := [.data, .pinned, .pinned], laidTests := true, laidLooks := .later }
def LodgeStaysCardSaid : Prop := Claim7.holds Tryz.pinned (.plain (OpenSpec.ofChange lodgeStaysSpec)) lodgeStaysCard

/-- THE TIED CARD OF 'wayzgooselaw05.LodgeFalse'. -/
def lodgeFalseCard : Claim7 := { stood := { row := lodgeFalseRow, standIns := [], harness := (true, "ce79f5d51c037daa73663644b5ee7ba6b163353d694873cc223180f29eb6e60d"), looks := false }, kinds := [], alts := [], goes := true, laidByText := true, laidKinds := [.data, .pinned, .pinned], laidTests := true, laidLooks := .later }
def LodgeFalseCardSaid : Prop := Claim7.holds Tryz.pinned (.plain (OpenSpec.ofChange lodgeFalseSpec)) lodgeFalseCard

/-- THE TIED CARD OF 'wayzgooselaw05.LodgePlates'. -/
def lodgePlatesCard : Claim7 := { stood := { row := lodgePlatesRow, standIns := [], harness := (true, "ce79f5d51c037daa73663644b5ee7ba6b163353d694873cc223180f29eb6e60d"), looks := false }, kinds := [], alts := [], goes := true, laidByText := true, laidKinds := [.data, .pinned, .pinned], laidTests := true, laidLooks := .later }
def LodgePlatesCardSaid : Prop := Claim7.holds Tryz.pinned (.plain (OpenSpec.ofChange lodgePlatesSpec)) lodgePlatesCard

/-- THE TIED CARD OF 'wayzgooselaw05.LodgeSpelled'. -/
def lodgeSpelledCard : Claim7 := { stood := { row := lodgeSpelledRow, standIns := [], harness := (true, "ce79f5d51c037daa73663644b5ee7ba6b163353d694873cc223180f29eb6e60d"), looks := false }, kinds := [], alts := [], goes := true, laidByText := true, laidKinds := [.data, .pinned, .pinned], laidTests := true, laidLooks := .later }
def LodgeSpelledCardSaid : Prop := Claim7.holds Tryz.pinned (.plain (OpenSpec.ofChange lodgeSpelledSpec)) lodgeSpelledCard

/-- THE TIED CARD OF 'wayzgooselaw05.LodgeAll'. -/
def lodgeAllCard : Claim7 := { stood := { row := lodgeAllRow, standIns := [], harness := (true, "ce79f5d51c037daa73663644b5ee7ba6b163353d694873cc223180f29eb6e60d"), looks := false }, kinds := [], alts := [], goes := true, laidByText := true, laidKinds := [.data, .pinned, .pinned], laidTests := true, laidLooks := .later }
def LodgeAllCardSaid : Prop := Claim7.holds Tryz.pinned (.plain (OpenSpec.ofChange lodgeAllSpec)) lodgeAllCard

/-- THE TIED CARD OF 'wayzgoosetop.TopMoved'. -/
def topMovedCard : Claim7 := { stood := { row := topMovedRow, standIns := [], harness := (true, "ce79f5d51c037daa73663644b5ee7ba6b163353d694873cc223180f29eb6e60d"), looks := false }, kinds := [], alts := [], goes := true, laidByText := true, laidKinds := [.data, .pinned, .pinned], laidTests := true, laidLooks := .later }
def TopMovedCardSaid : Prop := Claim7.holds Tryz.pinned (.plain (OpenSpec.ofChange topMovedSpec)) topMovedCard
end Rows
end Go.Proofs.YtfhaegdkhpdedaaGreatDoor
