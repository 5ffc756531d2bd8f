/-
  DERIVED. GIVEN WITH THE SEED: THE CARDS: each row of YtadhiimkcdnfkaaGreatDoorRows.lean that lists a variable, with what it lists TIED to the program's text (the seventh form; the later family's looks); each row that meets fmt, with fmt's text TOLD by the authors' own Lean function (tested against real Go, not proved from fmt's source: count such statements apart). THE CARD IS WHAT COUNTS. Prove the row's statement (the work); the ties are given (YtadhiimkcdnfkaaGreatDoorTie.lean); close each card by the builder's one call (the guide's Derived/Test/ToyasCard.lean, 'card_holds'). Laid BY PROGRAM, IN A SANDBOX (cutbox-door.mjs). By AI agents, Wed Nov 11 2026. No macro, syntax, notation, axiom, sorry.
-/
import Derived.Test.YtadhiimkcdnfkaaGreatDoorRows
import GoSem.ClaimSeven
namespace Go.Proofs.YtadhiimkcdnfkaaGreatDoor
namespace Rows

/-- THE TIED CARD OF 'gouachelaw11.SheetReads'. -/
def sheetReadsCard : Claim7 := { stood := { row := sheetReadsRow, standIns := [], harness := (true, "f7cc941e7d05a4052c6e186becf1955e8ceb2a2ac7aea5a2e942ba49dfb3bbab"), looks := false }, kinds := [], alts := [], laidByText := true, laidKinds := [.data, .widerDeep, .widerDeep, .pinned], laidTests := true, laidLooks := .later }
def SheetReadsCardSaid : Prop := Claim7.holds Tryz.pinned (.plain (OpenSpec.ofChange sheetReadsSpec)) sheetReadsCard

/-- THE TIED CARD OF 'gouachelaw11.SheetOne'. -/
def sheetOneCard : Claim7 := { stood := { row := sheetOneRow, standIns := [], harness := (true, "f7cc941e7d05a4052c6e186becf1955e8ceb2a2ac7aea5a2e942ba49dfb3bbab"), looks := false }, kinds := [], alts := [], laidByText := true, laidKinds := [.data, .widerDeep, .widerDeep, .pinned], laidTests := true, laidLooks := .later }
def SheetOneCardSaid : Prop := Claim7.holds Tryz.pinned (.plain (OpenSpec.ofChange sheetOneSpec)) sheetOneCard

/-- THE TIED CARD OF 'gouachelaw11.SheetMany'. -/
def sheetManyCard : Claim7 := { stood := { row := sheetManyRow, standIns := [], harness := (true, "f7cc941e7d05a4052c6e186becf1955e8ceb2a2ac7aea5a2e942ba49dfb3bbab"), looks := false }, kinds := [], alts := [], laidByText := true, laidKinds := [.data, .widerDeep, .widerDeep, .pinned], laidTests := true, laidLooks := .later }
def SheetManyCardSaid : Prop := Claim7.holds Tryz.pinned (.plain (OpenSpec.ofChange sheetManySpec)) sheetManyCard

/-- THE TIED CARD OF 'gouachelaw11.SheetActs'. -/
def sheetActsCard : Claim7 := { stood := { row := sheetActsRow, standIns := [], harness := (true, "f7cc941e7d05a4052c6e186becf1955e8ceb2a2ac7aea5a2e942ba49dfb3bbab"), looks := false }, kinds := [], alts := [], laidByText := true, laidKinds := [.data, .widerDeep, .widerDeep, .pinned], laidTests := true, laidLooks := .later }
def SheetActsCardSaid : Prop := Claim7.holds Tryz.pinned (.plain (OpenSpec.ofChange sheetActsSpec)) sheetActsCard

/-- THE TIED CARD OF 'gouachelaw11.SheetKeeps'. -/
def sheetKeepsCard : Claim7 := { stood := { row := sheetKeepsRow, standIns := [], harness := (true, "f7cc941e7d05a4052c6e186becf1955e8ceb2a2ac7aea5a2e942ba49dfb3bbab"), looks := false }, kinds := [], alts := [], laidByText := true, laidKinds := [.data, .widerDeep, .widerDeep, .pinned], laidTests := true, laidLooks := .later }
def SheetKeepsCardSaid : Prop := Claim7.holds Tryz.pinned (.plain (OpenSpec.ofChange sheetKeepsSpec)) sheetKeepsCard

/-- THE TIED CARD OF 'gouachelaw11.SheetNone'. -/
def sheetNoneCard : Claim7 := { stood := { row := sheetNoneRow, standIns := [], harness := (true, "f7cc941e7d05a4052c6e186becf1955e8ceb2a2ac7aea5a2e942ba49dfb3bbab"), looks := false }, kinds := [], alts := [], laidByText := true, laidKinds := [.data, .widerDeep, .widerDeep, .pinned], laidTests := true, laidLooks := .later }
def SheetNoneCardSaid : Prop := Claim7.holds Tryz.pinned (.plain (OpenSpec.ofChange sheetNoneSpec)) sheetNoneCard

/-- THE SECOND FORM's CARD OF 'gouachelaw11.SheetReads'. -/
def sheetReadsUptoCard : Claim7 := { stood := { row := sheetReadsUptoRow, standIns := [], harness := (true, "f7cc941e7d05a4052c6e186becf1955e8ceb2a2ac7aea5a2e942ba49dfb3bbab"), looks := false }, kinds := [], alts := [], laidByText := true, laidKinds := [.data, .widerDeep, .widerDeep, .pinned], laidTests := true, laidLooks := .later }
def SheetReadsUptoCardSaid : Prop := Claim7.holds Tryz.pinned (.plain (OpenSpec.upto sheetReadsSpec)) sheetReadsUptoCard

/-- THE SECOND FORM's CARD OF 'gouachelaw11.SheetOne'. -/
def sheetOneUptoCard : Claim7 := { stood := { row := sheetOneUptoRow, standIns := [], harness := (true, "f7cc941e7d05a4052c6e186becf1955e8ceb2a2ac7aea5a2e942ba49dfb3bbab"), looks := false }, kinds := [], alts := [], laidByText := true, laidKinds := [.data, .widerDeep, .widerDeep, .pinned], laidTests := true, laidLooks := .later }
def SheetOneUptoCardSaid : Prop := Claim7.holds Tryz.pinned (.plain (OpenSpec.upto sheetOneSpec)) sheetOneUptoCard

/-- THE SECOND FORM's CARD OF 'gouachelaw11.SheetMany'. -/
def sheetManyUptoCard : Claim7 := { stood := { row := sheetManyUptoRow, standIns := [], harness := (true, "f7cc941e7d05a4052c6e186becf1955e8ceb2a2ac7aea5a2e942ba49dfb3bbab"), looks := false }, kinds := [], alts := [], laidByText := true, laidKinds := [.data, .widerDeep, .widerDeep, .pinned], laidTests := true, laidLooks := .later }
def SheetManyUptoCardSaid : Prop := Claim7.holds Tryz.pinned (.plain (OpenSpec.upto sheetManySpec)) sheetManyUptoCard

/-- THE SECOND FORM's CARD OF 'gouachelaw11.SheetActs'. -/
def sheetActsUptoCard : Claim7 := { stood := { row := sheetActsUptoRow, standIns := [], harness := (true, "f7cc941e7d05a4052c6e186becf1955e8ceb2a2ac7aea5a2e942ba49dfb3bbab"), looks := false }, kinds := [], alts := [], laidByText := true, laidKinds := [.data, .widerDeep, .widerDeep, .pinned], laidTests := true, laidLooks := .later }
def SheetActsUptoCardSaid : Prop := Claim7.holds Tryz.pinned (.plain (OpenSpec.upto sheetActsSpec)) sheetActsUptoCard

/-- THE SECOND FORM's CARD OF 'gouachelaw11.SheetKeeps'. -/
def sheetKeepsUptoCard : Claim7 := { stood := { row := sheetKeepsUptoRow, standIns := [], harness := (true, "f7cc941e7d05a4052c6e186becf1955e8ceb2a2ac7aea5a2e942ba49dfb3bbab"), looks := false }, kinds := [], alts := [], laidByText := true, laidKinds := [.data, .widerDeep, .widerDeep, .pinned], laidTests := true, laidLooks := .later }
def SheetKeepsUptoCardSaid : Prop := Claim7.holds Tryz.pinned (.plain (OpenSpec.upto sheetKeepsSpec)) sheetKeepsUptoCard

/-- THE SECOND FORM's CARD OF 'gouachelaw11.SheetNone'. -/
def sheetNoneUptoCard : Claim7 := { stood := { row := sheetNoneUptoRow, standIns := [], harness := (true, "f7cc941e7d05a4052c6e186becf1955e8ceb2a2ac7aea5a2e942ba49dfb3bbab"), looks := false }, kinds := [], alts := [], laidByText := true, laidKinds := [.data, .widerDeep, .widerDeep, .pinned], laidTests := true, laidLooks := .later }
def SheetNoneUptoCardSaid : Prop := Claim7.holds Tryz.pinned (.plain (OpenSpec.upto sheetNoneSpec)) sheetNoneUptoCard
end Rows
end Go.Proofs.YtadhiimkcdnfkaaGreatDoor
