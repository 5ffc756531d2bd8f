/-
  DERIVED. GIVEN WITH THE SEED: THE CARDS: each row of YtjhfnlidkijpbaaGreatDoorRows.lean that lists a variable, with what it lists TIED to the program's text (the seventh form; the later family's looks); each row that meets fmt, with fmt's text TOLD by the authors' own Lean function (tested against real Go, not proved from fmt's source: count such statements apart). THE CARD IS WHAT COUNTS. Prove the row's statement (the work); the ties are given (YtjhfnlidkijpbaaGreatDoorTie.lean); close each card by the builder's one call (the guide's Derived/Test/ToyasCard.lean, 'card_holds'). Laid BY PROGRAM, IN A SANDBOX (cutbox-door.mjs). By AI agents, Wed Nov 11 2026. No macro, syntax, notation, axiom, sorry.
-/
import Derived.Test.YtjhfnlidkijpbaaGreatDoorRows
import GoSem.ClaimSeven
namespace Go.Proofs.YtjhfnlidkijpbaaGreatDoor
namespace Rows

/-- THE TIED CARD OF 'gouachelaw05.SelectTexts'. -/
def selectTextsCard : Claim7 := { stood := { row := selectTextsRow, standIns := [], harness := (true, "4baaf1be6fee69c94f9687993930c90b54c0d3d883a94d37036c15e2440e11c2"), looks := false }, kinds := [], alts := [], laidByText := true, laidKinds := [.data, .widerDeep, .widerDeep, .pinned], laidTests := true, laidLooks := .later }
def SelectTextsCardSaid : Prop := Claim7.holds Tryz.pinned (.plain (OpenSpec.ofChange selectTextsSpec)) selectTextsCard

/-- THE TIED CARD OF 'gouachelaw05.SelectParses'. -/
def selectParsesCard : Claim7 := { stood := { row := selectParsesRow, standIns := [], harness := (true, "4baaf1be6fee69c94f9687993930c90b54c0d3d883a94d37036c15e2440e11c2"), looks := false }, kinds := [], alts := [], laidByText := true, laidKinds := [.data, .widerDeep, .widerDeep, .pinned], laidTests := true, laidLooks := .later }
def SelectParsesCardSaid : Prop := Claim7.holds Tryz.pinned (.plain (OpenSpec.ofChange selectParsesSpec)) selectParsesCard

/-- THE TIED CARD OF 'gouachelaw05.SelectSpecs'. -/
def selectSpecsCard : Claim7 := { stood := { row := selectSpecsRow, standIns := [], harness := (true, "4baaf1be6fee69c94f9687993930c90b54c0d3d883a94d37036c15e2440e11c2"), looks := false }, kinds := [], alts := [], laidByText := true, laidKinds := [.data, .widerDeep, .widerDeep, .pinned], laidTests := true, laidLooks := .later }
def SelectSpecsCardSaid : Prop := Claim7.holds Tryz.pinned (.plain (OpenSpec.ofChange selectSpecsSpec)) selectSpecsCard

/-- THE TIED CARD OF 'gouachelaw05.SelectJoins'. -/
def selectJoinsCard : Claim7 := { stood := { row := selectJoinsRow, standIns := [], harness := (true, "4baaf1be6fee69c94f9687993930c90b54c0d3d883a94d37036c15e2440e11c2"), looks := false }, kinds := [], alts := [], laidByText := true, laidKinds := [.data, .widerDeep, .widerDeep, .pinned], laidTests := true, laidLooks := .later }
def SelectJoinsCardSaid : Prop := Claim7.holds Tryz.pinned (.plain (OpenSpec.ofChange selectJoinsSpec)) selectJoinsCard

/-- THE SECOND FORM's CARD OF 'gouachelaw05.SelectTexts'. -/
def selectTextsUptoCard : Claim7 := { stood := { row := selectTextsUptoRow, standIns := [], harness := (true, "4baaf1be6fee69c94f9687993930c90b54c0d3d883a94d37036c15e2440e11c2"), looks := false }, kinds := [], alts := [], laidByText := true, laidKinds := [.data, .widerDeep, .widerDeep, .pinned], laidTests := true, laidLooks := .later }
def SelectTextsUptoCardSaid : Prop := Claim7.holds Tryz.pinned (.plain (OpenSpec.upto selectTextsSpec)) selectTextsUptoCard

/-- THE SECOND FORM's CARD OF 'gouachelaw05.SelectParses'. -/
def selectParsesUptoCard : Claim7 := { stood := { row := selectParsesUptoRow, standIns := [], harness := (true, "4baaf1be6fee69c94f9687993930c90b54c0d3d883a94d37036c15e2440e11c2"), looks := false }, kinds := [], alts := [], laidByText := true, laidKinds := [.data, .widerDeep, .widerDeep, .pinned], laidTests := true, laidLooks := .later }
def SelectParsesUptoCardSaid : Prop := Claim7.holds Tryz.pinned (.plain (OpenSpec.upto selectParsesSpec)) selectParsesUptoCard

/-- THE SECOND FORM's CARD OF 'gouachelaw05.SelectSpecs'. -/
def selectSpecsUptoCard : Claim7 := { stood := { row := selectSpecsUptoRow, standIns := [], harness := (true, "4baaf1be6fee69c94f9687993930c90b54c0d3d883a94d37036c15e2440e11c2"), looks := false }, kinds := [], alts := [], laidByText := true, laidKinds := [.data, .widerDeep, .widerDeep, .pinned], laidTests := true, laidLooks := .later }
def SelectSpecsUptoCardSaid : Prop := Claim7.holds Tryz.pinned (.plain (OpenSpec.upto selectSpecsSpec)) selectSpecsUptoCard

/-- THE SECOND FORM's CARD OF 'gouachelaw05.SelectJoins'. -/
def selectJoinsUptoCard : Claim7 := { stood := { row := selectJoinsUptoRow, standIns := [], harness := (true, "4baaf1be6fee69c94f9687993930c90b54c0d3d883a94d37036c15e2440e11c2"), looks := false }, kinds := [], alts := [], laidByText := true, laidKinds := [.data, .widerDeep, .widerDeep, .pinned], laidTests := true, laidLooks := .later }
def SelectJoinsUptoCardSaid : Prop := Claim7.holds Tryz.pinned (.plain (OpenSpec.upto selectJoinsSpec)) selectJoinsUptoCard
end Rows
end Go.Proofs.YtjhfnlidkijpbaaGreatDoor
