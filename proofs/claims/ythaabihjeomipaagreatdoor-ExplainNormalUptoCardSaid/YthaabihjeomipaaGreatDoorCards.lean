/-
  DERIVED. GIVEN WITH THE SEED: THE CARDS: each row of YthaabihjeomipaaGreatDoorRows.lean that lists a variable, with what it lists TIED to the program's text (the seventh form; the later family's looks); each row that meets fmt, with fmt's text TOLD by the authors' own Lean function (tested against real Go, not proved from fmt's source: count such statements apart). THE CARD IS WHAT COUNTS. Prove the row's statement (the work); the ties are given (YthaabihjeomipaaGreatDoorTie.lean); close each card by the builder's one call (the guide's Derived/Test/ToyasCard.lean, 'card_holds'). Laid BY PROGRAM, IN A SANDBOX (cutbox-door.mjs). By AI agents, Wed Nov 11 2026. No macro, syntax, notation, axiom, sorry.
-/
import Derived.Test.YthaabihjeomipaaGreatDoorRows
import GoSem.ClaimSeven
namespace Go.Proofs.YthaabihjeomipaaGreatDoor
namespace Rows

/-- THE TIED CARD OF 'sluicelaw31.ExplainTexts'. -/
def explainTextsCard : Claim7 := { stood := { row := explainTextsRow, standIns := [], harness := (true, "58d6646792d17762f42895ce88a9f993c373b732fde7154a6cb00ea7694e6cf9"), looks := false }, kinds := [], alts := [], laidByText := true, laidKinds := [.data, .data, .data, .data, .data, .data, .data, .data, .data, .data, .data], laidTests := true, laidLooks := .later }
def ExplainTextsCardSaid : Prop := Claim7.holds Tryz.pinned (.plain (OpenSpec.ofChange explainTextsSpec)) explainTextsCard

/-- THE TIED CARD OF 'sluicelaw31.ExplainSames'. -/
def explainSamesCard : Claim7 := { stood := { row := explainSamesRow, standIns := [], harness := (true, "58d6646792d17762f42895ce88a9f993c373b732fde7154a6cb00ea7694e6cf9"), looks := false }, kinds := [], alts := [], laidByText := true, laidKinds := [.data, .data, .data, .data, .data, .data, .data, .data, .data, .data, .data], laidTests := true, laidLooks := .later }
def ExplainSamesCardSaid : Prop := Claim7.holds Tryz.pinned (.plain (OpenSpec.ofChange explainSamesSpec)) explainSamesCard

/-- THE TIED CARD OF 'sluicelaw31.ExplainLines'. -/
def explainLinesCard : Claim7 := { stood := { row := explainLinesRow, standIns := [], harness := (true, "58d6646792d17762f42895ce88a9f993c373b732fde7154a6cb00ea7694e6cf9"), looks := false }, kinds := [], alts := [], laidByText := true, laidKinds := [.data, .data, .data, .data, .data, .data, .data, .data, .data, .data, .data], laidTests := true, laidLooks := .later }
def ExplainLinesCardSaid : Prop := Claim7.holds Tryz.pinned (.plain (OpenSpec.ofChange explainLinesSpec)) explainLinesCard

/-- THE TIED CARD OF 'sluicelaw31.ExplainNormal'. -/
def explainNormalCard : Claim7 := { stood := { row := explainNormalRow, standIns := [], harness := (true, "58d6646792d17762f42895ce88a9f993c373b732fde7154a6cb00ea7694e6cf9"), looks := false }, kinds := [], alts := [], laidByText := true, laidKinds := [.data, .data, .data, .data, .data, .data, .data, .data, .data, .data, .data], laidTests := true, laidLooks := .later }
def ExplainNormalCardSaid : Prop := Claim7.holds Tryz.pinned (.plain (OpenSpec.ofChange explainNormalSpec)) explainNormalCard

/-- THE SECOND FORM's CARD OF 'sluicelaw31.ExplainTexts'. -/
def explainTextsUptoCard : Claim7 := { stood := { row := explainTextsUptoRow, standIns := [], harness := (true, "58d6646792d17762f42895ce88a9f993c373b732fde7154a6cb00ea7694e6cf9"), looks := false }, kinds := [], alts := [], laidByText := true, laidKinds := [.data, .data, .data, .data, .data, .data, .data, .data, .data, .data, .data], laidTests := true, laidLooks := .later }
def ExplainTextsUptoCardSaid : Prop := Claim7.holds Tryz.pinned (.plain (OpenSpec.upto explainTextsSpec)) explainTextsUptoCard

/-- THE SECOND FORM's CARD OF 'sluicelaw31.ExplainSames'. -/
def explainSamesUptoCard : Claim7 := { stood := { row := explainSamesUptoRow, standIns := [], harness := (true, "58d6646792d17762f42895ce88a9f993c373b732fde7154a6cb00ea7694e6cf9"), looks := false }, kinds := [], alts := [], laidByText := true, laidKinds := [.data, .data, .data, .data, .data, .data, .data, .data, .data, .data, .data], laidTests := true, laidLooks := .later }
def ExplainSamesUptoCardSaid : Prop := Claim7.holds Tryz.pinned (.plain (OpenSpec.upto explainSamesSpec)) explainSamesUptoCard

/-- THE SECOND FORM's CARD OF 'sluicelaw31.ExplainLines'. -/
def explainLinesUptoCard : Claim7 := { stood := { row := explainLinesUptoRow, standIns := [], harness := (true, "58d6646792d17762f42895ce88a9f993c373b732fde7154a6cb00ea7694e6cf9"), looks := false }, kinds := [], alts := [], laidByText := true, laidKinds := [.data, .data, .data, .data, .data, .data, .data, .data, .data, .data, .data], laidTests := true, laidLooks := .later }
def ExplainLinesUptoCardSaid : Prop := Claim7.holds Tryz.pinned (.plain (OpenSpec.upto explainLinesSpec)) explainLinesUptoCard

/-- THE SECOND FORM's CARD OF 'sluicelaw31.ExplainNormal'. -/
def explainNormalUptoCard : Claim7 := { stood := { row := explainNormalUptoRow, standIns := [], harness := (true, "58d6646792d17762f42895ce88a9f993c373b732fde7154a6cb00ea7694e6cf9"), looks := false }, kinds := [], alts := [], laidByText := true, laidKinds := [.data, .data, .data, .data, .data, .data, .data, .data, .data, .data, .data], laidTests := true, laidLooks := .later }
def ExplainNormalUptoCardSaid : Prop := Claim7.holds Tryz.pinned (.plain (OpenSpec.upto explainNormalSpec)) explainNormalUptoCard
end Rows
end Go.Proofs.YthaabihjeomipaaGreatDoor
