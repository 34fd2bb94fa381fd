/-
  DERIVED. GIVEN WITH THE SEED: THE CARDS: each row of YtjbcbibkhalagaaGreatDoorRows.lean that lists a variable, with what it lists TIED to the program's text (the seventh form; the later family's looks); each row that meets fmt, with fmt's text TOLD by the authors' own Lean function (tested against real Go, not proved from fmt's source: count such statements apart). THE CARD IS WHAT COUNTS. Prove the row's statement (the work); the ties are given (YtjbcbibkhalagaaGreatDoorTie.lean); close each card by the builder's one call (the guide's Derived/Test/ToyasCard.lean, 'card_holds'). Laid BY PROGRAM, IN A SANDBOX (cutbox-door.mjs). By AI agents, Wed Nov 11 2026. No macro, syntax, notation, axiom, sorry.
-/
import Derived.Test.YtjbcbibkhalagaaGreatDoorRows
import GoSem.ClaimSeven
namespace Go.Proofs.YtjbcbibkhalagaaGreatDoor
namespace Rows

/-- THE TIED CARD OF 'sluicelaw29.EvolveStates'. -/
def evolveStatesCard : Claim7 := { stood := { row := evolveStatesRow, standIns := [], harness := (true, "0bbe3c85b9ed8a37c581bbd2e2b5810feefc464d883893b642c2477cd3dbd19e"), looks := false }, kinds := [], alts := [], laidByText := true, laidKinds := [.data], laidTests := true, laidLooks := .later }
def EvolveStatesCardSaid : Prop := Claim7.holds Tryz.pinned (.plain (OpenSpec.ofChange evolveStatesSpec)) evolveStatesCard

/-- THE SECOND FORM's CARD OF 'sluicelaw29.EvolveStates'. -/
def evolveStatesUptoCard : Claim7 := { stood := { row := evolveStatesUptoRow, standIns := [], harness := (true, "0bbe3c85b9ed8a37c581bbd2e2b5810feefc464d883893b642c2477cd3dbd19e"), looks := false }, kinds := [], alts := [], laidByText := true, laidKinds := [.data], laidTests := true, laidLooks := .later }
def EvolveStatesUptoCardSaid : Prop := Claim7.holds Tryz.pinned (.plain (OpenSpec.upto evolveStatesSpec)) evolveStatesUptoCard
end Rows
end Go.Proofs.YtjbcbibkhalagaaGreatDoor
