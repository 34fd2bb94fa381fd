/-
  DERIVED. GIVEN WITH THE SEED: THE CARDS: each row of YtfnejelbacpheaaDoorRows.lean that lists a variable, with what it lists TIED to the program's text (the seventh form; the later family's looks); each row that meets fmt, with fmt's text TOLD by the authors' own Lean function (tested against real Go, not proved from fmt's source: count such statements apart). THE CARD IS WHAT COUNTS. Prove the row's statement (the work); the ties are given (YtfnejelbacpheaaDoorTie.lean); close each card by the builder's one call (the guide's Derived/Test/ToyasCard.lean, 'card_holds'). Laid BY PROGRAM, IN A SANDBOX (cutbox-door.mjs). By AI agents, Wed Nov 11 2026. No macro, syntax, notation, axiom, sorry.
-/
import Derived.Test.YtfnejelbacpheaaDoorRows
import GoSem.ClaimSeven
namespace Go.Proofs.YtfnejelbacpheaaDoor
namespace Rows

/-- THE TIED CARD OF 'sluicelaw24.CascadeExtends'. -/
def cascadeExtendsCard : Claim7 := { stood := { row := cascadeExtendsRow, standIns := [], harness := (true, "609d38dbe1060b7887b9b30ed202d6d204269f5fb348b9013f232d564625b702"), looks := false }, kinds := [], alts := [], laidByText := true, laidKinds := [.data], laidTests := true, laidLooks := .later }
def CascadeExtendsCardSaid : Prop := Claim7.holds Tryd.pinned (.plain (OpenSpec.ofChange cascadeExtendsSpec)) cascadeExtendsCard

/-- THE SECOND FORM's CARD OF 'sluicelaw24.CascadeExtends'. -/
def cascadeExtendsUptoCard : Claim7 := { stood := { row := cascadeExtendsUptoRow, standIns := [], harness := (true, "609d38dbe1060b7887b9b30ed202d6d204269f5fb348b9013f232d564625b702"), looks := false }, kinds := [], alts := [], laidByText := true, laidKinds := [.data], laidTests := true, laidLooks := .later }
def CascadeExtendsUptoCardSaid : Prop := Claim7.holds Tryd.pinned (.plain (OpenSpec.upto cascadeExtendsSpec)) cascadeExtendsUptoCard
end Rows
end Go.Proofs.YtfnejelbacpheaaDoor
