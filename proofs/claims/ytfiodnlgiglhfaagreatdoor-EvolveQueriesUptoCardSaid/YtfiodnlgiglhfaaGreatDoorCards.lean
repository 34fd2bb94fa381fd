/-
  DERIVED. GIVEN WITH THE SEED: THE CARDS: each row of YtfiodnlgiglhfaaGreatDoorRows.lean that lists a variable, with what it lists TIED to the program's text (the seventh form; the later family's looks); each row that meets fmt, with fmt's text TOLD by the authors' own Lean function (tested against real Go, not proved from fmt's source: count such statements apart). THE CARD IS WHAT COUNTS. Prove the row's statement (the work); the ties are given (YtfiodnlgiglhfaaGreatDoorTie.lean); close each card by the builder's one call (the guide's Derived/Test/ToyasCard.lean, 'card_holds'). Laid BY PROGRAM, IN A SANDBOX (cutbox-door.mjs). By AI agents, Wed Nov 11 2026. No macro, syntax, notation, axiom, sorry.
-/
import Derived.Test.YtfiodnlgiglhfaaGreatDoorRows
import GoSem.ClaimSeven
namespace Go.Proofs.YtfiodnlgiglhfaaGreatDoor
namespace Rows

/-- THE TIED CARD OF 'sluicelaw29.EvolveQueries'. -/
def evolveQueriesCard : Claim7 := { stood := { row := evolveQueriesRow, standIns := [], harness := (true, "ddf1f72772c4dcc3540a759434167453d192df664e91b604fe680e4a1f6729db"), looks := false }, kinds := [], alts := [], laidByText := true, laidKinds := [.data], laidTests := true, laidLooks := .later }
def EvolveQueriesCardSaid : Prop := Claim7.holds Tryz.pinned (.plain (OpenSpec.ofChange evolveQueriesSpec)) evolveQueriesCard

/-- THE SECOND FORM's CARD OF 'sluicelaw29.EvolveQueries'. -/
def evolveQueriesUptoCard : Claim7 := { stood := { row := evolveQueriesUptoRow, standIns := [], harness := (true, "ddf1f72772c4dcc3540a759434167453d192df664e91b604fe680e4a1f6729db"), looks := false }, kinds := [], alts := [], laidByText := true, laidKinds := [.data], laidTests := true, laidLooks := .later }
def EvolveQueriesUptoCardSaid : Prop := Claim7.holds Tryz.pinned (.plain (OpenSpec.upto evolveQueriesSpec)) evolveQueriesUptoCard
end Rows
end Go.Proofs.YtfiodnlgiglhfaaGreatDoor
