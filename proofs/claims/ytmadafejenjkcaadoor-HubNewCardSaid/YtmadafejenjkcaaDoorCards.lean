/-
  DERIVED. GIVEN WITH THE SEED: THE CARDS: each row of YtmadafejenjkcaaDoorRows.lean that lists a variable, with what it lists TIED to the program's text (the seventh form; the later family's looks); each row that meets fmt, with fmt's text TOLD by the authors' own Lean function (tested against real Go, not proved from fmt's source: count such statements apart). THE CARD IS WHAT COUNTS. Prove the row's statement (the work); the ties are given (YtmadafejenjkcaaDoorTie.lean); close each card by the builder's one call (the guide's Derived/Test/ToyasCard.lean, 'card_holds'). Laid BY PROGRAM, IN A SANDBOX (cutbox-door.mjs). By AI agents, Wed Nov 11 2026. No macro, syntax, notation, axiom, sorry.
-/
import Derived.Test.YtmadafejenjkcaaDoorRows
import GoSem.ClaimSeven
namespace Go.Proofs.YtmadafejenjkcaaDoor
namespace Rows

/-- THE TIED CARD OF 'sluicelaw29.EvolveSchemas'. -/
def evolveSchemasCard : Claim7 := { stood := { row := evolveSchemasRow, standIns := [], harness := (true, "5fa0cb2ea856b816dd10e89142eea81416e454fbae7a692f96306c80d346de15"), looks := false }, kinds := [], alts := [], laidByText := true, laidKinds := [.data], laidTests := true, laidLooks := .later }
def EvolveSchemasCardSaid : Prop := Claim7.holds Tryd.pinned (.plain (OpenSpec.ofChange evolveSchemasSpec)) evolveSchemasCard

/-- THE TIED CARD OF 'sluicelaw29.EvolveEvents'. -/
def evolveEventsCard : Claim7 := { stood := { row := evolveEventsRow, standIns := [], harness := (true, "5fa0cb2ea856b816dd10e89142eea81416e454fbae7a692f96306c80d346de15"), looks := false }, kinds := [], alts := [], laidByText := true, laidKinds := [.data], laidTests := true, laidLooks := .later }
def EvolveEventsCardSaid : Prop := Claim7.holds Tryd.pinned (.plain (OpenSpec.ofChange evolveEventsSpec)) evolveEventsCard

/-- THE TIED CARD OF 'sluicelaw26.HubNew'. -/
def hubNewCard : Claim7 := { stood := { row := hubNewRow, standIns := [], harness := (true, "5fa0cb2ea856b816dd10e89142eea81416e454fbae7a692f96306c80d346de15"), looks := false }, kinds := [], alts := [], laidByText := true, laidKinds := [.data], laidTests := true, laidLooks := .later }
def HubNewCardSaid : Prop := Claim7.holds Tryd.pinned (.plain (OpenSpec.ofChange hubNewSpec)) hubNewCard

/-- THE SECOND FORM's CARD OF 'sluicelaw29.EvolveSchemas'. -/
def evolveSchemasUptoCard : Claim7 := { stood := { row := evolveSchemasUptoRow, standIns := [], harness := (true, "5fa0cb2ea856b816dd10e89142eea81416e454fbae7a692f96306c80d346de15"), looks := false }, kinds := [], alts := [], laidByText := true, laidKinds := [.data], laidTests := true, laidLooks := .later }
def EvolveSchemasUptoCardSaid : Prop := Claim7.holds Tryd.pinned (.plain (OpenSpec.upto evolveSchemasSpec)) evolveSchemasUptoCard

/-- THE SECOND FORM's CARD OF 'sluicelaw29.EvolveEvents'. -/
def evolveEventsUptoCard : Claim7 := { stood := { row := evolveEventsUptoRow, standIns := [], harness := (true, "5fa0cb2ea856b816dd10e89142eea81416e454fbae7a692f96306c80d346de15"), looks := false }, kinds := [], alts := [], laidByText := true, laidKinds := [.data], laidTests := true, laidLooks := .later }
def EvolveEventsUptoCardSaid : Prop := Claim7.holds Tryd.pinned (.plain (OpenSpec.upto evolveEventsSpec)) evolveEventsUptoCard

/-- THE SECOND FORM's CARD OF 'sluicelaw26.HubNew'. -/
def hubNewUptoCard : Claim7 := { stood := { row := hubNewUptoRow, standIns := [], harness := (true, "5fa0cb2ea856b816dd10e89142eea81416e454fbae7a692f96306c80d346de15"), looks := false }, kinds := [], alts := [], laidByText := true, laidKinds := [.data], laidTests := true, laidLooks := .later }
def HubNewUptoCardSaid : Prop := Claim7.holds Tryd.pinned (.plain (OpenSpec.upto hubNewSpec)) hubNewUptoCard
end Rows
end Go.Proofs.YtmadafejenjkcaaDoor
