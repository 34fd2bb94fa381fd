/-
  NARROWER THAN 'FOR EVERY INPUT', by the rows' own cells (each row's printed sentence says how): EvolveSchemas: laid · EvolveEvents: laid · HubNew: laid.
  DERIVED. THE GIVEN ROWS OF THIS SEAT. 3 by the template 'for every input the law returns true; each argument reads behind the call as it read before'; 0 by the template 'total and deterministic' (their statements: YtmadafejenjkcaaDoorTotals.lean).
  GIVEN WITH THE SEED: the statements are not yours to turn. If you find one false, say at which input.
  Laid BY PROGRAM, IN A SANDBOX (cutbox-rows.mjs): the forced cells as the released guide's own fill.sh prints them over the translation aea87e695c3caab3… (all of the seat's roots in one cut). By AI agents, Wed Nov 11 2026. No macro, syntax, notation, axiom, sorry.
-/
import Derived.Test.YtmadafejenjkcaaDoorChecked
import GoSem.Claim
import GoSem.ClaimJoined
import GoSem.ClaimMapViews
import Derived.JoinedTies
import Derived.KernelRfl
namespace Go.Proofs.YtmadafejenjkcaaDoor
/- THE CELL 'sum', in the pinned program and in every row, IS THE sha256 OF THE DUMP (.gsa) THAT YtmadafejenjkcaaDoorProg.lean LOADS. Nothing in Lean hashes anything: it is a label: what it is worth is what the hold of that sum in a sandbox is worth. -/
noncomputable def Tryd.pinned : Pinned := { name := "ytmadafejenjkcaadoor", sum := "aea87e695c3caab3d0825146fb020aa08a7aacffdbe16f2484d417ccb5390586", checked := Tryd.checked }
namespace Rows
def none {H : Type} : Left H := { results := [], args := [] }

/- WHAT THE LISTED PACKAGE-LEVEL VARIABLES READ AS WHEN THE CALL BEGINS. Each datum BY PROGRAM (the guide's laid-datum.mjs) off the statement by which the dump's own 'gosem.cut.vars' lays the variable. In a bare row this is a premise. The card (YtmadafejenjkcaaDoorCards.lean) ties it to the program's text. -/
def laid_sluice_api_Keywords {H : Type} : DataW H := .agg [.lit (.string [80, 65, 84, 84, 69, 82, 78]), .lit (.string [83, 69, 81]), .lit (.string [85, 83, 73, 78, 71]), .lit (.string [65, 78, 89]), .lit (.string [78, 69, 88, 84]), .lit (.string [83, 84, 82, 73, 67, 84]), .lit (.string [87, 72, 69, 82, 69]), .lit (.string [87, 73, 84, 72, 73, 78]), .lit (.string [80, 65, 82, 84, 73, 84, 73, 79, 78]), .lit (.string [66, 89]), .lit (.string [82, 69, 84, 85, 82, 78]), .lit (.string [65, 78, 68]), .lit (.string [79, 82]), .lit (.string [78, 79, 84]), .lit (.string [84, 82, 85, 69]), .lit (.string [70, 65, 76, 83, 69]), .lit (.string [67, 79, 85, 78, 84]), .lit (.string [83, 85, 77]), .lit (.string [77, 73, 78]), .lit (.string [77, 65, 88]), .lit (.string [70, 73, 82, 83, 84]), .lit (.string [76, 65, 83, 84]), .lit (.string [80, 82, 69, 86]), .lit (.string [65, 70, 84, 69, 82]), .lit (.string [65, 76, 76]), .lit (.string [80, 65, 83, 84]), .lit (.string [79, 78, 67, 69])]

/-- 'sluicelaw29.EvolveSchemas': WHATEVER THE INPUT: true; the input reads as it did. -/
def evolveSchemasSpec : ChangeSpec := { name := "evolveSchemas", fn := fun _ => fun
  | [d1, d2] => { results := [.lit (.bool true)], args := [d1, d2] }
  | _ => none }
def evolveSchemasRow : OpenClaim := { program := "ytmadafejenjkcaadoor", sum := "aea87e695c3caab3d0825146fb020aa08a7aacffdbe16f2484d417ccb5390586", func := "sluice/sluicelaw29.EvolveSchemas", spec := "evolveSchemas", inPlace := ["slices.overlaps[sluice/evolve.field]"], unfollowed := true, recurses := true, named := ["sluice/api.Keywords"], plainKeys := false, apart := false, laid := [("sluice/api.Keywords", laid_sluice_api_Keywords)] }
def EvolveSchemasSaid : Prop := evolveSchemasRow.holds Tryd.pinned (OpenSpec.ofChange evolveSchemasSpec)

/-- ITS FALSE NEIGHBOUR: 'it returns false'. Refute it at one input. -/
def evolveSchemasWrong : ChangeSpec := { name := "evolveSchemas", fn := fun _ => fun
  | [d1, d2] => { results := [.lit (.bool false)], args := [d1, d2] }
  | _ => none }
def EvolveSchemasWrongFalsely : Prop := evolveSchemasRow.holds Tryd.pinned (OpenSpec.ofChange evolveSchemasWrong)

/-- 'sluicelaw29.EvolveEvents': WHATEVER THE INPUT: true; the input reads as it did. -/
def evolveEventsSpec : ChangeSpec := { name := "evolveEvents", fn := fun _ => fun
  | [d1, d2, d3] => { results := [.lit (.bool true)], args := [d1, d2, d3] }
  | _ => none }
def evolveEventsRow : OpenClaim := { program := "ytmadafejenjkcaadoor", sum := "aea87e695c3caab3d0825146fb020aa08a7aacffdbe16f2484d417ccb5390586", func := "sluice/sluicelaw29.EvolveEvents", spec := "evolveEvents", inPlace := ["slices.overlaps[sluice/evolve.field]"], unfollowed := true, recurses := true, named := ["sluice/api.Keywords"], plainKeys := false, apart := false, laid := [("sluice/api.Keywords", laid_sluice_api_Keywords)] }
def EvolveEventsSaid : Prop := evolveEventsRow.holds Tryd.pinned (OpenSpec.ofChange evolveEventsSpec)

/-- ITS FALSE NEIGHBOUR: 'it returns false'. Refute it at one input. -/
def evolveEventsWrong : ChangeSpec := { name := "evolveEvents", fn := fun _ => fun
  | [d1, d2, d3] => { results := [.lit (.bool false)], args := [d1, d2, d3] }
  | _ => none }
def EvolveEventsWrongFalsely : Prop := evolveEventsRow.holds Tryd.pinned (OpenSpec.ofChange evolveEventsWrong)

/-- 'sluicelaw26.HubNew': WHATEVER THE INPUT: true; the input reads as it did. -/
def hubNewSpec : ChangeSpec := { name := "hubNew", fn := fun _ => fun
  | [d1, d2] => { results := [.lit (.bool true)], args := [d1, d2] }
  | _ => none }
def hubNewRow : OpenClaim := { program := "ytmadafejenjkcaadoor", sum := "aea87e695c3caab3d0825146fb020aa08a7aacffdbe16f2484d417ccb5390586", func := "sluice/sluicelaw26.HubNew", spec := "hubNew", inPlace := ["(*internal/sync.Mutex).Lock", "internal/race.Disable", "sync/atomic.CompareAndSwapInt32", "internal/race.Enable", "internal/race.Acquire", "(*internal/sync.Mutex).lockSlow", "internal/sync.runtime_canSpin", "internal/sync.runtime_doSpin", "internal/sync.throw", "internal/sync.runtime_nanotime", "internal/sync.runtime_SemacquireMutex", "sync/atomic.AddInt32", "(*internal/sync.Mutex).Unlock", "internal/race.ReleaseMerge", "(*internal/sync.Mutex).unlockSlow", "internal/sync.fatal", "internal/sync.runtime_Semrelease"], recurses := true, named := ["sluice/api.Keywords"], plainKeys := false, apart := false, laid := [("sluice/api.Keywords", laid_sluice_api_Keywords)] }
def HubNewSaid : Prop := hubNewRow.holds Tryd.pinned (OpenSpec.ofChange hubNewSpec)

/-- ITS FALSE NEIGHBOUR: 'it returns false'. Refute it at one input. -/
def hubNewWrong : ChangeSpec := { name := "hubNew", fn := fun _ => fun
  | [d1, d2] => { results := [.lit (.bool false)], args := [d1, d2] }
  | _ => none }
def HubNewWrongFalsely : Prop := hubNewRow.holds Tryd.pinned (OpenSpec.ofChange hubNewWrong)

/- THE SECOND FORM. 'bulk': how many values and letters a reading holds, each counted each time it is reached (what is shared counts as often as it is met; a slice's spare places count too). A statement '..UptoSaid' is the law's where the arguments, and the package variables that the reading takes, are together of bulk at most 1048576: NARROWER than '..Said'. Prove '..Said' where nothing that the law and all that it calls make is longer than what came in: it says more and counts as full. Else prove '..UptoSaid'. A law counts once. -/
mutual
def uptoBulk {H : Type} : DataW H → Nat
  | .lit (.string bytes) => bytes.length + 1
  | .lit _ => 1
  | .nil => 1
  | .ptr d => uptoBulk d + 1
  | .slice elems spare => uptoBulkAll elems + uptoBulkAll spare + 1
  | .agg parts => uptoBulkAll parts + 1
  | .iface _ d => uptoBulk d + 1
  | .map entries => uptoBulkEntries entries + 1
  | .held _ => 1
def uptoBulkAll {H : Type} : List (DataW H) → Nat
  | [] => 0
  | d :: r => uptoBulk d + uptoBulkAll r
def uptoBulkEntries {H : Type} : List (Lit × DataW H) → Nat
  | [] => 0
  | x :: r => uptoBulkEntry x + uptoBulkEntries r
def uptoBulkEntry {H : Type} : Lit × DataW H → Nat
  | (.string bytes, d) => bytes.length + uptoBulk d + 1
  | (_, d) => uptoBulk d + 1
 end
def uptoSmall : (H : Type) → List (DataW H) → Bool := fun _ ds => decide (uptoBulkAll ds ≤ 1048576)
def OpenSpec.upto (s : _root_.Go.ChangeSpec) : _root_.Go.OpenSpec := { _root_.Go.OpenSpec.ofChange s with cond := some uptoSmall }

/-- 'sluicelaw29.EvolveSchemas', WHERE WHAT IT READS IS OF BULK AT MOST 1048576: true; the input reads as it did. -/
def evolveSchemasUptoRow : OpenClaim := { program := "ytmadafejenjkcaadoor", sum := "aea87e695c3caab3d0825146fb020aa08a7aacffdbe16f2484d417ccb5390586", func := "sluice/sluicelaw29.EvolveSchemas", spec := "evolveSchemas", inPlace := ["slices.overlaps[sluice/evolve.field]"], unfollowed := true, recurses := true, named := ["sluice/api.Keywords"], plainKeys := false, apart := false, laid := [("sluice/api.Keywords", laid_sluice_api_Keywords)], narrowed := true }
def EvolveSchemasUptoSaid : Prop := evolveSchemasUptoRow.holds Tryd.pinned (OpenSpec.upto evolveSchemasSpec)

/-- 'sluicelaw29.EvolveEvents', WHERE WHAT IT READS IS OF BULK AT MOST 1048576: true; the input reads as it did. -/
def evolveEventsUptoRow : OpenClaim := { program := "ytmadafejenjkcaadoor", sum := "aea87e695c3caab3d0825146fb020aa08a7aacffdbe16f2484d417ccb5390586", func := "sluice/sluicelaw29.EvolveEvents", spec := "evolveEvents", inPlace := ["slices.overlaps[sluice/evolve.field]"], unfollowed := true, recurses := true, named := ["sluice/api.Keywords"], plainKeys := false, apart := false, laid := [("sluice/api.Keywords", laid_sluice_api_Keywords)], narrowed := true }
def EvolveEventsUptoSaid : Prop := evolveEventsUptoRow.holds Tryd.pinned (OpenSpec.upto evolveEventsSpec)

/-- 'sluicelaw26.HubNew', WHERE WHAT IT READS IS OF BULK AT MOST 1048576: true; the input reads as it did. -/
def hubNewUptoRow : OpenClaim := { program := "ytmadafejenjkcaadoor", sum := "aea87e695c3caab3d0825146fb020aa08a7aacffdbe16f2484d417ccb5390586", func := "sluice/sluicelaw26.HubNew", spec := "hubNew", inPlace := ["(*internal/sync.Mutex).Lock", "internal/race.Disable", "sync/atomic.CompareAndSwapInt32", "internal/race.Enable", "internal/race.Acquire", "(*internal/sync.Mutex).lockSlow", "internal/sync.runtime_canSpin", "internal/sync.runtime_doSpin", "internal/sync.throw", "internal/sync.runtime_nanotime", "internal/sync.runtime_SemacquireMutex", "sync/atomic.AddInt32", "(*internal/sync.Mutex).Unlock", "internal/race.ReleaseMerge", "(*internal/sync.Mutex).unlockSlow", "internal/sync.fatal", "internal/sync.runtime_Semrelease"], recurses := true, named := ["sluice/api.Keywords"], plainKeys := false, apart := false, laid := [("sluice/api.Keywords", laid_sluice_api_Keywords)], narrowed := true }
def HubNewUptoSaid : Prop := hubNewUptoRow.holds Tryd.pinned (OpenSpec.upto hubNewSpec)

end Rows
end Go.Proofs.YtmadafejenjkcaaDoor
