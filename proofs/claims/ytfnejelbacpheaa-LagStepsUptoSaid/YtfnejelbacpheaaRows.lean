/-
  No cell of these rows narrows 'for every input' (looked for: loops, veiled, ifaces, maps, wideKeys, modest, calm, conditions, laid).
  DERIVED. THE GIVEN ROWS OF THIS SEAT. 6 by the template 'for every input the law returns true; each argument reads behind the call as it read before'; 0 by the template 'total and deterministic' (their statements: YtfnejelbacpheaaTotals.lean).
  GIVEN WITH THE SEED: the statements are not yours to turn. If you find one false, say at which input.
  Laid BY PROGRAM, IN A SANDBOX (cutbox-rows.mjs): the forced cells as the released guide's own fill.sh prints them over the translation 35292afa2a761668… (all of the seat's roots in one cut). By AI agents, Wed Nov 11 2026. No macro, syntax, notation, axiom, sorry.
-/
import Derived.Test.YtfnejelbacpheaaChecked
import GoSem.Claim
import GoSem.ClaimJoined
import GoSem.ClaimMapViews
import Derived.JoinedTies
import Derived.KernelRfl
namespace Go.Proofs.Ytfnejelbacpheaa
/- THE CELL 'sum', in the pinned program and in every row, IS THE sha256 OF THE DUMP (.gsa) THAT YtfnejelbacpheaaProg.lean LOADS. Nothing in Lean hashes anything: it is a label: what it is worth is what the hold of that sum in a sandbox is worth. -/
noncomputable def Try.pinned : Pinned := { name := "ytfnejelbacpheaa", sum := "35292afa2a7616682b203abacc3c9dfd9c58470c44ff3b205c3fe153fba675f6", checked := Try.checked }
namespace Rows
def none {H : Type} : Left H := { results := [], args := [] }

/-- 'sluicelaw27.FarmOwners': WHATEVER THE INPUT: true; the input reads as it did. -/
def farmOwnersSpec : ChangeSpec := { name := "farmOwners", fn := fun _ => fun
  | [d1, d2] => { results := [.lit (.bool true)], args := [d1, d2] }
  | _ => none }
def farmOwnersRow : OpenClaim := { program := "ytfnejelbacpheaa", sum := "35292afa2a7616682b203abacc3c9dfd9c58470c44ff3b205c3fe153fba675f6", func := "sluice/sluicelaw27.FarmOwners", spec := "farmOwners", apart := false }
def FarmOwnersSaid : Prop := farmOwnersRow.holds Try.pinned (OpenSpec.ofChange farmOwnersSpec)

/-- ITS FALSE NEIGHBOUR: 'it returns false'. Refute it at one input. -/
def farmOwnersWrong : ChangeSpec := { name := "farmOwners", fn := fun _ => fun
  | [d1, d2] => { results := [.lit (.bool false)], args := [d1, d2] }
  | _ => none }
def FarmOwnersWrongFalsely : Prop := farmOwnersRow.holds Try.pinned (OpenSpec.ofChange farmOwnersWrong)

/-- 'sluicelaw18.MergeLows': WHATEVER THE INPUT: true; the input reads as it did. -/
def mergeLowsSpec : ChangeSpec := { name := "mergeLows", fn := fun _ => fun
  | [d1, d2] => { results := [.lit (.bool true)], args := [d1, d2] }
  | _ => none }
def mergeLowsRow : OpenClaim := { program := "ytfnejelbacpheaa", sum := "35292afa2a7616682b203abacc3c9dfd9c58470c44ff3b205c3fe153fba675f6", func := "sluice/sluicelaw18.MergeLows", spec := "mergeLows", apart := false }
def MergeLowsSaid : Prop := mergeLowsRow.holds Try.pinned (OpenSpec.ofChange mergeLowsSpec)

/-- ITS FALSE NEIGHBOUR: 'it returns false'. Refute it at one input. -/
def mergeLowsWrong : ChangeSpec := { name := "mergeLows", fn := fun _ => fun
  | [d1, d2] => { results := [.lit (.bool false)], args := [d1, d2] }
  | _ => none }
def MergeLowsWrongFalsely : Prop := mergeLowsRow.holds Try.pinned (OpenSpec.ofChange mergeLowsWrong)

/-- 'sluicelaw24.CascadeDerives': WHATEVER THE INPUT: true; the input reads as it did. -/
def cascadeDerivesSpec : ChangeSpec := { name := "cascadeDerives", fn := fun _ => fun
  | [d1, d2, d3, d4] => { results := [.lit (.bool true)], args := [d1, d2, d3, d4] }
  | _ => none }
def cascadeDerivesRow : OpenClaim := { program := "ytfnejelbacpheaa", sum := "35292afa2a7616682b203abacc3c9dfd9c58470c44ff3b205c3fe153fba675f6", func := "sluice/sluicelaw24.CascadeDerives", spec := "cascadeDerives", apart := false }
def CascadeDerivesSaid : Prop := cascadeDerivesRow.holds Try.pinned (OpenSpec.ofChange cascadeDerivesSpec)

/-- ITS FALSE NEIGHBOUR: 'it returns false'. Refute it at one input. -/
def cascadeDerivesWrong : ChangeSpec := { name := "cascadeDerives", fn := fun _ => fun
  | [d1, d2, d3, d4] => { results := [.lit (.bool false)], args := [d1, d2, d3, d4] }
  | _ => none }
def CascadeDerivesWrongFalsely : Prop := cascadeDerivesRow.holds Try.pinned (OpenSpec.ofChange cascadeDerivesWrong)

/-- 'sluicelaw24.CascadeNamesUnlike': WHATEVER THE INPUT: true; the input reads as it did. -/
def cascadeNamesUnlikeSpec : ChangeSpec := { name := "cascadeNamesUnlike", fn := fun _ => fun
  | [d1, d2, d3, d4, d5, d6] => { results := [.lit (.bool true)], args := [d1, d2, d3, d4, d5, d6] }
  | _ => none }
def cascadeNamesUnlikeRow : OpenClaim := { program := "ytfnejelbacpheaa", sum := "35292afa2a7616682b203abacc3c9dfd9c58470c44ff3b205c3fe153fba675f6", func := "sluice/sluicelaw24.CascadeNamesUnlike", spec := "cascadeNamesUnlike", apart := false }
def CascadeNamesUnlikeSaid : Prop := cascadeNamesUnlikeRow.holds Try.pinned (OpenSpec.ofChange cascadeNamesUnlikeSpec)

/-- ITS FALSE NEIGHBOUR: 'it returns false'. Refute it at one input. -/
def cascadeNamesUnlikeWrong : ChangeSpec := { name := "cascadeNamesUnlike", fn := fun _ => fun
  | [d1, d2, d3, d4, d5, d6] => { results := [.lit (.bool false)], args := [d1, d2, d3, d4, d5, d6] }
  | _ => none }
def CascadeNamesUnlikeWrongFalsely : Prop := cascadeNamesUnlikeRow.holds Try.pinned (OpenSpec.ofChange cascadeNamesUnlikeWrong)

/-- 'sluicelaw20.LagSees': WHATEVER THE INPUT: true; the input reads as it did. -/
def lagSeesSpec : ChangeSpec := { name := "lagSees", fn := fun _ => fun
  | [d1, d2] => { results := [.lit (.bool true)], args := [d1, d2] }
  | _ => none }
def lagSeesRow : OpenClaim := { program := "ytfnejelbacpheaa", sum := "35292afa2a7616682b203abacc3c9dfd9c58470c44ff3b205c3fe153fba675f6", func := "sluice/sluicelaw20.LagSees", spec := "lagSees", apart := false }
def LagSeesSaid : Prop := lagSeesRow.holds Try.pinned (OpenSpec.ofChange lagSeesSpec)

/-- ITS FALSE NEIGHBOUR: 'it returns false'. Refute it at one input. -/
def lagSeesWrong : ChangeSpec := { name := "lagSees", fn := fun _ => fun
  | [d1, d2] => { results := [.lit (.bool false)], args := [d1, d2] }
  | _ => none }
def LagSeesWrongFalsely : Prop := lagSeesRow.holds Try.pinned (OpenSpec.ofChange lagSeesWrong)

/-- 'sluicelaw20.LagSteps': WHATEVER THE INPUT: true; the input reads as it did. -/
def lagStepsSpec : ChangeSpec := { name := "lagSteps", fn := fun _ => fun
  | [d1, d2] => { results := [.lit (.bool true)], args := [d1, d2] }
  | _ => none }
def lagStepsRow : OpenClaim := { program := "ytfnejelbacpheaa", sum := "35292afa2a7616682b203abacc3c9dfd9c58470c44ff3b205c3fe153fba675f6", func := "sluice/sluicelaw20.LagSteps", spec := "lagSteps", unfollowed := true, recurses := true, apart := false }
def LagStepsSaid : Prop := lagStepsRow.holds Try.pinned (OpenSpec.ofChange lagStepsSpec)

/-- ITS FALSE NEIGHBOUR: 'it returns false'. Refute it at one input. -/
def lagStepsWrong : ChangeSpec := { name := "lagSteps", fn := fun _ => fun
  | [d1, d2] => { results := [.lit (.bool false)], args := [d1, d2] }
  | _ => none }
def LagStepsWrongFalsely : Prop := lagStepsRow.holds Try.pinned (OpenSpec.ofChange lagStepsWrong)

/- THE SECOND FORM. 'bulk': how many values and letters a reading holds, each counted each time it is reached (what is shared counts as often as it is met; a slice's spare places count too). A statement '..UptoSaid' is the law's where the arguments, and the package variables that the reading takes, are together of bulk at most 1048576: NARROWER than '..Said'. Prove '..Said' where nothing that the law and all that it calls make is longer than what came in: it says more and counts as full. Else prove '..UptoSaid'. A law counts once. -/
mutual
def uptoBulk {H : Type} : DataW H → Nat
  | .lit (.string bytes) => bytes.length + 1
  | .lit _ => 1
  | .nil => 1
  | .ptr d => uptoBulk d + 1
  | .slice elems spare => uptoBulkAll elems + uptoBulkAll spare + 1
  | .agg parts => uptoBulkAll parts + 1
  | .iface _ d => uptoBulk d + 1
  | .map entries => uptoBulkEntries entries + 1
  | .held _ => 1
def uptoBulkAll {H : Type} : List (DataW H) → Nat
  | [] => 0
  | d :: r => uptoBulk d + uptoBulkAll r
def uptoBulkEntries {H : Type} : List (Lit × DataW H) → Nat
  | [] => 0
  | x :: r => uptoBulkEntry x + uptoBulkEntries r
def uptoBulkEntry {H : Type} : Lit × DataW H → Nat
  | (.string bytes, d) => bytes.length + uptoBulk d + 1
  | (_, d) => uptoBulk d + 1
 end
def uptoSmall : (H : Type) → List (DataW H) → Bool := fun _ ds => decide (uptoBulkAll ds ≤ 1048576)
def OpenSpec.upto (s : _root_.Go.ChangeSpec) : _root_.Go.OpenSpec := { _root_.Go.OpenSpec.ofChange s with cond := some uptoSmall }

/-- 'sluicelaw27.FarmOwners', WHERE WHAT IT READS IS OF BULK AT MOST 1048576: true; the input reads as it did. -/
def farmOwnersUptoRow : OpenClaim := { program := "ytfnejelbacpheaa", sum := "35292afa2a7616682b203abacc3c9dfd9c58470c44ff3b205c3fe153fba675f6", func := "sluice/sluicelaw27.FarmOwners", spec := "farmOwners", apart := false, narrowed := true }
def FarmOwnersUptoSaid : Prop := farmOwnersUptoRow.holds Try.pinned (OpenSpec.upto farmOwnersSpec)

/-- 'sluicelaw18.MergeLows', WHERE WHAT IT READS IS OF BULK AT MOST 1048576: true; the input reads as it did. -/
def mergeLowsUptoRow : OpenClaim := { program := "ytfnejelbacpheaa", sum := "35292afa2a7616682b203abacc3c9dfd9c58470c44ff3b205c3fe153fba675f6", func := "sluice/sluicelaw18.MergeLows", spec := "mergeLows", apart := false, narrowed := true }
def MergeLowsUptoSaid : Prop := mergeLowsUptoRow.holds Try.pinned (OpenSpec.upto mergeLowsSpec)

/-- 'sluicelaw24.CascadeDerives', WHERE WHAT IT READS IS OF BULK AT MOST 1048576: true; the input reads as it did. -/
def cascadeDerivesUptoRow : OpenClaim := { program := "ytfnejelbacpheaa", sum := "35292afa2a7616682b203abacc3c9dfd9c58470c44ff3b205c3fe153fba675f6", func := "sluice/sluicelaw24.CascadeDerives", spec := "cascadeDerives", apart := false, narrowed := true }
def CascadeDerivesUptoSaid : Prop := cascadeDerivesUptoRow.holds Try.pinned (OpenSpec.upto cascadeDerivesSpec)

/-- 'sluicelaw24.CascadeNamesUnlike', WHERE WHAT IT READS IS OF BULK AT MOST 1048576: true; the input reads as it did. -/
def cascadeNamesUnlikeUptoRow : OpenClaim := { program := "ytfnejelbacpheaa", sum := "35292afa2a7616682b203abacc3c9dfd9c58470c44ff3b205c3fe153fba675f6", func := "sluice/sluicelaw24.CascadeNamesUnlike", spec := "cascadeNamesUnlike", apart := false, narrowed := true }
def CascadeNamesUnlikeUptoSaid : Prop := cascadeNamesUnlikeUptoRow.holds Try.pinned (OpenSpec.upto cascadeNamesUnlikeSpec)

/-- 'sluicelaw20.LagSees', WHERE WHAT IT READS IS OF BULK AT MOST 1048576: true; the input reads as it did. -/
def lagSeesUptoRow : OpenClaim := { program := "ytfnejelbacpheaa", sum := "35292afa2a7616682b203abacc3c9dfd9c58470c44ff3b205c3fe153fba675f6", func := "sluice/sluicelaw20.LagSees", spec := "lagSees", apart := false, narrowed := true }
def LagSeesUptoSaid : Prop := lagSeesUptoRow.holds Try.pinned (OpenSpec.upto lagSeesSpec)

/-- 'sluicelaw20.LagSteps', WHERE WHAT IT READS IS OF BULK AT MOST 1048576: true; the input reads as it did. -/
def lagStepsUptoRow : OpenClaim := { program := "ytfnejelbacpheaa", sum := "35292afa2a7616682b203abacc3c9dfd9c58470c44ff3b205c3fe153fba675f6", func := "sluice/sluicelaw20.LagSteps", spec := "lagSteps", unfollowed := true, recurses := true, apart := false, narrowed := true }
def LagStepsUptoSaid : Prop := lagStepsUptoRow.holds Try.pinned (OpenSpec.upto lagStepsSpec)

end Rows
end Go.Proofs.Ytfnejelbacpheaa
