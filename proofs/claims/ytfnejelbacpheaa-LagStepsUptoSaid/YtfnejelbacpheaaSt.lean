/- Events and steps as data; the steps that a lag makes of events. No conditions. -/
import Derived.Test.YtfnejelbacpheaaLagSees
namespace Go.Proofs.Ytfnejelbacpheaa
open Go.RowKit Go.Deep
set_option linter.unusedVariables false

structure Ev where
  ts : Int
  id : Int
  typ : Int
  a0 : Int
  a1 : Int
  a2 : Int
  a3 : Int
  a4 : Int
  a5 : Int
  a6 : Int
  a7 : Int
def evV (e : Ev) : List Value := [.int .i64 e.ts, .int .u64 e.id, .int .i64 e.typ, .int .i64 e.a0, .int .i64 e.a1, .int .i64 e.a2, .int .i64 e.a3, .int .i64 e.a4, .int .i64 e.a5, .int .i64 e.a6, .int .i64 e.a7]
def evD (e : Ev) : List D := [.v (.int .i64 e.ts), .v (.int .u64 e.id), .v (.int .i64 e.typ), .v (.int .i64 e.a0), .v (.int .i64 e.a1), .v (.int .i64 e.a2), .v (.int .i64 e.a3), .v (.int .i64 e.a4), .v (.int .i64 e.a5), .v (.int .i64 e.a6), .v (.int .i64 e.a7)]
def evZ : Ev := ⟨0, 0, 0, 0, 0, 0, 0, 0, 0, 0, 0⟩
structure St where
  im : Bool
  mr : Int
  ev : Ev
def stV (s : St) : List Value := .bool s.im :: .int .i64 s.mr :: evV s.ev
def stD (s : St) : List D := .v (.bool s.im) :: .v (.int .i64 s.mr) :: evD s.ev
theorem stD_rd (w : World) (G : Nat → Prop) (s : St) : RdL w G (stV s) (stD s) :=
  ⟨.v _ rfl, .v _ rfl, .v _ rfl, .v _ rfl, .v _ rfl, .v _ rfl, .v _ rfl, .v _ rfl, .v _ rfl, .v _ rfl, .v _ rfl, .v _ rfl, .v _ rfl, trivial⟩
theorem evD_rd (w : World) (G : Nat → Prop) (e : Ev) : RdL w G (evV e) (evD e) :=
  ⟨.v _ rfl, .v _ rfl, .v _ rfl, .v _ rfl, .v _ rfl, .v _ rfl, .v _ rfl, .v _ rfl, .v _ rfl, .v _ rfl, .v _ rfl, trivial⟩
theorem elEv : ElT Try.prog 57 38 11 88 := .of Try.underlying57 (by kernel_rfl) (by omega)
theorem elSt : ElT Try.prog 60 65 13 104 := .of Try.underlying60 (by kernel_rfl) (by omega)
theorem aggEv : AggT Try.prog 38 11 := ⟨_, Try.underlying38, rfl, by kernel_rfl⟩
theorem aggSt : AggT Try.prog 65 13 := ⟨_, Try.underlying65, rfl, by kernel_rfl⟩

/-- the timestamps -/
def tsOf (l : List Ev) : List Int := l.map (·.ts)
/-- the mark behind the first k events -/
def mkAt (n : Int) (l : List Ev) (k : Nat) : Int := lagW.mk n (lagW.topOf ((tsOf l).take k)).1 (lagW.topOf ((tsOf l).take k)).2
/-- the steps that the k-th event makes -/
def stepAt (n : Int) (l : List Ev) (k : Nat) : List St := match l[k]? with
  | none => []
  | some e => ⟨false, 0, e⟩ :: if mkAt n l (k + 1) = mkAt n l k then [] else [⟨true, mkAt n l (k + 1), evZ⟩]
/-- the steps of the first k events -/
def stepsTo (n : Int) (l : List Ev) : Nat → List St
  | 0 => []
  | k + 1 => stepsTo n l k ++ stepAt n l k
theorem stepAt_len (n : Int) (l : List Ev) (k : Nat) : (stepAt n l k).length ≤ 2 := by
  unfold stepAt
  split
  · simp
  · split <;> simp
theorem stepsTo_len (n : Int) (l : List Ev) (k : Nat) : (stepsTo n l k).length ≤ 2 * k := by
  induction k with
  | zero => simp [stepsTo]
  | succ k ih => have := stepAt_len n l k; simp [stepsTo]; omega
theorem stepsTo_same {n : Int} {l : List Ev} {k : Nat} {e : Ev} (h : l[k]? = some e) (hm : mkAt n l (k + 1) = mkAt n l k) : stepsTo n l (k + 1) = stepsTo n l k ++ [⟨false, 0, e⟩] := by
  simp [stepsTo, stepAt, h, hm]
theorem stepsTo_more {n : Int} {l : List Ev} {k : Nat} {e : Ev} (h : l[k]? = some e) (hm : mkAt n l (k + 1) ≠ mkAt n l k) : stepsTo n l (k + 1) = (stepsTo n l k ++ [⟨false, 0, e⟩]) ++ [⟨true, mkAt n l (k + 1), evZ⟩] := by
  simp [stepsTo, stepAt, h, hm]
/-- the answer: the steps and the code -/
def StepsIs (n : Int) (l : List Ev) (S : List St) (code : Int) : Prop := (n < 0 ∨ 1099511627776 < n) ∧ S = [] ∧ code = 200 ∨ (0 ≤ n ∧ n ≤ 1099511627776) ∧ S = stepsTo n l l.length ∧ code = 0
theorem StepsIs.uniq {n : Int} {l : List Ev} {S S' : List St} {c c' : Int} (h : StepsIs n l S c) (h' : StepsIs n l S' c') : S' = S ∧ c' = c := by
  rcases h with ⟨h1, rfl, rfl⟩ | ⟨h1, rfl, rfl⟩ <;> rcases h' with ⟨g1, rfl, rfl⟩ | ⟨g1, rfl, rfl⟩
  · exact ⟨rfl, rfl⟩
  · omega
  · omega
  · exact ⟨rfl, rfl⟩
theorem topNext {l : List Ev} {k : Nat} {e : Ev} (h : l[k]? = some e) : lagW.topOf ((tsOf l).take (k + 1)) = lagW.stepT (lagW.topOf ((tsOf l).take k)) e.ts :=
  lagW.topOf_next rfl (by unfold tsOf; rw [List.getElem?_map, h]; rfl)
end Go.Proofs.Ytfnejelbacpheaa
