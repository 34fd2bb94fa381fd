/- The document's answer for changed schemas: what a change does to a table. -/
import Derived.Test.YtmadafejenjkcaaDoorV6
namespace Go.Proofs.YtmadafejenjkcaaDoor
open Go.RowKit Go.Deep
set_option linter.unusedVariables false

def mp (f : Kd → List Kd) : List Kd → Nat → List Kd
  | [], _ => []
  | x :: r, 0 => f x ++ r
  | x :: r, i + 1 => x :: mp f r i
theorem mp_take (f : Kd → List Kd) {l : List Kd} {j i : Nat} {x : Kd} (h : l[j]? = some x) : mp f (l.take (j + 1)) i = mp f (l.take j) i ++ (if j = i then f x else [x]) := by
  induction l generalizing i j with
  | nil => simp at h
  | cons a l ih =>
    cases j with
    | zero =>
      simp only [List.getElem?_cons_zero, Option.some.injEq] at h
      subst h
      cases i with
      | zero => simp [mp]
      | succ i => simp [mp]
    | succ j =>
      simp only [List.getElem?_cons_succ] at h
      rw [List.take_succ_cons, List.take_succ_cons]
      cases i with
      | zero => simp [mp, List.take_add_one, h]
      | succ i => simp [mp, ih h]
theorem mp_len (f : Kd → List Kd) (hf : ∀ x, (f x).length ≤ 1) (l : List Kd) (i : Nat) : (mp f l i).length ≤ l.length := by
  induction l generalizing i with
  | nil => simp [mp]
  | cons a l ih =>
    cases i with
    | zero => have := hf a; simp [mp]; omega
    | succ i => have := ih i; simp [mp]; omega
theorem mp_erase {f : Kd → List Kd} {l : List Kd} {i : Nat} {x : Kd} (h : l[i]? = some x) (hf : f x = []) : mp f l i = l.eraseIdx i := by
  induction l generalizing i with
  | nil => simp at h
  | cons a l ih =>
    cases i with
    | zero => simp only [List.getElem?_cons_zero, Option.some.injEq] at h; subst h; simp [mp, hf]
    | succ i => simp only [List.getElem?_cons_succ] at h; simp [mp, ih h]
theorem mp_set {f : Kd → List Kd} {l : List Kd} {i : Nat} {x y : Kd} (h : l[i]? = some x) (hf : f x = [y]) : mp f l i = l.set i y := by
  induction l generalizing i with
  | nil => simp at h
  | cons a l ih =>
    cases i with
    | zero => simp only [List.getElem?_cons_zero, Option.some.injEq] at h; subst h; simp [mp, hf]
    | succ i => simp only [List.getElem?_cons_succ] at h; simp [mp, ih h]
theorem mp_id {f : Kd → List Kd} (hf : ∀ x, f x = [x]) (l : List Kd) (i : Nat) : mp f l i = l := by
  induction l generalizing i with
  | nil => simp [mp]
  | cons a l ih => cases i <;> simp [mp, hf, ih]
def fK (c : Cg) (x : Kd) : List Kd := if c.kd = 2 then [] else if c.kd = 3 then [{ x with nm := c.nm }] else if 4 ≤ c.kd then (match chF x.fs c with | some fs => [{ x with fs := fs }] | none => [x]) else [x]
theorem fK_len (c : Cg) (x : Kd) : (fK c x).length ≤ 1 := by
  unfold fK
  split
  · simp
  · split
    · simp
    · split
      · split <;> simp
      · simp
theorem chK_1 {l : List Kd} {c : Cg} (h : c.kd = 1) : chK l c = some (l ++ [addK c]) := if_pos h
theorem chK_bad {l : List Kd} {c : Cg} (h : c.kd < 1 ∨ 7 < c.kd) : chK l c = none := by
  unfold chK; rw [if_neg (by omega), if_neg (by omega)]
theorem chK_no {l : List Kd} {c : Cg} (h : c.kd ≠ 1) (ht : tyAt l c.ty = none) : chK l c = none := by
  unfold chK; rw [if_neg h]
  split
  · rw [ht]
  · rfl
theorem chK_mp {l : List Kd} {c : Cg} {i : Nat} {x : Kd} (h2 : 2 ≤ c.kd) (h7 : c.kd ≤ 7) (ht : tyAt l c.ty = some i) (hx : l[i]? = some x) (hok : 4 ≤ c.kd → chF x.fs c ≠ none) : chK l c = some (mp (fK c) l i) := by
  unfold chK; rw [if_neg (by omega), if_pos ⟨h2, h7⟩, ht]
  show (if _ then _ else if _ then _ else _) = _
  by_cases e2 : c.kd = 2
  · rw [if_pos e2, mp_erase hx (by unfold fK; rw [if_pos e2])]
  · rw [if_neg e2]
    by_cases e3 : c.kd = 3
    · rw [if_pos e3, mp_set hx (y := { x with nm := c.nm }) (by unfold fK; rw [if_neg e2, if_pos e3]), mod_set hx]
    · rw [if_neg e3, hx]
      have h4 : 4 ≤ c.kd := by omega
      cases hc : chF x.fs c with
      | none => exact absurd hc (hok h4)
      | some fs => rw [mp_set hx (y := { x with fs := fs }) (by unfold fK; rw [if_neg e2, if_neg e3, if_pos h4, hc])]; show Option.map _ (chF x.fs c) = _; rw [hc]; rfl
theorem chK_none {l : List Kd} {c : Cg} {i : Nat} {x : Kd} (h2 : 4 ≤ c.kd) (ht : tyAt l c.ty = some i) (hx : l[i]? = some x) (hok : chF x.fs c = none) : chK l c = none := by
  unfold chK; rw [if_neg (by omega)]
  split
  · rw [ht]
    show (if _ then _ else if _ then _ else _) = _
    rw [if_neg (by omega), if_neg (by omega), hx]
    show Option.map _ (chF x.fs c) = _
    rw [hok]; rfl
  · rfl

/-- a value in a box at the call's start -/
structure BX (w wr : World) (T : Nat) (cs : List Value) : Prop where
  hb : Below w.heap.size w wr
  bx : Blk wr w.heap.size T cs
theorem BX.stay {w wr w2 : World} {T : Nat} {cs : List Value} (h : BX w wr T cs) (hb : Below wr.heap.size wr w2) : BX w w2 T cs := ⟨h.hb.trans (hb.mono h.hb.size), h.bx.stay hb⟩
theorem BX.grown {w wr w1 : World} {T : Nat} {cs : List Value} {row : Option Nat} (h : BX w wr T cs) (hg : wr.grownBy w1 row) (hr : ∀ q, row = some q → w.heap.size < q) : BX w w1 T cs :=
  ⟨h.hb.grown hg h.hb.size (fun q hq => by have := hr q hq; omega), h.bx.grown hg (fun e => by have := hr _ e.symm; omega)⟩

def ChPost (l : List Kd) (c : Cg) (w : World) (e : Ending) (w' : World) : Prop := ∃ v b, e = .returned (.tuple #[v, .bool b]) ∧
  (∀ l', chK l c = some l' → b = true ∧ Rd w' (fun b => b < w'.heap.size) v (.sl l'.length (l'.flatMap kdD))) ∧ (chK l c = none → b = false) ∧ Below w.heap.size w w'
theorem ChPost.mk_some {l l' : List Kd} {c : Cg} {w w' : World} {v : Value} (h : chK l c = some l') (hO : Rd w' (fun b => b < w'.heap.size) v (.sl l'.length (l'.flatMap kdD))) (hb : Below w.heap.size w w') : ChPost l c w (.returned (.tuple #[v, .bool true])) w' :=
  ⟨v, true, rfl, fun fs' h' => by rw [h] at h'; injection h' with h'; subst h'; exact ⟨rfl, hO⟩, fun h' => (by rw [h] at h'; cases h'), hb⟩
theorem ChPost.mk_none {l : List Kd} {c : Cg} {w w' : World} {v : Value} (h : chK l c = none) (hb : Below w.heap.size w w') : ChPost l c w (.returned (.tuple #[v, .bool false])) w' :=
  ⟨v, false, rfl, fun fs' h' => (by rw [h] at h'; cases h'), fun _ => rfl, hb⟩
end Go.Proofs.YtmadafejenjkcaaDoor
