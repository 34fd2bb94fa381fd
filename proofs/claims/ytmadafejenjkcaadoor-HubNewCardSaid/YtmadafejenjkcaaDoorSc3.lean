/- Schemas: the document's rules for a schema as plain codes. -/
import Derived.Test.YtmadafejenjkcaaDoorSc2
namespace Go.Proofs.YtmadafejenjkcaaDoor
open Go.RowKit Go.Deep
set_option linter.unusedVariables false

/-- the first code that is no nought -/
def fstC (c : Nat → Int) : Nat → Int
  | 0 => 0
  | n + 1 => if fstC c n = 0 then c n else fstC c n
theorem fstC_zero {c : Nat → Int} {n : Nat} (h : ∀ i, i < n → c i = 0) : fstC c n = 0 := by
  induction n with
  | zero => rfl
  | succ n ih => rw [fstC, if_pos (ih fun i hi => h i (by omega))]; exact h n (by omega)
theorem fstC_at {c : Nat → Int} {n j : Nat} (hj : j < n) (hc : c j ≠ 0) (h : ∀ i, i < j → c i = 0) : fstC c n = c j := by
  induction n with
  | zero => omega
  | succ n ih =>
    rw [fstC]
    by_cases e : j = n
    · subst e; rw [if_pos (fstC_zero h)]
    · rw [ih (by omega), if_neg hc]
theorem fstC_none {c : Nat → Int} {n : Nat} (h : fstC c n = 0) : ∀ i, i < n → c i = 0 := by
  induction n with
  | zero => intro i hi; omega
  | succ n ih =>
    rw [fstC] at h
    split at h
    · intro i hi
      by_cases e : i = n
      · subst e; exact h
      · exact ih ‹_› i (by omega)
    · contradiction

def tsB : ByteArray := { data := #[116, 115] }
theorem tsB_list : tsB.toList = [116, 115] := by rw [ByteArray.toList_eq]; rfl
theorem ts_true {x : ByteArray} (h : x = tsB) : (x.toList == [116, 115]) = true := by subst h; rw [tsB_list]; rfl
theorem ts_false {x : ByteArray} (h : x ≠ tsB) : (x.toList == [116, 115]) = false := by rw [← tsB_list, nmW.beq_bytes]; exact decide_eq_false h
theorem e_true {x : ByteArray} (h : x = ByteArray.empty) : (x.toList == []) = true := by subst h; rw [ByteArray.toList_eq]; rfl
theorem e_false {x : ByteArray} (h : x ≠ ByteArray.empty) : (x.toList == []) = false := by
  have : ByteArray.empty.toList = [] := by rw [ByteArray.toList_eq]; rfl
  rw [← this, nmW.beq_bytes]; exact decide_eq_false h
/-- the k-th attribute's code -/
noncomputable def atC (l : List ByteArray) (k : Nat) : Int := match l[k]? with
  | none => 0
  | some a => if isNm a = false ∨ a = tsB then 22 else if placeI l a = k then 0 else 25
/-- the i-th type's code -/
noncomputable def tyC (l : List Td) (i : Nat) : Int := match l[i]? with
  | none => 0
  | some t => if isNm t.name = false then 22 else if placeI (l.map (·.name)) t.name = i then (if 8 < t.attrs.length then 24 else fstC (atC t.attrs) t.attrs.length) else 25
/-- the schema's code -/
noncomputable def scC (l : List Td) : Int := if l.length < 1 ∨ 16 < l.length then 23 else fstC (tyC l) l.length

theorem atC_22 {l : List ByteArray} {k : Nat} {a : ByteArray} (h : l[k]? = some a) (h1 : isNm a = false ∨ a = tsB) : atC l k = 22 := by
  unfold atC; rw [h]; exact if_pos h1
theorem atC_25 {l : List ByteArray} {k : Nat} {a : ByteArray} (h : l[k]? = some a) (h1 : isNm a = true) (h2 : a ≠ tsB) (h3 : placeI l a ≠ k) : atC l k = 25 := by
  unfold atC; rw [h]
  show (if _ then _ else _) = _
  rw [if_neg (by simp [h1, h2]), if_neg h3]
theorem atC_0 {l : List ByteArray} {k : Nat} {a : ByteArray} (h : l[k]? = some a) (h1 : isNm a = true) (h2 : a ≠ tsB) (h3 : placeI l a = k) : atC l k = 0 := by
  unfold atC; rw [h]
  show (if _ then _ else _) = _
  rw [if_neg (by simp [h1, h2]), if_pos h3]
theorem tyC_22 {l : List Td} {i : Nat} {t : Td} (h : l[i]? = some t) (h1 : isNm t.name = false) : tyC l i = 22 := by
  unfold tyC; rw [h]; exact if_pos h1
theorem tyC_25 {l : List Td} {i : Nat} {t : Td} (h : l[i]? = some t) (h1 : isNm t.name = true) (h3 : placeI (l.map (·.name)) t.name ≠ i) : tyC l i = 25 := by
  unfold tyC; rw [h]
  show (if _ then _ else _) = _
  rw [if_neg (by simp [h1]), if_neg h3]
theorem tyC_24 {l : List Td} {i : Nat} {t : Td} (h : l[i]? = some t) (h1 : isNm t.name = true) (h3 : placeI (l.map (·.name)) t.name = i) (h4 : 8 < t.attrs.length) : tyC l i = 24 := by
  unfold tyC; rw [h]
  show (if _ then _ else _) = _
  rw [if_neg (by simp [h1]), if_pos h3, if_pos h4]
theorem tyC_at {l : List Td} {i : Nat} {t : Td} (h : l[i]? = some t) (h1 : isNm t.name = true) (h3 : placeI (l.map (·.name)) t.name = i) (h4 : ¬ 8 < t.attrs.length) : tyC l i = fstC (atC t.attrs) t.attrs.length := by
  unfold tyC; rw [h]
  show (if _ then _ else _) = _
  rw [if_neg (by simp [h1]), if_pos h3, if_neg h4]
theorem scC_23 {l : List Td} (h : l.length < 1 ∨ 16 < l.length) : scC l = 23 := if_pos h
theorem scC_ty {l : List Td} (h : 1 ≤ l.length) (h2 : l.length ≤ 16) : scC l = fstC (tyC l) l.length := if_neg (by omega)

theorem placeI_le {l : List ByteArray} {s : ByteArray} {j : Nat} (h : l[j]? = some s) : placeI l s ≤ j := by
  unfold placeI
  obtain ⟨hj, hjs⟩ := List.getElem?_eq_some_iff.1 h
  cases hf : l.findIdx? (fun a => decide (a = s)) with
  | none => simp only []; omega
  | some i =>
    rw [List.findIdx?_eq_some_iff_getElem] at hf
    obtain ⟨hi, _, hp⟩ := hf
    simp only []
    by_cases hlt : j < i
    · have := hp j hlt
      simp [hjs] at this
    · omega
theorem placeI_ne {l : List ByteArray} {s : ByteArray} {i j : Nat} (h : l[i]? = some s) (hij : i < j) : placeI l s ≠ j := by
  have := placeI_le h; omega
theorem any_take {l : List ByteArray} {s : ByteArray} {j : Nat} (h : l[j]? = some s) : ((l.take j).any fun a => decide (a = s)) = decide (placeI l s ≠ j) := by
  by_cases hp : ∀ i a, l[i]? = some a → i < j → a ≠ s
  · rw [decide_eq_false (by rw [placeI_at h hp]; simp), List.any_eq_false]
    intro a ha
    obtain ⟨i, hi⟩ := List.getElem?_of_mem ha
    rw [List.getElem?_take] at hi
    split at hi
    · simpa using hp i a hi ‹_›
    · cases hi
  · simp only [Classical.not_forall] at hp
    obtain ⟨i, a, hi, hij, hn⟩ := hp
    obtain rfl : a = s := Classical.not_not.1 hn
    rw [decide_eq_true (placeI_ne hi hij), List.any_eq_true]
    exact ⟨a, List.mem_of_getElem? (i := i) (by rw [List.getElem?_take, if_pos hij]; exact hi), by simp⟩

/-- no text of the schema is beyond a mebibyte, no list beyond a million -/
def SzS (l : List ByteArray) : Prop := l.length ≤ 1048576 ∧ ∀ a ∈ l, a.size ≤ 1048576
def SzT (l : List Td) : Prop := l.length ≤ 1048576 ∧ ∀ t ∈ l, t.name.size ≤ 1048576 ∧ SzS t.attrs
end Go.Proofs.YtmadafejenjkcaaDoor
