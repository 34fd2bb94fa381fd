/- From data of a type's shape to lists and structures of Lean. No conditions. -/
import Derived.Test.YtmadafejenjkcaaDoorOpen
namespace Go.Proofs.YtmadafejenjkcaaDoor
open Go.RowKit Go.Deep
set_option linter.unusedVariables false

theorem Fits.pos {ty : Ty} {d : D} {N : Nat} (h : Fits ty d N) : 1 ≤ N := by
  cases h <;> omega

/-- cells of these types, of these bulks -/
def FitsL (tys : List Ty) (ds : List D) (g : Nat → Nat) : Prop :=
  ds.length = tys.length ∧ ∀ k d ty, ds[k]? = some d → tys[k]? = some ty → Fits ty d (g k)

theorem FitsL.nil {ds : List D} {g : Nat → Nat} (h : FitsL [] ds g) : ds = [] := List.eq_nil_of_length_eq_zero h.1

theorem FitsL.cons {ty : Ty} {tys : List Ty} {ds : List D} {g : Nat → Nat} (h : FitsL (ty :: tys) ds g) : ∃ d r, ds = d :: r ∧ Fits ty d (g 0) ∧ FitsL tys r (fun k => g (k + 1)) := by
  obtain ⟨hl, hk⟩ := h
  match ds, hl with
  | d :: r, hl => exact ⟨d, r, rfl, hk 0 d ty rfl rfl, by simpa using hl, fun k d' ty' h1 h2 => hk (k + 1) d' ty' (by simpa using h1) (by simpa using h2)⟩

theorem Fits.int_inv {k : IntKind} {d : D} {N : Nat} (h : Fits (.int k) d N) : ∃ n, d = .v (.int k n) ∧ (Lit.int k n).wf = true := by
  cases h; exact ⟨_, rfl, ‹_›⟩
theorem Fits.bool_inv {d : D} {N : Nat} (h : Fits .bool d N) : ∃ b, d = .v (.bool b) := by
  cases h; exact ⟨_, rfl⟩
theorem Fits.str_inv {d : D} {N : Nat} (h : Fits .str d N) : ∃ s, d = .v (.string s) ∧ s.size ≤ maxLen ∧ s.size + 1 ≤ N := by
  cases h; exact ⟨_, rfl, ‹_›, ‹_›⟩

theorem sumTo_succ_left (g : Nat → Nat) (n : Nat) : sumTo g (n + 1) = g 0 + sumTo (fun k => g (k + 1)) n := by
  rw [Nat.add_comm n 1, sumTo_add]
  simp only [sumTo, Nat.add_comm 1]
  omega

theorem conv_list {α : Type} {f : α → List D} {W : α → Prop} {b : α → Nat} {tys : List Ty} (hL : 0 < tys.length)
    (hc : ∀ (ds : List D) (g : Nat → Nat), FitsL tys ds g → ∃ x, ds = f x ∧ W x ∧ b x ≤ sumTo g tys.length) (n : Nat) :
    ∀ (ds : List D) (g : Nat → Nat), ds.length = n * tys.length → (∀ k d ty, ds[k]? = some d → tys[k % tys.length]? = some ty → Fits ty d (g k)) →
    ∃ l : List α, l.length = n ∧ ds = l.flatMap f ∧ (∀ x ∈ l, W x) ∧ (l.map b).sum ≤ sumTo g ds.length := by
  induction n with
  | zero =>
    intro ds g hl _
    have : ds = [] := List.eq_nil_of_length_eq_zero (by simpa using hl)
    subst this
    exact ⟨[], rfl, rfl, fun x h => by simp at h, by simp⟩
  | succ n ih =>
    intro ds g hl hk
    have hle : tys.length ≤ ds.length := by rw [hl, Nat.succ_mul]; omega
    obtain ⟨x, hx, hw, hb⟩ := hc (ds.take tys.length) g ⟨by simp; omega, fun k d ty h1 h2 => by
      rw [List.getElem?_take] at h1
      split at h1
      · refine hk k d ty h1 ?_
        rwa [Nat.mod_eq_of_lt ‹_›]
      · cases h1⟩
    obtain ⟨l, h1, h2, h3, h4⟩ := ih (ds.drop tys.length) (fun k => g (tys.length + k)) (by simp [hl, Nat.succ_mul]) (fun k d ty h5 h6 => by
      rw [List.getElem?_drop] at h5
      refine hk _ d ty h5 ?_
      rwa [Nat.add_mod_left])
    refine ⟨x :: l, by simp [h1], ?_, ?_, ?_⟩
    · rw [List.flatMap_cons, ← hx, ← h2, List.take_append_drop]
    · intro y hy
      cases hy with
      | head => exact hw
      | tail _ hy => exact h3 y hy
    · have e : ds.length = tys.length + (ds.drop tys.length).length := by simp; omega
      rw [List.map_cons, List.sum_cons, e, sumTo_add]
      omega

theorem Fits.conv {α : Type} {f : α → List D} {W : α → Prop} {b : α → Nat} {tys : List Ty} {d : D} {N : Nat}
    (hc : ∀ (ds : List D) (g : Nat → Nat), FitsL tys ds g → ∃ x, ds = f x ∧ W x ∧ b x ≤ sumTo g tys.length) (h : Fits (.sl tys) d N) :
    ∃ l : List α, d = .sl l.length (l.flatMap f) ∧ (∀ x ∈ l, W x) ∧ (l.map b).sum + 1 ≤ N := by
  cases h with
  | sl _ n ds g _ hl hp hk hN =>
    obtain ⟨l, h1, h2, h3, h4⟩ := conv_list hp hc n ds g hl hk
    exact ⟨l, by rw [h1, h2], h3, by omega⟩

/-! ### slices of one plain cell -/

theorem sum_one {α : Type} (l : List α) : (l.map fun _ => 1).sum = l.length := by
  induction l with
  | nil => rfl
  | cons a l ih => simp [ih]; omega

theorem conv_int {k : IntKind} (ds : List D) (g : Nat → Nat) (h : FitsL [.int k] ds g) : ∃ n : Int, ds = intD k n ∧ (Lit.int k n).wf = true ∧ 1 ≤ sumTo g [Ty.int k].length := by
  obtain ⟨d, r, rfl, h1, h2⟩ := h.cons
  have h3 := h2.nil
  subst h3
  obtain ⟨n, rfl, hw⟩ := h1.int_inv
  exact ⟨n, rfl, hw, by have := h1.pos; simp [sumTo]; omega⟩
theorem conv_bool (ds : List D) (g : Nat → Nat) (h : FitsL [.bool] ds g) : ∃ b : Bool, ds = boolD b ∧ True ∧ 1 ≤ sumTo g [Ty.bool].length := by
  obtain ⟨d, r, rfl, h1, h2⟩ := h.cons
  have h3 := h2.nil
  subst h3
  obtain ⟨n, rfl⟩ := h1.bool_inv
  exact ⟨n, rfl, trivial, by have := h1.pos; simp [sumTo]; omega⟩
theorem conv_str (ds : List D) (g : Nat → Nat) (h : FitsL [.str] ds g) : ∃ s : ByteArray, ds = strD s ∧ s.size ≤ maxLen ∧ s.size + 1 ≤ sumTo g [Ty.str].length := by
  obtain ⟨d, r, rfl, h1, h2⟩ := h.cons
  have h3 := h2.nil
  subst h3
  obtain ⟨s, rfl, hw, hN⟩ := h1.str_inv
  exact ⟨s, rfl, hw, by simp [sumTo]; omega⟩

theorem Fits.ints {k : IntKind} {d : D} {N : Nat} (h : Fits (.sl [.int k]) d N) : ∃ l : List Int, d = .sl l.length (l.flatMap (intD k)) ∧ (∀ n ∈ l, (Lit.int k n).wf = true) ∧ l.length + 1 ≤ N := by
  obtain ⟨l, h1, h2, h3⟩ := h.conv (b := fun _ => 1) conv_int
  exact ⟨l, h1, h2, by rwa [sum_one] at h3⟩
theorem Fits.bools {d : D} {N : Nat} (h : Fits (.sl [.bool]) d N) : ∃ l : List Bool, d = .sl l.length (l.flatMap boolD) ∧ l.length + 1 ≤ N := by
  obtain ⟨l, h1, h2, h3⟩ := h.conv (b := fun _ => 1) conv_bool
  exact ⟨l, h1, by rwa [sum_one] at h3⟩
theorem Fits.strs {d : D} {N : Nat} (h : Fits (.sl [.str]) d N) : ∃ l : List ByteArray, d = .sl l.length (l.flatMap strD) ∧ (∀ s ∈ l, s.size ≤ maxLen) ∧ (l.map fun s => s.size + 1).sum + 1 ≤ N :=
  h.conv (b := fun (s : ByteArray) => s.size + 1) conv_str

/-! ### arguments -/
section
variable {H : Type} {enc : TypeId × Value → H} {P : Program} {w : World} {spare : Nat → Bool}
theorem arg_one {t : TypeId} {v : Value} {x : DataW H} {p : List MemPlace} {ty : Ty} {n : Nat} (hv : v.cells = #[v]) (hl : lay P n t = some [ty]) (h : DataW.Trod enc P w 0 spare true t v x p) :
    ∃ d, Rd w (fun b => b < w.heap.size) v d ∧ Fits ty d (Rows.uptoBulk x) := by
  obtain ⟨m, hm⟩ := h
  obtain ⟨ds, g, h1, h2, h3⟩ := opens n m t [ty] v.cells.toList (x, p) hl hm
  match ds, h1 with
  | [d], _ =>
    obtain ⟨u, ty', e1, e2, e3, e4⟩ := h2 0 d rfl
    rw [hv] at e1
    simp at e1 e2
    subst e1 e2
    refine ⟨d, e3, ?_⟩
    simp [sumTo] at h3
    cases e4 with
    | bool b N h => exact .bool b _ (by omega)
    | int k n N h h' => exact .int k n _ h (by omega)
    | str s N h h' => exact .str s _ h (by omega)
    | sl l n ds g' N a b c e => exact .sl l n ds g' _ a b c (by omega)

theorem arg_many {t : TypeId} {cs : Array Value} {x : DataW H} {p : List MemPlace} {tys : List Ty} {n : Nat} (hl : lay P n t = some tys) (h : DataW.Trod enc P w 0 spare true t (.agg cs) x p) :
    ∃ ds g, FitsL tys ds g ∧ (∀ (k : Nat) (d : D), ds[k]? = some d → ∃ u, cs[k]? = some u ∧ Rd w (fun b => b < w.heap.size) u d) ∧ sumTo g tys.length ≤ Rows.uptoBulk x := by
  obtain ⟨m, hm⟩ := h
  obtain ⟨ds, g, h1, h2, h3⟩ := opens n m t tys _ (x, p) hl hm
  refine ⟨ds, g, ⟨h1, fun k d ty hd ht => ?_⟩, fun k d hd => ?_, h3⟩
  · obtain ⟨u, ty', e1, e2, e3, e4⟩ := h2 k d hd
    rw [ht] at e2
    injection e2 with e2
    subst e2
    exact e4
  · obtain ⟨u, ty', e1, e2, e3, e4⟩ := h2 k d hd
    exact ⟨u, by simpa [Value.cells] using e1, e3⟩

theorem bound {l : List (DataW H)} (hk : Rows.uptoSmall H l = true) : Rows.uptoBulkAll l ≤ 1048576 := of_decide_eq_true hk
end
end Go.Proofs.YtmadafejenjkcaaDoor
