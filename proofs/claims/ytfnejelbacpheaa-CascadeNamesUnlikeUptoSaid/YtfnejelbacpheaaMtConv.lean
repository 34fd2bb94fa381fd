/- A match that comes in as an argument. -/
import Derived.Test.YtfnejelbacpheaaConv
import Derived.Test.YtfnejelbacpheaaMatch
namespace Go.Proofs.Ytfnejelbacpheaa.cascadeDerivesW
open Go.RowKit Go.Deep
set_option linter.unusedVariables false

theorem conv_name (ds : List D) (g : Nat → Nat) (h : FitsL [.int .i64, .int .u64] ds g) : ∃ x : Int × Int, ds = nameD x ∧ True ∧ 1 ≤ sumTo g [Ty.int .i64, Ty.int .u64].length := by
  obtain ⟨d0, r, rfl, h0, h⟩ := h.cons
  obtain ⟨d1, r, rfl, h1, h⟩ := h.cons
  have := h.nil; subst this
  obtain ⟨a, rfl, _⟩ := h0.int_inv
  obtain ⟨b, rfl, _⟩ := h1.int_inv
  exact ⟨(a, b), rfl, trivial, by have := h0.pos; simp [sumTo]; omega⟩
theorem conv_val (ds : List D) (g : Nat → Nat) (h : FitsL [.bool, .int .i64] ds g) : ∃ x : Bool × Int, ds = valD x ∧ True ∧ 1 ≤ sumTo g [Ty.bool, Ty.int .i64].length := by
  obtain ⟨d0, r, rfl, h0, h⟩ := h.cons
  obtain ⟨d1, r, rfl, h1, h⟩ := h.cons
  have := h.nil; subst this
  obtain ⟨a, rfl⟩ := h0.bool_inv
  obtain ⟨b, rfl, _⟩ := h1.int_inv
  exact ⟨(a, b), rfl, trivial, by have := h0.pos; simp [sumTo]; omega⟩

theorem conv_mt (ds : List D) (g : Nat → Nat) (h : FitsL [.int .i64, .sl [.int .i64, .int .u64], .sl [.int .i64], .sl [.bool, .int .i64]] ds g) :
    ∃ m : Mt, ds = m.d ∧ (m.names.length + m.lens.length + m.vals.length ≤ sumTo g 4 ∧ (Lit.int .i64 m.dec).wf = true) := by
  obtain ⟨d0, r, rfl, h0, h⟩ := h.cons
  obtain ⟨d1, r, rfl, h1, h⟩ := h.cons
  obtain ⟨d2, r, rfl, h2, h⟩ := h.cons
  obtain ⟨d3, r, rfl, h3, h⟩ := h.cons
  have := h.nil; subst this
  obtain ⟨a, rfl, hw⟩ := h0.int_inv
  obtain ⟨l1, rfl, _, b1⟩ := h1.conv (b := fun _ => 1) conv_name
  obtain ⟨l2, rfl, _, b2⟩ := h2.ints
  obtain ⟨l3, rfl, _, b3⟩ := h3.conv (b := fun _ => 1) conv_val
  rw [sum_one] at b1 b3
  refine ⟨⟨a, l1, l2, l3⟩, rfl, ?_, hw⟩
  have b1' : l1.length + 1 ≤ g 1 := b1
  have b2' : l2.length + 1 ≤ g 2 := b2
  have b3' : l3.length + 1 ≤ g 3 := b3
  have e : sumTo g 4 = g 0 + g 1 + g 2 + g 3 := by simp [sumTo]
  show l1.length + l2.length + l3.length ≤ sumTo g 4
  omega

/-- the four cells of a match that is handed in by value -/
theorem open_mt {W : World} {c : Array Value} {ds : List D} {g : Nat → Nat} {N : Nat} (sz : c.size = 4) (ft : FitsL [.int .i64, .sl [.int .i64, .int .u64], .sl [.int .i64], .sl [.bool, .int .i64]] ds g)
    (rd : ∀ (k : Nat) (d : D), ds[k]? = some d → ∃ u, c[k]? = some u ∧ Rd W (fun b => b < W.heap.size) u d) (bk : sumTo g 4 ≤ N) (hN : N ≤ 1048576) :
    ∃ (m : Mt) (A1 A2 A3 : Option Addr) (c1 c2 c3 : Nat), c = #[.int .i64 m.dec, .slice A1 m.names.length c1, .slice A2 m.lens.length c2, .slice A3 m.vals.length c3] ∧ Small m ∧ (Lit.int .i64 m.dec).wf = true ∧
      Rd W (fun b => b < W.heap.size) (.slice A1 m.names.length c1) (.sl m.names.length (m.names.flatMap nameD)) ∧ Rd W (fun b => b < W.heap.size) (.slice A2 m.lens.length c2) (.sl m.lens.length (m.lens.flatMap (intD .i64))) ∧
      Rd W (fun b => b < W.heap.size) (.slice A3 m.vals.length c3) (.sl m.vals.length (m.vals.flatMap valD)) := by
  obtain ⟨m, rfl, hs, hw⟩ := conv_mt ds g ft
  obtain ⟨u0, e0, r0⟩ := rd 0 _ rfl
  obtain ⟨u1, e1, r1⟩ := rd 1 _ rfl
  obtain ⟨u2, e2, r2⟩ := rd 2 _ rfl
  obtain ⟨u3, e3, r3⟩ := rd 3 _ rfl
  have := r0.v_inv; subst this
  obtain ⟨A1, c1, rfl, _⟩ := r1.sl_inv
  obtain ⟨A2, c2, rfl, _⟩ := r2.sl_inv
  obtain ⟨A3, c3, rfl, _⟩ := r3.sl_inv
  refine ⟨m, A1, A2, A3, c1, c2, c3, ?_, ⟨by omega, by omega, by omega⟩, hw, r1, r2, r3⟩
  obtain ⟨l⟩ := c
  simp at sz e0 e1 e2 e3
  match l, sz with
  | [a, b, c, d], _ => simp at e0 e1 e2 e3; subst e0 e1 e2 e3; rfl
end Go.Proofs.Ytfnejelbacpheaa.cascadeDerivesW
