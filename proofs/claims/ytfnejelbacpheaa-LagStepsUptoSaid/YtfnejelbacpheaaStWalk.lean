/- LagSteps: the walk in the form in which the statement's frame asks it. -/
import Derived.Test.YtfnejelbacpheaaConv
import Derived.Test.YtfnejelbacpheaaStLaw
namespace Go.Proofs.Ytfnejelbacpheaa
open Go.RowKit Go.Deep
set_option linter.unusedVariables false
theorem conv_ev (ds : List D) (g : Nat → Nat) (h : FitsL [.int .i64, .int .u64, .int .i64, .int .i64, .int .i64, .int .i64, .int .i64, .int .i64, .int .i64, .int .i64, .int .i64] ds g) : ∃ e : Ev, ds = evD e ∧ True ∧ 1 ≤ sumTo g [Ty.int .i64, Ty.int .u64, Ty.int .i64, Ty.int .i64, Ty.int .i64, Ty.int .i64, Ty.int .i64, Ty.int .i64, Ty.int .i64, Ty.int .i64, Ty.int .i64].length := by
  obtain ⟨d0, r, rfl, h0, h⟩ := h.cons
  obtain ⟨d1, r, rfl, h1, h⟩ := h.cons
  obtain ⟨d2, r, rfl, h2, h⟩ := h.cons
  obtain ⟨d3, r, rfl, h3, h⟩ := h.cons
  obtain ⟨d4, r, rfl, h4, h⟩ := h.cons
  obtain ⟨d5, r, rfl, h5, h⟩ := h.cons
  obtain ⟨d6, r, rfl, h6, h⟩ := h.cons
  obtain ⟨d7, r, rfl, h7, h⟩ := h.cons
  obtain ⟨d8, r, rfl, h8, h⟩ := h.cons
  obtain ⟨d9, r, rfl, h9, h⟩ := h.cons
  obtain ⟨d10, r, rfl, h10, h⟩ := h.cons
  have := h.nil; subst this
  obtain ⟨v0, rfl, _⟩ := h0.int_inv
  obtain ⟨v1, rfl, _⟩ := h1.int_inv
  obtain ⟨v2, rfl, _⟩ := h2.int_inv
  obtain ⟨v3, rfl, _⟩ := h3.int_inv
  obtain ⟨v4, rfl, _⟩ := h4.int_inv
  obtain ⟨v5, rfl, _⟩ := h5.int_inv
  obtain ⟨v6, rfl, _⟩ := h6.int_inv
  obtain ⟨v7, rfl, _⟩ := h7.int_inv
  obtain ⟨v8, rfl, _⟩ := h8.int_inv
  obtain ⟨v9, rfl, _⟩ := h9.int_inv
  obtain ⟨v10, rfl, _⟩ := h10.int_inv
  exact ⟨⟨v0, v1, v2, v3, v4, v5, v6, v7, v8, v9, v10⟩, rfl, trivial, by have := h0.pos; simp [sumTo]; omega⟩
namespace lagStepsW
theorem walk {A : Option Addr} {len cap N0 N1 : Nat} {x1 : D} (W : World) (a0 : Int) (w0 : (Lit.int .i64 a0).wf = true) (rd1 : Rd W (fun b => b < W.heap.size) (.slice A len cap) x1) (ft1 : Fits (.sl [.int .i64, .int .u64, .int .i64, .int .i64, .int .i64, .int .i64, .int .i64, .int .i64, .int .i64, .int .i64, .int .i64]) x1 N1) (hN : N0 + (N1 + 0) ≤ 1048576) :
    Calls Try.prog 8 #[.int .i64 a0, .slice A len cap] W fun e w' => e = .returned (.bool true) ∧ Below W.heap.size W w' := by
  obtain ⟨l, rfl, _, h1⟩ := ft1.conv (b := fun _ => 1) conv_ev
  rw [sum_one] at h1
  obtain ⟨A', c', e, _⟩ := rd1.sl_inv
  injection e with e1 e2 e3
  subst e1 e2 e3
  exact stW.law a0 _ _ l W (by omega) rd1
end lagStepsW
end Go.Proofs.Ytfnejelbacpheaa
