/- CascadeDerives: the walk in the form in which the statement's frame asks it. -/
import Derived.Test.YtfnejelbacpheaaMtConv
import Derived.Test.YtfnejelbacpheaaDerives
namespace Go.Proofs.Ytfnejelbacpheaa.cascadeDerivesW
open Go.RowKit Go.Deep
set_option linter.unusedVariables false

theorem walk {c3 : Array Value} {x3 : List D} {g3 : Nat → Nat} {N0 N1 N2 N3 : Nat} (W : World) (a0 : Int) (w0 : (Lit.int .i64 a0).wf = true) (a1 : Int) (w1 : (Lit.int .i64 a1).wf = true) (a2 : Int) (w2 : (Lit.int .u64 a2).wf = true)
    (sz3 : c3.size = 4) (ft3 : FitsL [.int .i64, .sl [.int .i64, .int .u64], .sl [.int .i64], .sl [.bool, .int .i64]] x3 g3)
    (rd3 : ∀ (k : Nat) (d : D), x3[k]? = some d → ∃ u, c3[k]? = some u ∧ Rd W (fun b => b < W.heap.size) u d) (bk3 : sumTo g3 4 ≤ N3) (hN : N0 + (N1 + (N2 + (N3 + 0))) ≤ 1048576) :
    Calls Try.prog 5 #[.int .i64 a0, .int .i64 a1, .int .u64 a2, .agg c3] W fun e w' => e = .returned (.bool true) ∧ Below W.heap.size W w' := by
  obtain ⟨m, A1, A2, A3, c1, c2, c3, rfl, hs, _, r1, r2, r3⟩ := open_mt sz3 ft3 rd3 bk3 (by omega)
  exact law A1 A2 A3 c1 c2 c3 a0 a1 a2 m W (Go.bounds_u64 w2).1 hs r1 r2 r3
end Go.Proofs.Ytfnejelbacpheaa.cascadeDerivesW
