/- MergeLows: the walk in the form in which the statement's frame asks it. -/
import Derived.Test.YtfnejelbacpheaaConv
import Derived.Test.YtfnejelbacpheaaLowsLaw
namespace Go.Proofs.Ytfnejelbacpheaa.mergeLowsW
open Go.RowKit Go.Deep
set_option linter.unusedVariables false

theorem walk {A B : Option Addr} {n c m d N0 N1 : Nat} {x0 x1 : D} (W : World) (rd0 : Rd W (fun b => b < W.heap.size) (.slice A n c) x0) (ft0 : Fits (.sl [.int .i64]) x0 N0)
    (rd1 : Rd W (fun b => b < W.heap.size) (.slice B m d) x1) (ft1 : Fits (.sl [.bool]) x1 N1) (hN : N0 + (N1 + 0) ≤ 1048576) :
    Calls Try.prog 4 #[.slice A n c, .slice B m d] W fun e w' => e = .returned (.bool true) ∧ Below W.heap.size W w' := by
  obtain ⟨ms, rfl, _, h1⟩ := ft0.ints
  obtain ⟨ds, rfl, h2⟩ := ft1.bools
  obtain ⟨A', c', e, _⟩ := rd0.sl_inv
  injection e with e1 e2 e3
  subst e1 e2 e3
  obtain ⟨B', d', e, _⟩ := rd1.sl_inv
  injection e with e1 e2 e3
  subst e1 e2 e3
  exact law _ _ _ _ ms ds W (by omega) (by omega) rd0 rd1
end Go.Proofs.Ytfnejelbacpheaa.mergeLowsW
