/- CascadeNamesUnlike: the walk in the form in which the statement's frame asks it. -/
import Derived.Test.YtfnejelbacpheaaMtConv
import Derived.Test.YtfnejelbacpheaaNames
namespace Go.Proofs.Ytfnejelbacpheaa.cascadeNamesUnlikeW
open Go.RowKit Go.Deep
open Go.Proofs.Ytfnejelbacpheaa.cascadeDerivesW (open_mt)
set_option linter.unusedVariables false

theorem bool_of (p : Prop) : ∃ ok : Bool, ok = true ↔ p := by
  by_cases h : p
  · exact ⟨true, by simp [h]⟩
  · exact ⟨false, by simp [h]⟩

theorem walk {c0 c1 : Array Value} {x0 x1 : List D} {g0 g1 : Nat → Nat} {N0 N1 N2 N3 N4 N5 : Nat} (W : World)
    (sz0 : c0.size = 4) (ft0 : FitsL [.int .i64, .sl [.int .i64, .int .u64], .sl [.int .i64], .sl [.bool, .int .i64]] x0 g0)
    (rd0 : ∀ (k : Nat) (d : D), x0[k]? = some d → ∃ u, c0[k]? = some u ∧ Rd W (fun b => b < W.heap.size) u d) (bk0 : sumTo g0 4 ≤ N0)
    (sz1 : c1.size = 4) (ft1 : FitsL [.int .i64, .sl [.int .i64, .int .u64], .sl [.int .i64], .sl [.bool, .int .i64]] x1 g1)
    (rd1 : ∀ (k : Nat) (d : D), x1[k]? = some d → ∃ u, c1[k]? = some u ∧ Rd W (fun b => b < W.heap.size) u d) (bk1 : sumTo g1 4 ≤ N1)
    (a2 : Int) (w2 : (Lit.int .i64 a2).wf = true) (a3 : Int) (w3 : (Lit.int .i64 a3).wf = true) (a4 : Int) (w4 : (Lit.int .u64 a4).wf = true) (a5 : Int) (w5 : (Lit.int .u64 a5).wf = true)
    (hN : N0 + (N1 + (N2 + (N3 + (N4 + (N5 + 0))))) ≤ 1048576) :
    Calls Try.prog 6 #[.agg c0, .agg c1, .int .i64 a2, .int .i64 a3, .int .u64 a4, .int .u64 a5] W fun e w' => e = .returned (.bool true) ∧ Below W.heap.size W w' := by
  obtain ⟨m, A1, A2, A3, p1, p2, p3, rfl, hs, _, _, _, r3⟩ := open_mt sz0 ft0 rd0 bk0 (by omega)
  obtain ⟨n, B1, B2, B3, q1, q2, q3, rfl, hs', _, _, _, s3⟩ := open_mt sz1 ft1 rd1 bk1 (by omega)
  obtain ⟨ok, hok⟩ := bool_of (Go.Proofs.Ytfnejelbacpheaa.cascadeDerivesW.fits a2 2 a4 m.dec m.vals ∧ Go.Proofs.Ytfnejelbacpheaa.cascadeDerivesW.known m.vals = true)
  obtain ⟨may, hmay⟩ := bool_of (Go.Proofs.Ytfnejelbacpheaa.cascadeDerivesW.fits a3 2 a5 n.dec n.vals ∧ Go.Proofs.Ytfnejelbacpheaa.cascadeDerivesW.known n.vals = true)
  exact law A1 A2 A3 B1 B2 B3 p1 p2 p3 q1 q2 q3 a2 a3 a4 a5 m n ok may W (Go.bounds_u64 w4).1 (Go.bounds_u64 w5).1 hs hs' hok hmay r3 s3
end Go.Proofs.Ytfnejelbacpheaa.cascadeNamesUnlikeW
