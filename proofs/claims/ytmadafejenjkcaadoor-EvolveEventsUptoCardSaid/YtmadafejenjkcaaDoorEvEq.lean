/- Two events compared. -/
import Derived.Test.YtmadafejenjkcaaDoorProg
import Derived.WalkKit
import Derived.Laws.StructEq
namespace Go.Proofs.YtmadafejenjkcaaDoor
open Go.RowKit
set_option linter.unusedVariables false

section
variable {P : Program} (w : World)
def eqL (d : Nat) (e n : Nat) (xs ys : Array Value) : List Nat → Sem Bool
  | [] => pure true
  | i :: r => do
    let a ← part e xs (i * n)
    let b ← part e ys (i * n)
    let c ← Op.equalIn d e a b
    if (!c) = true then pure false else eqL d e n xs ys r

theorem run_equalIn_array (d : Nat) (t e len n : Nat) (xs ys : Array Value) (ht : P.underlying t = some (.array len e)) (hn : (sizeOf e).run P w = .ok n w) :
    (Op.equalIn (d + 1) t (.agg xs) (.agg ys)).run P w = (eqL d e n xs ys (List.range' 0 len)).run P w := by
  simp only [Op.equalIn, Sem.run_bind, run_underlying ht, Result.andThen_ok, hn]
  rw [Std.Legacy.Range.forIn_eq_forIn_range']
  simp only [Std.Legacy.Range.size, Nat.sub_zero, Nat.add_sub_cancel, Nat.div_one]
  generalize List.range' 0 len = l
  clear ht hn
  induction l generalizing w with
  | nil => simp [eqL]
  | cons f fs ih =>
    simp only [List.forIn_cons, eqL, Sem.run_bind, Sem.run_ite]
    generalize (part e xs (f * n)).run P w = r1
    cases r1 with
    | ok a w1 =>
      simp only [Result.andThen_ok]
      generalize (part e ys (f * n)).run P w1 = r2
      cases r2 with
      | ok b w2 =>
        simp only [Result.andThen_ok]
        generalize (Op.equalIn d e a b).run P w2 = r3
        cases r3 with
        | ok r w3 =>
          cases r
          · simp only [Result.andThen_ok, Bool.not_false, if_true, Sem.run_pure]
          · simp only [Result.andThen_ok, Bool.not_true, Bool.false_eq_true, if_false, Sem.run_pure]
            exact ih w3
        | halt x w3 => simp [Result.andThen]
      | halt x w2 => simp [Result.andThen]
    | halt x w1 => simp [Result.andThen]

theorem eqL_cons {d e n i : Nat} {xs ys : Array Value} {r : List Nat} {u v : Value} {c b : Bool} (h1 : (part e xs (i * n)).run P w = .ok u w) (h2 : (part e ys (i * n)).run P w = .ok v w)
    (h3 : (Op.equalIn d e u v).run P w = .ok b w) (hr : (eqL d e n xs ys r).run P w = .ok c w) : (eqL d e n xs ys (i :: r)).run P w = .ok (b && c) w := by
  simp only [eqL, Sem.run_bind, h1, h2, h3, Result.andThen_ok, Sem.run_ite, hr]
  cases b <;> simp

theorem eqF_cons {d : Nat} {xs ys : Array Value} {f : Field} {r : List Field} {u v : Value} {c b : Bool} (hn : f.name ≠ "_") (h1 : (part f.type xs f.offset).run P w = .ok u w) (h2 : (part f.type ys f.offset).run P w = .ok v w)
    (h3 : (Op.equalIn d f.type u v).run P w = .ok b w) (hr : (Op.eqFields d xs ys r).run P w = .ok c w) : (Op.eqFields d xs ys (f :: r)).run P w = .ok (b && c) w := by
  simp only [Op.eqFields, if_pos hn, Sem.run_bind, h1, h2, h3, Result.andThen_ok, Sem.run_ite, hr]
  cases b <;> simp
end

theorem size2 (w : World) : (sizeOf 2).run Tryd.prog w = .ok 1 w := by kernel_rfl

set_option maxHeartbeats 400000 in
theorem eqArr (w : World) (d : Nat) (x3 x4 x5 x6 x7 x8 x9 x10 y3 y4 y5 y6 y7 y8 y9 y10 : Int) :
    (Op.equalIn (d + 2) 39 (.agg #[.int .i64 x3, .int .i64 x4, .int .i64 x5, .int .i64 x6, .int .i64 x7, .int .i64 x8, .int .i64 x9, .int .i64 x10]) (.agg #[.int .i64 y3, .int .i64 y4, .int .i64 y5, .int .i64 y6, .int .i64 y7, .int .i64 y8, .int .i64 y9, .int .i64 y10])).run Tryd.prog w
      = .ok (x3 == y3 && (x4 == y4 && (x5 == y5 && (x6 == y6 && (x7 == y7 && (x8 == y8 && (x9 == y9 && (x10 == y10 && true)))))))) w := by
  rw [run_equalIn_array w (d + 1) 39 2 8 1 _ _ Tryd.underlying39 (size2 w)]
  have hp : ∀ (a b : Int), (Op.equalIn (d + 1) 2 (.int .i64 a) (.int .i64 b)).run Tryd.prog w = .ok (a == b) w := fun a b => run_equalIn_int w d 2 .i64 .i64 a b Tryd.underlying2
  refine eqL_cons w (by kernel_rfl) (by kernel_rfl) (hp _ _) (eqL_cons w (by kernel_rfl) (by kernel_rfl) (hp _ _) (eqL_cons w (by kernel_rfl) (by kernel_rfl) (hp _ _) (eqL_cons w (by kernel_rfl) (by kernel_rfl) (hp _ _)
    (eqL_cons w (by kernel_rfl) (by kernel_rfl) (hp _ _) (eqL_cons w (by kernel_rfl) (by kernel_rfl) (hp _ _) (eqL_cons w (by kernel_rfl) (by kernel_rfl) (hp _ _) (eqL_cons w (by kernel_rfl) (by kernel_rfl) (hp _ _) rfl)))))))

/-- are the events alike? -/
def evEq (x0 x1 x2 x3 x4 x5 x6 x7 x8 x9 x10 y0 y1 y2 y3 y4 y5 y6 y7 y8 y9 y10 : Int) : Bool :=
  x0 == y0 && (x1 == y1 && (x2 == y2 && ((x3 == y3 && (x4 == y4 && (x5 == y5 && (x6 == y6 && (x7 == y7 && (x8 == y8 && (x9 == y9 && (x10 == y10 && true)))))))) && true)))

set_option maxHeartbeats 400000 in
theorem eqEv (w : World) (x0 x1 x2 x3 x4 x5 x6 x7 x8 x9 x10 y0 y1 y2 y3 y4 y5 y6 y7 y8 y9 y10 : Int) :
    (Op.equalIn 10000 41 (.agg #[.int .i64 x0, .int .u64 x1, .int .i64 x2, .int .i64 x3, .int .i64 x4, .int .i64 x5, .int .i64 x6, .int .i64 x7, .int .i64 x8, .int .i64 x9, .int .i64 x10])
      (.agg #[.int .i64 y0, .int .u64 y1, .int .i64 y2, .int .i64 y3, .int .i64 y4, .int .i64 y5, .int .i64 y6, .int .i64 y7, .int .i64 y8, .int .i64 y9, .int .i64 y10])).run Tryd.prog w
      = .ok (evEq x0 x1 x2 x3 x4 x5 x6 x7 x8 x9 x10 y0 y1 y2 y3 y4 y5 y6 y7 y8 y9 y10) w := by
  rw [run_equalIn_struct w 9999 41 _ _ (by kernel_rfl) (by kernel_rfl)]
  rw [show (Tryd.prog.fieldsOf 41).toList = [{ name := "Ts", type := 2, offset := 0, embedded := false, tag := "", pkgPath := "", byteOffset := 0 }, { name := "Id", type := 38, offset := 1, embedded := false, tag := "", pkgPath := "", byteOffset := 8 },
    { name := "Type", type := 3, offset := 2, embedded := false, tag := "", pkgPath := "", byteOffset := 16 }, { name := "Attrs", type := 39, offset := 3, embedded := false, tag := "", pkgPath := "", byteOffset := 24 }] by kernel_rfl]
  exact eqF_cons w (by decide) (by kernel_rfl) (by kernel_rfl) (run_equalIn_int w _ 2 .i64 .i64 _ _ Tryd.underlying2)
    (eqF_cons w (by decide) (by kernel_rfl) (by kernel_rfl) (run_equalIn_int w _ 38 .u64 .u64 _ _ Tryd.underlying38)
      (eqF_cons w (by decide) (by kernel_rfl) (by kernel_rfl) (run_equalIn_int w _ 3 .i64 .i64 _ _ Tryd.underlying3)
        (eqF_cons w (by decide) (by kernel_rfl) (by kernel_rfl) (eqArr w _ _ _ _ _ _ _ _ _ _ _ _ _ _ _ _ _) rfl)))
end Go.Proofs.YtmadafejenjkcaaDoor
