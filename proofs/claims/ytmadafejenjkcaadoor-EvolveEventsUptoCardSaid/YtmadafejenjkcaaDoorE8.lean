/- EvolveEvents: the walk of the law. -/
import Derived.Test.YtmadafejenjkcaaDoorE6
import Derived.Test.YtmadafejenjkcaaDoorX7
import Derived.Test.YtmadafejenjkcaaDoorEvEq
import Derived.Great.Walk
namespace Go.Proofs.YtmadafejenjkcaaDoor
open Go.RowKit Go.Deep
set_option linter.unusedVariables false
theorem eqEvV (w : World) (E : Ev) : (binOp .eql 41 (.agg ⟨evV E⟩) (.agg ⟨evV E⟩)).run Tryd.prog w = .ok (.bool true) w := by
  show (binOp .eql 41 (.agg #[.int .i64 E.ts, .int .u64 E.id, .int .i64 E.typ, .int .i64 E.a0, .int .i64 E.a1, .int .i64 E.a2, .int .i64 E.a3, .int .i64 E.a4, .int .i64 E.a5, .int .i64 E.a6, .int .i64 E.a7]) (.agg #[.int .i64 E.ts, .int .u64 E.id, .int .i64 E.typ, .int .i64 E.a0, .int .i64 E.a1, .int .i64 E.a2, .int .i64 E.a3, .int .i64 E.a4, .int .i64 E.a5, .int .i64 E.a6, .int .i64 E.a7])).run Tryd.prog w = _
  rw [run_eql_struct, eqEv]; simp [evEq]
theorem ex_eq {w : World} {E : Ev} {o : Oper} {ev : Operand → Value} {x y : Operand} (ho : o.op = .binOp .eql 41 x y 41) (hx : (ev x, ev y) = (.agg ⟨evV E⟩, .agg ⟨evV E⟩)) : (execOp ev o).run Tryd.prog w = .ok (.value (.bool true)) w := by
  injection hx with h1 h2
  have h := eqEvV w E
  have hg : (eqGuard .eql 41 x y (.agg ⟨evV E⟩) (.agg ⟨evV E⟩)).run Tryd.prog w = .ok () w := by
    have hf : Tryd.prog.eqGuardType Tryd.prog.depth 41 = false := by kernel_rfl
    simp [eqGuard, hf, go_sem]
  simp only [execOp, ho, h1, h2, Sem.run_bind, hg, h, Result.andThen_ok]
  rfl
/-- the frame: the boxes of the law, the twins -/
structure QS (w wr : World) (g7 : Nat) (vS vB v2 vl2 : Value) (e : Ev) (S : List Td) (L : List Cg) : Prop where
  hb : Below w.heap.size w wr
  b3 : Blk wr w.heap.size 24 [vS]
  b5 : Blk wr (w.heap.size + 1) 41 (evV e)
  b7 : Blk wr g7 24 [v2]
  r0 : Rd wr (fun b => b < wr.heap.size) vS (.sl S.length (S.flatMap tdD))
  r1 : Rd wr (fun b => b < wr.heap.size) vB (.sl L.length (L.flatMap cgD))
  r2 : Rd wr (fun b => b < wr.heap.size) v2 (.sl S.length (S.flatMap tdD))
  r3 : Rd wr (fun b => b < wr.heap.size) vl2 (.sl L.length (L.flatMap cgD))
theorem Rd.all {w w2 : World} {v : Value} {d : D} (h : Rd w (fun b => b < w.heap.size) v d) (hb : Below w.heap.size w w2) : Rd w2 (fun b => b < w2.heap.size) v d :=
  (h.under hb (fun b h => h)).mono fun b h _ => Nat.lt_of_lt_of_le h hb.size
theorem QS.stay {w wr w2 : World} {g7 : Nat} {vS vB v2 vl2 : Value} {e : Ev} {S : List Td} {L : List Cg} (h : QS w wr g7 vS vB v2 vl2 e S L) (hb : Below wr.heap.size wr w2) : QS w w2 g7 vS vB v2 vl2 e S L :=
  ⟨h.hb.trans (hb.mono h.hb.size), h.b3.stay hb, h.b5.stay hb, h.b7.stay hb, h.r0.all hb, h.r1.all hb, h.r2.all hb, h.r3.all hb⟩
def XR (S : List Td) (L : List Cg) (e : Ev) (E : Ev) (b : Bool) (T : Option (List Kd)) (code at_ : Int) : Prop := MdIs S L T code at_ ∧ E = (evR S T e).1 ∧ b = (evR S T e).2
theorem XR.uniq {S : List Td} {L : List Cg} {e E E' : Ev} {b b' : Bool} {T T' : Option (List Kd)} {c a c' a' : Int} (h : XR S L e E b T c a) (h' : XR S L e E' b' T' c' a') : E' = E ∧ b' = b := by
  obtain ⟨h1, h2, h3⟩ := h
  obtain ⟨g1, g2, g3⟩ := h'
  obtain ⟨rfl, _, _⟩ := h1.uniq g1
  exact ⟨by rw [g2, h2], by rw [g3, h3]⟩
theorem EvPost.xr {S : List Td} {L : List Cg} {e : Ev} {w w' : World} {x : Ending} (h : EvPost S L e w x w') : ∃ E b T c a, x = .returned (.tuple #[.agg ⟨evV E⟩, .bool b]) ∧ XR S L e E b T c a ∧ Below w.heap.size w w' := by
  obtain ⟨T, c, a, hM, rfl, hb⟩ := h
  exact ⟨_, _, T, c, a, rfl, ⟨hM, rfl, rfl⟩, hb⟩
namespace evW
open nmW
set_option maxRecDepth 100000 in
set_option maxHeartbeats 8000000 in
theorem lawE_k (A B : Option Addr) (ca cb : Nat) (F G : Nat → Prop) (S : List Td) (L : List Cg) (e : Ev) (hS : SzT S) (hL : L.length ≤ 1048576) (hC : ∀ c ∈ L, SzC c) (w : World) (hK : KwIs w) (hF : ∀ b, F b → b < w.heap.size) (hG : ∀ b, G b → b < w.heap.size)
    (r : Rd w F (.slice A S.length ca) (.sl S.length (S.flatMap tdD))) (rc : Rd w G (.slice B L.length cb) (.sl L.length (L.flatMap cgD))) :
    Calls Tryd.prog 4 #[.agg #[.slice A S.length ca], .slice B L.length cb, .agg #[.int .i64 e.ts, .int .u64 e.id, .int .i64 e.typ, .int .i64 e.a0, .int .i64 e.a1, .int .i64 e.a2, .int .i64 e.a3, .int .i64 e.a4, .int .i64 e.a5, .int .i64 e.a6, .int .i64 e.a7]] w fun x w' => x = .returned (.bool true) ∧ Below w.heap.size w w' := by
  obtain ⟨W0, hW0⟩ : ∃ W0, W0 = (w.alloc (.cells ⟨[.slice A S.length ca]⟩ 24)).alloc (.cells ⟨evV e⟩ 41) := ⟨_, rfl⟩
  have h0 : Below w.heap.size w W0 := by rw [hW0]; exact ((Below.refl _ _).alloc (Nat.le_refl _) _).alloc (by simp) _
  have x3 : Blk W0 w.heap.size 24 [.slice A S.length ca] := by rw [hW0]; exact (Blk.new _ _ _).alloc _
  have x5 : Blk W0 (w.heap.size + 1) 41 (evV e) := by rw [hW0]; exact Blk.new' (by simp)
  have k1 := twinSchema_k A ca F S hS W0 (fun b hb => Nat.lt_of_lt_of_le (hF b hb) h0.size) (r.under h0 hF)
  have k2 := fun (W : World) (hW : Below w.heap.size w W) => twinChanges_k B cb G L hL hC W (fun b hb => Nat.lt_of_lt_of_le (hG b hb) hW.size) (rc.under hW hG)
  have k3 := fun (W : World) (hW : Below w.heap.size w W) => Event_k A B ca cb F G S L e hS hL hC W (hK.stay hW) (fun b hb => Nat.lt_of_lt_of_le (hF b hb) hW.size) (fun b hb => Nat.lt_of_lt_of_le (hG b hb) hW.size) (r.under hW hF) (rc.under hW hG)
  have k4 := fun (W : World) (hW : Below w.heap.size w W) (A' B' : Option Addr) (c' d' : Nat) (r1 : Rd W (fun b => b < W.heap.size) (.slice A' S.length c') (.sl S.length (S.flatMap tdD))) (r2 : Rd W (fun b => b < W.heap.size) (.slice B' L.length d') (.sl L.length (L.flatMap cgD))) =>
    refEvent_k A' B' c' d' _ _ S L e hS hL hC W (hK.stay hW) (fun _ h => h) (fun _ h => h) r1 r2
  have k5 := fun (W : World) (A' B' : Option Addr) (c' d' : Nat) (r1 : Rd W (fun b => b < W.heap.size) (.slice A' S.length c') (.sl S.length (S.flatMap tdD))) (r2 : Rd W (fun b => b < W.heap.size) (.slice B' S.length d') (.sl S.length (S.flatMap tdD))) =>
    sameSchema_k A' B' c' d' _ _ S hS.1 (fun t ht => (hS.2 t ht).2.1) W (fun _ h => h) (fun _ h => h) r1 r2
  have k6 := fun (W : World) (A' B' : Option Addr) (c' d' : Nat) (r1 : Rd W (fun b => b < W.heap.size) (.slice A' L.length c') (.sl L.length (L.flatMap cgD))) (r2 : Rd W (fun b => b < W.heap.size) (.slice B' L.length d') (.sl L.length (L.flatMap cgD))) =>
    sameChanges_k A' B' c' d' _ _ L hL hC W (fun _ h => h) (fun _ h => h) r1 r2
  have hr0 := Lib.hid (show Rd w (fun b => b < w.heap.size) (.slice A S.length ca) (.sl S.length (S.flatMap tdD)) from r.mono fun b _ h => h)
  have hr1 := Lib.hid (show Rd w (fun b => b < w.heap.size) (.slice B L.length cb) (.sl L.length (L.flatMap cgD)) from rc.mono fun b _ h => h)
  rw [hW0] at k1
  replace k1 := Lib.hid k1
  replace k2 := Lib.hid k2
  replace k3 := Lib.hid k3
  replace k4 := Lib.hid k4
  replace k5 := Lib.hid k5
  replace k6 := Lib.hid k6
  replace h0 := Lib.hid h0
  replace x3 := Lib.hid x3
  replace x5 := Lib.hid x5
  clear r rc hK hF hG hS hL hC
  go_enter Tryd.func4, Tryd.ntmps4
  go_upto_region 2 with (go_at_call 6; refine k1.out.mono ?_; rintro x w1 ⟨v1, rfl, hO1, hB1⟩; obtain ⟨A1, c1, rfl⟩ := hO1.form; rw [← hW0] at hB1 hO1)
  have n1 : w.heap.size + 1 < w1.heap.size := (x5.out.stay hB1).lt
  have bw1 : Below w.heap.size w (w1.alloc (.cells ⟨[.slice A1 S.length c1]⟩ 24)) := (h0.out.trans (hB1.mono h0.out.size)).alloc ((h0.out.trans (hB1.mono h0.out.size)).size) _
  have m3 := Lib.hid ((x3.out.stay hB1).alloc (.cells ⟨[.slice A1 S.length c1]⟩ 24))
  have m5 := Lib.hid ((x5.out.stay hB1).alloc (.cells ⟨[.slice A1 S.length c1]⟩ 24))
  have m7 : Blk (w1.alloc (.cells ⟨[.slice A1 S.length c1]⟩ 24)) w1.heap.size 24 [.slice A1 S.length c1] := Blk.new _ _ _
  have q2 : Rd (w1.alloc (.cells ⟨[.slice A1 S.length c1]⟩ 24)) (fun b => b < w1.heap.size) (.slice A1 S.length c1) (.sl S.length (S.flatMap tdD)) := (hO1.rd (G := fun b => b < w1.heap.size) (fun b _ h => h) (fun b _ h => h)).alloc _
  replace m7 := Lib.hid m7
  replace q2 := Lib.hid q2
  replace bw1 := Lib.hid bw1
  clear hO1 hB1 k1 x3 x5 hW0
  go_upto_region 3 with (go_at_call 7; refine (k2.out _ bw1.out).mono ?_; rintro x w2 ⟨v2, rfl, hO2, hB2⟩; obtain ⟨A2, c2, rfl⟩ := hO2.form)
  have bw2 := bw1.out.trans (hB2.mono bw1.out.size)
  have hQ : QS w w2 w1.heap.size (.slice A S.length ca) (.slice B L.length cb) (.slice A1 S.length c1) (.slice A2 L.length c2) e S L :=
    ⟨bw2, m3.out.stay hB2, m5.out.stay hB2, m7.out.stay hB2, (hr0.out.under bw2 (fun b h => h)).mono (fun b h _ => Nat.lt_of_lt_of_le h bw2.size), (hr1.out.under bw2 (fun b h => h)).mono (fun b h _ => Nat.lt_of_lt_of_le h bw2.size),
      (q2.out.stay hB2).mono (fun b h _ => by have := (m7.out.stay hB2).lt; omega), hO2.rd (fun b _ h => h) (fun b _ h => h)⟩
  have n2 : w1.heap.size < w2.heap.size := hQ.b7.lt
  have y3 : w2.cell? ⟨w.heap.size, 0, none⟩ = some (.slice A S.length ca) := hQ.b3.cell 0
  replace hQ := Lib.hid hQ
  clear hO2 hB2 k2 m3 m5 m7 q2 bw1 bw2 hr0 hr1 h0
  go_upto_region 4 with (first
    | (refine at_op (.load 41 (.tmp 5)) rfl ?_; refine wpList_load_blk rfl 41 (.tmp 5) rfl hQ.out.b5 aggEv rfl ?_)
    | (go_at_call 13; refine (k3.out _ hQ.out.hb).mono ?_; intro x w3 hP; obtain ⟨E, b, T, c, a, rfl, hX, hB3⟩ := hP.xr; clear hP)
    | (refine at_op (.store 41 (.tmp 9) (.tmp 22)) rfl ?_; refine wpList_store_blk rfl 41 (.tmp 9) (.tmp 22) rfl (cs' := evV E) (Blk.new' (cs := evV zeroE) rfl) aggEv rfl rfl rfl rfl ?_; intro w4 hz4 hg4))
  have hd4 : Below w3.heap.size w3 w4 := by
    have h1 : Below w3.heap.size w3 (w3.alloc (.cells ⟨evV zeroE⟩ 41)) := (Below.refl _ _).alloc (Nat.le_refl _) _
    exact h1.grown hg4 h1.size (fun q hq => by injection hq with hq; omega)
  have hQ4 := (hQ.out.stay hB3).stay hd4
  have n3 : w2.heap.size ≤ w3.heap.size := hB3.size
  have n4 : w3.heap.size < w4.heap.size := hz4.lt
  have y7 : w4.cell? ⟨w1.heap.size, 0, none⟩ = some (.slice A1 S.length c1) := hQ4.b7.cell 0
  replace hQ4 := Lib.hid hQ4
  replace hz4 := Lib.hid hz4
  replace hX := Lib.hid hX
  clear hB3 hg4 hd4 y3 hQ k3
  go_upto_region 5 with (first
    | (refine at_op (.load 41 (.tmp 5)) rfl ?_; refine wpList_load_blk rfl 41 (.tmp 5) rfl hQ4.out.b5 aggEv rfl ?_)
    | (go_at_call 14; refine (k4.out _ hQ4.out.hb _ _ _ _ hQ4.out.r2 hQ4.out.r3).mono ?_; intro x w5 hP; obtain ⟨E', b', T', c', a', rfl, hX', hB5⟩ := hP.xr; clear hP; obtain ⟨e1, e2⟩ := hX.out.uniq hX'; obtain rfl := e1.symm; obtain rfl := e2.symm)
    | (refine at_op (.store 41 (.tmp 11) (.tmp 29)) rfl ?_; refine wpList_store_blk rfl 41 (.tmp 11) (.tmp 29) rfl (cs' := evV E) (Blk.new' (cs := evV zeroE) rfl) aggEv rfl rfl rfl rfl ?_; intro w6 hz6 hg6))
  have hd6 : Below w5.heap.size w5 w6 := by
    have h1 : Below w5.heap.size w5 (w5.alloc (.cells ⟨evV zeroE⟩ 41)) := (Below.refl _ _).alloc (Nat.le_refl _) _
    exact h1.grown hg6 h1.size (fun q hq => by injection hq with hq; omega)
  have hQ6 := (hQ4.out.stay hB5).stay hd6
  have z4 := (hz4.out.stay hB5).stay hd6
  have y3 : w6.cell? ⟨w.heap.size, 0, none⟩ = some (.slice A S.length ca) := hQ6.b3.cell 0
  have y7' : w6.cell? ⟨w1.heap.size, 0, none⟩ = some (.slice A1 S.length c1) := hQ6.b7.cell 0
  have hbb : (b == b) = true := by simp
  replace hQ6 := Lib.hid hQ6
  replace hz6 := Lib.hid hz6
  replace z4 := Lib.hid z4
  clear hB5 hg6 hd6 hQ4 k4 hX hX' y7 hz4
  go_wp2_with (first
    | (refine at_op (.load 41 (.tmp 9)) rfl ?_; refine wpList_load_blk rfl 41 (.tmp 9) rfl z4.out aggEv rfl ?_)
    | (refine at_op (.load 41 (.tmp 11)) rfl ?_; refine wpList_load_blk rfl 41 (.tmp 11) rfl hz6.out aggEv rfl ?_)
    | (refine at_op (.binOp .eql 41 (.tmp 31) (.tmp 32) 41) rfl ?_; refine Go.Great.wpList_readTo rfl _ rfl (.bool true) (ex_eq rfl rfl) ?_)
    | (go_at_call 10; refine (k5.out _ _ _ _ _ hQ6.out.r0 hQ6.out.r2).mono ?_; rintro x w7 ⟨rfl, hB7⟩; have hQ7 := Lib.hid (hQ6.out.stay hB7))
    | (go_at_call 12; refine (k6.out _ _ _ _ _ hQ7.out.r1 hQ7.out.r3).mono ?_; rintro x w8 ⟨rfl, hB8⟩; have hQ8 := hQ7.out.stay hB8))
  go_ret
  exact ⟨rfl, hQ8.hb⟩
end evW
end Go.Proofs.YtmadafejenjkcaaDoor
