/- CascadeDerives: the law's own walk. -/
import Derived.Test.YtfnejelbacpheaaDrv2
import Derived.Test.YtfnejelbacpheaaSame
import Derived.Test.YtfnejelbacpheaaEvEq
namespace Go.Proofs.Ytfnejelbacpheaa.cascadeDerivesW
open Go.RowKit Go.Deep
set_option linter.unusedVariables false

theorem drv_any (A1 A2 A3 : Option Addr) (n1 n2 c1 c2 c3 : Nat) (F : Nat → Prop) (rule typ nth dec : Int) (vals : List (Bool × Int)) (w : World) (h4 : 0 ≤ nth) (hF : ∀ b, F b → b < w.heap.size)
    (ra : Rd w F (.slice A3 vals.length c3) (.sl vals.length (vals.flatMap valD))) :
    Calls Try.prog 14 #[.int .i64 rule, .int .i64 typ, .int .u64 nth, .agg #[.int .i64 dec, .slice A1 n1 c1, .slice A2 n2 c2, .slice A3 vals.length c3]] w (DrvPost rule typ nth dec vals w) := by
  by_cases h : fits rule typ nth dec vals
  · obtain ⟨g1, g2, g3, g5, g6, g7, g8⟩ := h
    exact drv_ok A1 A2 A3 n1 n2 c1 c2 c3 F rule typ nth dec vals w h4 hF g1 g2 g3 g5 g6 g7 g8 ra
  · exact drv_bad A1 A2 A3 n1 n2 vals.length c1 c2 c3 rule typ nth dec vals w h4 rfl (by unfold fits at h; omega)

/-- the eleven cells, one by one -/
def Cells11 (cs : List Value) (x0 x1 x2 x3 x4 x5 x6 x7 x8 x9 x10 : Int) : Prop :=
  cs = [.int .i64 x0, .int .u64 x1, .int .i64 x2, .int .i64 x3, .int .i64 x4, .int .i64 x5, .int .i64 x6, .int .i64 x7, .int .i64 x8, .int .i64 x9, .int .i64 x10]

theorem Drv.form {rule typ nth dec : Int} {vals : List (Bool × Int)} {cs : List Value} {ok : Bool} (h : Drv rule typ nth dec vals cs ok) :
    ∃ x0 x1 x2 x3 x4 x5 x6 x7 x8 x9 x10, Cells11 cs x0 x1 x2 x3 x4 x5 x6 x7 x8 x9 x10 := by
  rcases h with ⟨_, _, _, rfl⟩ | ⟨_, _, rfl⟩
  · exact ⟨_, _, _, _, _, _, _, _, _, _, _, rfl⟩
  · exact ⟨_, _, _, _, _, _, _, _, _, _, _, rfl⟩

theorem Drv.uniq {rule typ nth dec : Int} {vals : List (Bool × Int)} {cs cs' : List Value} {ok ok' : Bool} (h : Drv rule typ nth dec vals cs ok) (h' : Drv rule typ nth dec vals cs' ok') : cs = cs' ∧ ok = ok' := by
  rcases h with ⟨a, b, rfl, rfl⟩ | ⟨a, rfl, rfl⟩ <;> rcases h' with ⟨a', b', rfl, rfl⟩ | ⟨a', rfl, rfl⟩
  · exact ⟨rfl, rfl⟩
  · exact absurd ⟨a, b⟩ a'
  · exact absurd ⟨a', b'⟩ a
  · exact ⟨rfl, rfl⟩

set_option maxHeartbeats 800000 in
theorem law (A1 A2 A3 : Option Addr) (c1 c2 c3 : Nat) (rule typ nth : Int) (m : Mt) (w : World) (h4 : 0 ≤ nth) (hm : Small m)
    (r1 : Rd w (fun b => b < w.heap.size) (.slice A1 m.names.length c1) (.sl m.names.length (m.names.flatMap nameD))) (r2 : Rd w (fun b => b < w.heap.size) (.slice A2 m.lens.length c2) (.sl m.lens.length (m.lens.flatMap (intD .i64))))
    (r3 : Rd w (fun b => b < w.heap.size) (.slice A3 m.vals.length c3) (.sl m.vals.length (m.vals.flatMap valD))) :
    Calls Try.prog 5 #[.int .i64 rule, .int .i64 typ, .int .u64 nth, .agg #[.int .i64 m.dec, .slice A1 m.names.length c1, .slice A2 m.lens.length c2, .slice A3 m.vals.length c3]] w
      fun e w' => e = .returned (.bool true) ∧ Below w.heap.size w w' := by
  have hL : RdL w (fun b => b < w.heap.size) [.int .i64 m.dec, .slice A1 m.names.length c1, .slice A2 m.lens.length c2, .slice A3 m.vals.length c3] m.d := ⟨.v _ rfl, r1, r2, r3, trivial⟩
  have hone : Hid (Rd ((w.alloc (.cells ⟨[.int .i64 m.dec, .slice A1 m.names.length c1, .slice A2 m.lens.length c2, .slice A3 m.vals.length c3]⟩ 33)).alloc (.cells ⟨[.int .i64 m.dec, .slice A1 m.names.length c1, .slice A2 m.lens.length c2, .slice A3 m.vals.length c3]⟩ 33))
      (fun b => b < w.heap.size + 1 + 1) (.slice (some ⟨w.heap.size + 1, 0, none⟩) [m].length 1) (.sl [m].length ([m].flatMap Mt.d))) := by
    generalize [Value.int .i64 m.dec, .slice A1 m.names.length c1, .slice A2 m.lens.length c2, .slice A3 m.vals.length c3] = mc at hL
    have hB : Blk ((w.alloc (.cells ⟨mc⟩ 33)).alloc (.cells ⟨mc⟩ 33)) (w.heap.size + 1) 33 mc := Blk.new' (by simp)
    refine .sl _ 1 1 (w.heap.size + 1) 0 _ (fun k => (mc[k]?).getD (.bool false)) (Nat.le_refl _) (by unfold maxLen; omega) (fun _ => ⟨rfl, by omega⟩) (fun k d hd => ?_) (fun k d hd => ?_)
    · obtain ⟨u, h1, _⟩ := hL.get (by simpa using hd)
      rw [Nat.zero_add, hB.cell, h1]; rfl
    · obtain ⟨u, h1, h2⟩ := hL.get (by simpa using hd)
      rw [h1]
      exact ((h2.alloc _).alloc _).mono fun b hb _ => by omega
  clear hL
  have r1' := Lib.hid r1
  have r2' := Lib.hid r2
  have r3' := Lib.hid r3
  have hm' := hm
  unfold Small at hm'
  obtain ⟨s1, s2, s3⟩ := hm'
  clear r1 r2 r3
  go_enter Try.func5, Try.ntmps5
  go_wp2_with fail
  refine (twin_any _ _ (fun b => b < w.heap.size + 1 + 1) [m] _ (by simp) (by simpa using hm) (by simp) hone.out).mono ?_
  rintro e w1 ⟨v, rfl, hv, hb1⟩
  have hB1 : Blk w1 w.heap.size 33 [.int .i64 m.dec, .slice A1 m.names.length c1, .slice A2 m.lens.length c2, .slice A3 m.vals.length c3] := ((Blk.new _ _ _).alloc _).stay hb1
  have hb1' : Below w.heap.size w w1 := (((Below.refl _ _).alloc (Nat.le_refl _) _).alloc (by simp) _).trans (hb1.mono (by simp; omega))
  clear hb1 hone
  obtain ⟨A', c', rfl, _, _⟩ := hv.sl_inv
  obtain ⟨b, off, rfl, hFb, hc, hsl⟩ := hv.rowv (m := 4) (fun _ => rfl) (i := 0) (x := m) rfl (by omega)
  have k0 : w1.cell? ⟨b, off, none⟩ = some (.int .i64 m.dec) := by simpa using hc 0 _ rfl
  obtain ⟨B1, d1, k1, e1⟩ := hsl 1 _ _ rfl
  obtain ⟨B2, d2, k2, e2⟩ := hsl 2 _ _ rfl
  obtain ⟨B3, d3, k3, e3⟩ := hsl 3 _ _ rfl
  rw [Nat.zero_mul, Nat.add_zero] at k1 k2 k3
  have hvb := World.block_lt_of_cell? w1 _ k0
  simp at hvb hFb
  have hlt1 := hB1.lt
  replace hv := Lib.hid hv
  clear hc hsl
  have g0 : (0 : Int) < ([m].length : Int) := by simp
  go_wp2_with fail
  refine (drv_any B1 B2 B3 _ _ d1 d2 d3 (fun b => b < w1.heap.size) rule typ nth m.dec m.vals _ h4 (fun _ h => h) (e3.mono fun _ _ h => h)).mono ?_
  rintro e w2 hP
  obtain ⟨cs, ok, rfl, hd, hb2⟩ := hP
  obtain ⟨x0, x1, x2, x3, x4, x5, x6, x7, x8, x9, x10, hcs⟩ := hd.form
  unfold Cells11 at hcs
  subst hcs
  have hB2 := hB1.stay hb2
  have hb2' : Below w.heap.size w w2 := hb1'.trans (hb2.mono hb1'.size)
  have e1 := e1.stay hb2
  have e2 := e2.stay hb2
  have e3 := e3.stay hb2
  have k0 := (hb2.cell (p := ⟨b, off, none⟩) hvb).trans k0
  have k1 := (hb2.cell (p := ⟨b, off + 1, none⟩) hvb).trans k1
  have k2 := (hb2.cell (p := ⟨b, off + 2, none⟩) hvb).trans k2
  have k3 := (hb2.cell (p := ⟨b, off + 3, none⟩) hvb).trans k3
  have q0 : w2.cell? ⟨w.heap.size, 0, none⟩ = some (.int .i64 m.dec) := hB2.cell 0
  have q1 : w2.cell? ⟨w.heap.size, 1, none⟩ = some (.slice A1 m.names.length c1) := hB2.cell 1
  have q2 : w2.cell? ⟨w.heap.size, 2, none⟩ = some (.slice A2 m.lens.length c2) := hB2.cell 2
  have q3 : w2.cell? ⟨w.heap.size, 3, none⟩ = some (.slice A3 m.vals.length c3) := hB2.cell 3
  have hlt2 := hB2.lt
  have hvb2 : b < w2.heap.size := Nat.lt_of_lt_of_le hvb hb2.size
  replace hd := Lib.hid hd
  replace e1 := Lib.hid e1
  replace e2 := Lib.hid e2
  replace e3 := Lib.hid e3
  clear hb1' hb2 hB1 hlt1 hvb
  go_wp2_with fail
  refine (rdrv_any A1 A2 A3 _ _ c1 c2 c3 (fun b => b < w.heap.size) rule typ nth m.dec m.vals _ h4 (fun b h => by simp; omega) s3 ((r3'.out.under hb2' (fun _ h => h)).alloc _)).mono ?_
  rintro e w3 hP
  obtain ⟨cs', ok', rfl, hd', hb3⟩ := hP
  obtain ⟨rfl, rfl⟩ := hd.out.uniq hd'
  obtain ⟨W2, hW2⟩ : ∃ W2, W2 = w2.alloc (.cells #[.int .i64 x0, .int .u64 x1, .int .i64 x2, .int .i64 x3, .int .i64 x4, .int .i64 x5, .int .i64 x6, .int .i64 x7, .int .i64 x8, .int .i64 x9, .int .i64 x10] 38) := ⟨_, rfl⟩
  have hE : Blk W2 w2.heap.size 38 [.int .i64 x0, .int .u64 x1, .int .i64 x2, .int .i64 x3, .int .i64 x4, .int .i64 x5, .int .i64 x6, .int .i64 x7, .int .i64 x8, .int .i64 x9, .int .i64 x10] := by rw [hW2]; exact Blk.new _ _ _
  have hbW : Below w2.heap.size w2 W2 := by rw [hW2]; exact (Below.refl _ _).alloc (Nat.le_refl _) _
  rw [← hW2] at hb3
  have hb23 : Below w2.heap.size w2 w3 := hbW.trans (hb3.mono hbW.size)
  have hE3 := hE.stay hb3
  have hB3 := hB2.stay hb23
  have hb3' : Below w.heap.size w w3 := hb2'.trans (hb23.mono hb2'.size)
  have e1 := e1.out.stay hb23
  have e2 := e2.out.stay hb23
  have e3 := e3.out.stay hb23
  have k0 := (hb23.cell (p := ⟨b, off, none⟩) hvb2).trans k0
  have k1 := (hb23.cell (p := ⟨b, off + 1, none⟩) hvb2).trans k1
  have k2 := (hb23.cell (p := ⟨b, off + 2, none⟩) hvb2).trans k2
  have k3 := (hb23.cell (p := ⟨b, off + 3, none⟩) hvb2).trans k3
  have q0 : w3.cell? ⟨w.heap.size, 0, none⟩ = some (.int .i64 m.dec) := hB3.cell 0
  have q1 : w3.cell? ⟨w.heap.size, 1, none⟩ = some (.slice A1 m.names.length c1) := hB3.cell 1
  have q2 : w3.cell? ⟨w.heap.size, 2, none⟩ = some (.slice A2 m.lens.length c2) := hB3.cell 2
  have q3 : w3.cell? ⟨w.heap.size, 3, none⟩ = some (.slice A3 m.vals.length c3) := hB3.cell 3
  have hlt3 := hB3.lt
  have hlt4 := hE3.lt
  have hvb3 : b < w3.heap.size := Nat.lt_of_lt_of_le hvb2 hb23.size
  have r1 := r1'.out.under hb3' (fun _ h => h)
  have r2 := r2'.out.under hb3' (fun _ h => h)
  have r3 := r3'.out.under hb3' (fun _ h => h)
  replace r1 := Lib.hid r1
  replace r2 := Lib.hid r2
  replace r3 := Lib.hid r3
  replace e1 := Lib.hid e1
  replace e2 := Lib.hid e2
  replace e3 := Lib.hid e3
  clear hW2 hE hbW hb3 hB2 hb2' hb23 hd hd' hvb2 hlt2 r1' r2' r3'
  go_upto_region 4 with fail
  obtain ⟨W3, hW3⟩ : ∃ W3, W3 = w3.alloc (.cells #[.int .i64 x0, .int .u64 x1, .int .i64 x2, .int .i64 x3, .int .i64 x4, .int .i64 x5, .int .i64 x6, .int .i64 x7, .int .i64 x8, .int .i64 x9, .int .i64 x10] 38) := ⟨_, rfl⟩
  have hF3 : Blk W3 w3.heap.size 38 [.int .i64 x0, .int .u64 x1, .int .i64 x2, .int .i64 x3, .int .i64 x4, .int .i64 x5, .int .i64 x6, .int .i64 x7, .int .i64 x8, .int .i64 x9, .int .i64 x10] := by rw [hW3]; exact Blk.new _ _ _
  have hbW : Below w3.heap.size w3 W3 := by rw [hW3]; exact (Below.refl _ _).alloc (Nat.le_refl _) _
  rw [← hW3]
  have hE4 := hE3.stay hbW
  have hB4 := hB3.stay hbW
  have hb4 : Below w.heap.size w W3 := hb3'.trans (hbW.mono hb3'.size)
  have e1 := e1.out.stay hbW
  have e2 := e2.out.stay hbW
  have e3 := e3.out.stay hbW
  have k0 := (hbW.cell (p := ⟨b, off, none⟩) hvb3).trans k0
  have k1 := (hbW.cell (p := ⟨b, off + 1, none⟩) hvb3).trans k1
  have k2 := (hbW.cell (p := ⟨b, off + 2, none⟩) hvb3).trans k2
  have k3 := (hbW.cell (p := ⟨b, off + 3, none⟩) hvb3).trans k3
  have q0 : W3.cell? ⟨w.heap.size, 0, none⟩ = some (.int .i64 m.dec) := hB4.cell 0
  have q1 : W3.cell? ⟨w.heap.size, 1, none⟩ = some (.slice A1 m.names.length c1) := hB4.cell 1
  have q2 : W3.cell? ⟨w.heap.size, 2, none⟩ = some (.slice A2 m.lens.length c2) := hB4.cell 2
  have q3 : W3.cell? ⟨w.heap.size, 3, none⟩ = some (.slice A3 m.vals.length c3) := hB4.cell 3
  have r1 := r1.out.stay hbW
  have r2 := r2.out.stay hbW
  have r3 := r3.out.stay hbW
  have hsz4 := hb4.size
  have hcall : Hid (∀ n, Calls Try.prog 16 #[.agg #[.int .i64 m.dec, .slice B1 m.names.length d1, .slice B2 m.lens.length d2, .slice B3 m.vals.length d3], .agg #[.int .i64 m.dec, .slice A1 m.names.length c1, .slice A2 m.lens.length c2, .slice A3 m.vals.length c3]] (W3.drewN n)
      fun e w' => e = .returned (.bool true) ∧ Below W3.heap.size W3 w') := fun n =>
    by
      have hd : (W3.drewN n).heap = W3.heap := by simp
      have h := same_any B1 B2 B3 A1 A2 A3 d1 d2 d3 c1 c2 c3 (fun b => b < W3.heap.size) (fun b => b < w.heap.size) m (W3.drewN n) hm (fun b h => by rw [hd]; exact h) (fun b h => by rw [hd]; exact Nat.lt_of_lt_of_le h hsz4)
        ((e1.mono fun _ _ h => h).drewN n) ((e2.mono fun _ _ h => h).drewN n) ((e3.mono fun _ _ h => h).drewN n) (r1.drewN n) (r2.drewN n) (r3.drewN n)
      exact h.mono fun e w' h => ⟨h.1, (below_drewN (Below.refl _ _) n).trans (by rw [← hd]; exact h.2)⟩
  clear hW3 hbW hE3 hB3 hb3' e1 e2 e3 r1 r2 r3
  go_cut [14] (fun s14 wx => s14 = .bool true ∧ Below W3.heap.size W3 wx)
  case first =>
    go_region_with (go_at_call 16; refine (hcall.out 1).mono ?_; rintro e w5 ⟨rfl, hb5⟩)
    all_goals
      go_wp2_with fail
      go_meet
      exact ⟨rfl, hb5⟩
  case rest =>
    obtain ⟨rfl, hb5⟩ := hcut
    have hE5 := hE4.stay hb5
    have hF5 := hF3.stay hb5
    have hb6 := hb4.trans (hb5.mono hsz4)
    have u := hE5.cell
    have v := hF5.cell
    have u0 : wc.cell? ⟨w2.heap.size, 0, none⟩ = some (.int .i64 x0) := u 0
    have v0 : wc.cell? ⟨w3.heap.size, 0, none⟩ = some (.int .i64 x0) := v 0
    have u1 : wc.cell? ⟨w2.heap.size, 1, none⟩ = some (.int .u64 x1) := u 1
    have v1 : wc.cell? ⟨w3.heap.size, 1, none⟩ = some (.int .u64 x1) := v 1
    have u2 : wc.cell? ⟨w2.heap.size, 2, none⟩ = some (.int .i64 x2) := u 2
    have v2 : wc.cell? ⟨w3.heap.size, 2, none⟩ = some (.int .i64 x2) := v 2
    have u3 : wc.cell? ⟨w2.heap.size, 3, none⟩ = some (.int .i64 x3) := u 3
    have v3 : wc.cell? ⟨w3.heap.size, 3, none⟩ = some (.int .i64 x3) := v 3
    have u4 : wc.cell? ⟨w2.heap.size, 4, none⟩ = some (.int .i64 x4) := u 4
    have v4 : wc.cell? ⟨w3.heap.size, 4, none⟩ = some (.int .i64 x4) := v 4
    have u5 : wc.cell? ⟨w2.heap.size, 5, none⟩ = some (.int .i64 x5) := u 5
    have v5 : wc.cell? ⟨w3.heap.size, 5, none⟩ = some (.int .i64 x5) := v 5
    have u6 : wc.cell? ⟨w2.heap.size, 6, none⟩ = some (.int .i64 x6) := u 6
    have v6 : wc.cell? ⟨w3.heap.size, 6, none⟩ = some (.int .i64 x6) := v 6
    have u7 : wc.cell? ⟨w2.heap.size, 7, none⟩ = some (.int .i64 x7) := u 7
    have v7 : wc.cell? ⟨w3.heap.size, 7, none⟩ = some (.int .i64 x7) := v 7
    have u8 : wc.cell? ⟨w2.heap.size, 8, none⟩ = some (.int .i64 x8) := u 8
    have v8 : wc.cell? ⟨w3.heap.size, 8, none⟩ = some (.int .i64 x8) := v 8
    have u9 : wc.cell? ⟨w2.heap.size, 9, none⟩ = some (.int .i64 x9) := u 9
    have v9 : wc.cell? ⟨w3.heap.size, 9, none⟩ = some (.int .i64 x9) := v 9
    have u10 : wc.cell? ⟨w2.heap.size, 10, none⟩ = some (.int .i64 x10) := u 10
    have v10 : wc.cell? ⟨w3.heap.size, 10, none⟩ = some (.int .i64 x10) := v 10
    clear u v
    have heq : ∀ W, (binOp .eql 38 (.agg #[.int .i64 x0, .int .u64 x1, .int .i64 x2, .int .i64 x3, .int .i64 x4, .int .i64 x5, .int .i64 x6, .int .i64 x7, .int .i64 x8, .int .i64 x9, .int .i64 x10])
        (.agg #[.int .i64 x0, .int .u64 x1, .int .i64 x2, .int .i64 x3, .int .i64 x4, .int .i64 x5, .int .i64 x6, .int .i64 x7, .int .i64 x8, .int .i64 x9, .int .i64 x10])).run Try.prog W = .ok (.bool true) W := fun W => by
      rw [run_eql_struct, eqEv]; simp [evEq]
    go_wp2
    go_ret
    exact ⟨rfl, hb6⟩
end Go.Proofs.Ytfnejelbacpheaa.cascadeDerivesW
