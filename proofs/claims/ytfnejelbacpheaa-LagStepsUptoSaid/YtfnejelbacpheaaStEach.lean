/- The iterator of lag.Steps: its contract. -/
import Derived.Test.YtfnejelbacpheaaSt
import Derived.Test.YtfnejelbacpheaaRf
namespace Go.Proofs.Ytfnejelbacpheaa
open Go.RowKit Go.Deep Go.Shelf
attribute [local go_sem] Oper.semAt_some
set_option linter.unusedVariables false

/-- what a round may write: block o; blocks from n0 on that hold no event -/
def RoundS (o n0 : Nat) (W : World) (k : Nat) : Prop := k = o ∨ (n0 ≤ k ∧ ∀ cs fz, W.heap[k]? ≠ some (.cells cs 38 fz))
def KpS (o n0 : Nat) (W W' : World) : Prop := Chg (RoundS o n0 W) W W'
theorem KpS.t {o n0 : Nat} {A B C : World} (h : KpS o n0 A B) (k : KpS o n0 B C) : KpS o n0 A C := by
  refine ⟨k.os.trans h.os, k.tape.trans h.tape, k.output.trans h.output, Nat.le_trans h.size k.size, fun j hj hn => ?_⟩
  have h1 := h.block j hj hn
  refine (k.block j (Nat.lt_of_lt_of_le hj h.size) (fun hk => hn ?_)).trans h1
  rcases hk with hk | ⟨hk, hk2⟩
  · exact .inl hk
  · exact .inr ⟨hk, fun cs fz => by rw [← h1]; exact hk2 cs fz⟩
theorem KpS.b {o n0 : Nat} (W : World) (l : Nat) (x x' : Obj) (hl : n0 ≤ l) (h : W.heap[l]? = some x) (hx : x.isCells = false) : KpS o n0 W (W.putObj l x') := by
  refine (Chg.of_grown (grownBy_putObj' W l x')).mono fun k hk e => ?_
  injection e with e
  subst e
  refine .inr ⟨hl, fun cs fz e => ?_⟩
  rw [h] at e
  injection e with e
  subst e
  cases hx
theorem KpS.blk {o n0 g t : Nat} {W W' : World} {cs : List Value} (h : KpS o n0 W W') (hB : Blk W g t cs) (hg : g ≠ o) (hn : g < n0) : Blk W' g t cs :=
  hB.chg h (fun hs => by rcases hs with h | h <;> omega)
theorem KpS.ev {o n0 g : Nat} {W W' : World} {cs : List Value} (h : KpS o n0 W W') (hB : Blk W g 38 cs) (hg : g ≠ o) : Blk W' g 38 cs :=
  hB.chg h (fun hs => by
    rcases hs with h | h
    · exact hg h
    · exact h.2 _ _ hB)

/-- what the iterator stands on between two rounds -/
structure EA (w wr : World) (be bl g o n0 : Nat) (A : Option Addr) (c : Nat) (l : List Ev) (n : Int) (k : Nat) (F : Nat → Prop) : Prop where
  e : Blk wr be 57 [.slice A l.length c]
  b : Blk wr bl 46 [.pointer (some ⟨g, 0, none⟩)]
  g : Blk wr g 72 [.int .i64 n, .int .i64 (lagW.topOf ((tsOf l).take k)).1, .bool (lagW.topOf ((tsOf l).take k)).2]
  r : Rd wr F (.slice A l.length c) (.sl l.length (l.flatMap evD))

namespace stW
open lagW
set_option maxRecDepth 100000 in
set_option maxHeartbeats 1000000 in
theorem each_seq (be bl g o n0 m : Nat) (A : Option Addr) (c : Nat) (l : List Ev) (n : Int) (F : Nat → Prop) (w : World) (hm : 3 ≤ m) (hl : l.length ≤ 1048576) (h0 : 0 ≤ n) (h1 : n ≤ 1099511627776)
    (hbe : be < n0 ∧ be ≠ o ∧ be ≠ g) (hbl : bl < n0 ∧ bl ≠ o ∧ bl ≠ g) (hg : g < n0 ∧ g ≠ o) (hF : ∀ b, F b → b < n0 ∧ b ≠ o ∧ b ≠ g) (hn : n0 ≤ w.heap.size) (ho : o < n0)
    (hE : EA w w be bl g o n0 A c l n 0 F) :
    SeqG Fence.wide m Try.prog 33 #[.pointer (some ⟨be, 0, none⟩), .pointer (some ⟨bl, 0, none⟩)] (fun s : St => #[.agg ⟨stV s⟩]) (KpS o n0) (fun k => k = g) (fun xs => xs = stepsTo n l l.length) (2 * l.length) w := fun lp J W hW hJ hY hJ0 => by
  have hEW : EA w W be bl g o n0 A c l n 0 F := ⟨hE.e.under hW (by omega), hE.b.under hW (by omega), hE.g.under hW (by omega), hE.r.under hW (fun b h => by have := hF b h; omega)⟩
  have hs : ∀ (q : Nat) (t : Int) (s : Bool) (x : Int) (W : World), (s = true → counts t) → Blk W g 72 [.int .i64 n, .int .i64 t, .bool s] → CallsIn Fence.wide q Try.prog 21 #[.pointer (some ⟨g, 0, none⟩), .int .i64 x] W (SeePost g n t s x W) :=
    fun q t s x W h hB => callsIn_wide.2 (see_any g n t s x W h0 h1 h hB)
  replace hs := Lib.hid hs
  refine callsIn_of_wp Try.func33 rfl trivial ?_ rfl
  simp only [Try.ntmps33, List.size_toArray, List.length_cons, List.length_nil, Nat.reduceAdd, Nat.reduceSub, Array.replicate_succ, Array.replicate_zero, List.push_toArray, List.append_toArray, List.nil_append, List.cons_append]
  have z0 : W.cell? ⟨be, 0, none⟩ = some (.slice A l.length c) := hEW.e.cell 0
  gi_wp2
  gi_loopw [10] (fun x wr => ∃ k : Nat, k ≤ l.length ∧ x = .int .i64 k ∧ J (stepsTo n l k) wr ∧ EA w wr be bl g o n0 A c l n k F ∧ n0 ≤ wr.heap.size) (fun x _ => l.length - (intOf x).toNat)
  case atStart => exact ⟨0, Nat.zero_le _, rfl, hJ0, hEW, Nat.le_trans hn hW.size⟩
  case round =>
    clear hJ0 hEW hE z0
    obtain ⟨k, hk, rfl, hJk, hE, hsz⟩ := hrel
    by_cases hlt : k < l.length
    · obtain ⟨e, he⟩ := getx hlt
      obtain ⟨b, off, rfl, hFb, hv, _⟩ := hE.r.rowv (m := 11) (fun _ => rfl) he (by omega)
      have x0 : wr.cell? ⟨b, off + k * 11, none⟩ = some (.int .i64 e.ts) := hv 0 _ rfl
      have x1 : wr.cell? ⟨b, off + k * 11 + 1, none⟩ = some (.int .u64 e.id) := hv 1 _ rfl
      have x2 : wr.cell? ⟨b, off + k * 11 + 2, none⟩ = some (.int .i64 e.typ) := hv 2 _ rfl
      have x3 : wr.cell? ⟨b, off + k * 11 + 3, none⟩ = some (.int .i64 e.a0) := hv 3 _ rfl
      have x4 : wr.cell? ⟨b, off + k * 11 + 4, none⟩ = some (.int .i64 e.a1) := hv 4 _ rfl
      have x5 : wr.cell? ⟨b, off + k * 11 + 5, none⟩ = some (.int .i64 e.a2) := hv 5 _ rfl
      have x6 : wr.cell? ⟨b, off + k * 11 + 6, none⟩ = some (.int .i64 e.a3) := hv 6 _ rfl
      have x7 : wr.cell? ⟨b, off + k * 11 + 7, none⟩ = some (.int .i64 e.a4) := hv 7 _ rfl
      have x8 : wr.cell? ⟨b, off + k * 11 + 8, none⟩ = some (.int .i64 e.a5) := hv 8 _ rfl
      have x9 : wr.cell? ⟨b, off + k * 11 + 9, none⟩ = some (.int .i64 e.a6) := hv 9 _ rfl
      have x10 : wr.cell? ⟨b, off + k * 11 + 10, none⟩ = some (.int .i64 e.a7) := hv 10 _ rfl
      have g0' : (0 : Int) ≤ (k : Int) := by omega
      have g1' : (k : Int) < l.length := by omega
      have hal : Below wr.heap.size wr (wr.alloc (.cells ⟨evV e⟩ 38)) := (Below.refl _ _).alloc (Nat.le_refl _) _
      have hEn : ∀ W', KpS o n0 (wr.alloc (.cells ⟨evV e⟩ 38)) W' → EA w W' be bl g o n0 (some ⟨b, off, none⟩) c l n k F ∧ Blk W' wr.heap.size 38 (evV e) ∧ n0 ≤ W'.heap.size := fun W' h =>
        ⟨⟨h.blk (hE.e.stay hal) hbe.2.1 hbe.1, h.blk (hE.b.stay hal) hbl.2.1 hbl.1, h.blk (hE.g.stay hal) hg.2 hg.1, (hE.r.stay hal).chg h (fun b hb _ hs => by have := hF b hb; rcases hs with h | h <;> omega)⟩,
          h.ev (Blk.new _ _ _) (by omega), Nat.le_trans (Nat.le_trans hsz hal.size) h.size⟩
      obtain ⟨fn, tmps, assign, body, hy, hR⟩ := hY (stepsTo n l k) ⟨false, 0, e⟩ (wr.alloc (.cells ⟨evV e⟩ 38)) (hJ _ _ _ hJk ((Chg.of_below hal).mono fun _ _ h => h.elim)) (by have := stepsTo_len n l k; omega)
      have hy2 : (Instr.yield lp #[.agg #[.bool false, .int .i64 0, .int .i64 e.ts, .int .u64 e.id, .int .i64 e.typ, .int .i64 e.a0, .int .i64 e.a1, .int .i64 e.a2, .int .i64 e.a3, .int .i64 e.a4, .int .i64 e.a5, .int .i64 e.a6, .int .i64 e.a7]]).run Try.prog (wr.alloc (.cells #[.int .i64 e.ts, .int .u64 e.id, .int .i64 e.typ, .int .i64 e.a0, .int .i64 e.a1, .int .i64 e.a2, .int .i64 e.a3, .int .i64 e.a4, .int .i64 e.a5, .int .i64 e.a6, .int .i64 e.a7] 38)) = .ok (.round lp fn tmps assign body) (wr.alloc (.cells #[.int .i64 e.ts, .int .u64 e.id, .int .i64 e.typ, .int .i64 e.a0, .int .i64 e.a1, .int .i64 e.a2, .int .i64 e.a3, .int .i64 e.a4, .int .i64 e.a5, .int .i64 e.a6, .int .i64 e.a7] 38)) := hy
      clear hy
      have htn := topNext he
      clear hv
      replace hEn := Lib.hid hEn
      replace htn := Lib.hid htn
      gi_wp2
      refine ⟨fun _ => by omega, hR.mono ?_⟩
      rintro e1 W2 ⟨rfl, hJ2, hk2⟩
      obtain ⟨hE2, hp2, hs2⟩ := hEn.out W2 hk2
      have z0 : W2.cell? ⟨bl, 0, none⟩ = some (.pointer (some ⟨g, 0, none⟩)) := hE2.b.cell 0
      have z1 : W2.cell? ⟨wr.heap.size, 0, none⟩ = some (.int .i64 e.ts) := hp2.cell 0
      obtain ⟨M, hM⟩ : ∃ M, M = mkAt n l k := ⟨_, rfl⟩
      obtain ⟨M', hM'⟩ : ∃ M, M = mkAt n l (k + 1) := ⟨_, rfl⟩
      have hs1 : ∀ q, CallsIn Fence.wide q Try.prog 21 #[.pointer (some ⟨g, 0, none⟩), .int .i64 e.ts] W2 fun e2 W3 => e2 = .returned (.tuple #[.int .i64 M', .bool (M' != M)]) ∧ EA w W3 be bl g o n0 (some ⟨b, off, none⟩) c l n (k + 1) F ∧ Chg (fun k => k = g) W2 W3 := fun q =>
        (hs.out q _ _ e.ts W2 (topOf_ok _) hE2.g).mono fun e2 W3 ⟨h1, h2, h3⟩ => by
          rw [show ((topOf ((tsOf l).take k)).1, (topOf ((tsOf l).take k)).2) = topOf ((tsOf l).take k) from rfl, ← htn.out] at h1 h2
          refine ⟨?_, ⟨hE2.e.chg h3 (fun h => hbe.2.2 h), hE2.b.chg h3 (fun h => hbl.2.2 h), h2, hE2.r.chg h3 (fun b hb _ h => (hF b hb).2.2 h)⟩, h3⟩
          rw [h1, hM, hM']; rfl
      replace hs1 := Lib.hid hs1
      have hstep := fun W3 (h : Chg (fun k => k = g) W2 W3) => hJ _ _ _ hJ2 h
      have hlen2 : (stepsTo n l k ++ [(⟨false, 0, e⟩ : St)]).length < 2 * l.length := by have := stepsTo_len n l k; simp; omega
      clear hp2
      by_cases hmv : M' = M
      · have hmv' : (M' != M) = false := by simp [hmv]
        have hst : stepsTo n l (k + 1) = stepsTo n l k ++ [⟨false, 0, e⟩] := stepsTo_same he (by rw [← hM, ← hM', hmv])
        replace hst := Lib.hid hst
        replace hmv := Lib.hid hmv
        replace hM := Lib.hid hM
        replace hM' := Lib.hid hM'
        gi_wp2
        refine ⟨trivial, fun _ => by omega, (hs1.out _).mono ?_⟩
        rintro e2 W3 ⟨rfl, hE3, hC3⟩
        have hJ3 := hstep W3 hC3
        have hs3 := hC3.size
        replace hE3 := Lib.hid hE3
        gi_wp2
        refine ⟨fun _ h => (by cases h), ?_⟩
        gi_wp2
        go_roundw
        case rel => exact ⟨k + 1, by omega, by go_num, by rw [hst.out]; exact hJ3, hE3.out, by omega⟩
        case measure => simp [intOf]; omega
      · have hmv' : (M' != M) = true := by simp [hmv]
        have hst : stepsTo n l (k + 1) = (stepsTo n l k ++ [⟨false, 0, e⟩]) ++ [⟨true, M', evZ⟩] := by rw [hM']; exact stepsTo_more he (by rw [← hM, ← hM']; exact hmv)
        replace hst := Lib.hid hst
        replace hmv := Lib.hid hmv
        replace hM := Lib.hid hM
        replace hM' := Lib.hid hM'
        gi_wp2
        refine ⟨trivial, fun _ => by omega, (hs1.out _).mono ?_⟩
        rintro e2 W3 ⟨rfl, hE3, hC3⟩
        obtain ⟨fn2, tmps2, assign2, body2, hyb, hRb⟩ := hY _ ⟨true, M', evZ⟩ W3 (hstep W3 hC3) hlen2
        have hyb2 : (Instr.yield lp #[.agg #[.bool true, .int .i64 M', .int .i64 0, .int .u64 0, .int .i64 0, .int .i64 0, .int .i64 0, .int .i64 0, .int .i64 0, .int .i64 0, .int .i64 0, .int .i64 0, .int .i64 0]]).run Try.prog W3 = .ok (.round lp fn2 tmps2 assign2 body2) W3 := hyb
        clear hyb
        have hs3 := hC3.size
        replace hE3 := Lib.hid hE3
        gi_wp2
        refine ⟨fun _ => by omega, hRb.mono ?_⟩
        rintro e3 W4 ⟨rfl, hJ4, hk4⟩
        have hE4 : EA w W4 be bl g o n0 (some ⟨b, off, none⟩) c l n (k + 1) F := ⟨hk4.blk hE3.out.e hbe.2.1 hbe.1, hk4.blk hE3.out.b hbl.2.1 hbl.1, hk4.blk hE3.out.g hg.2 hg.1, hE3.out.r.chg hk4 (fun b hb _ hs => by have := hF b hb; rcases hs with h | h <;> omega)⟩
        have hs4 := hk4.size
        replace hE4 := Lib.hid hE4
        gi_wp2
        go_roundw
        case rel => exact ⟨k + 1, by omega, by go_num, by rw [hst.out]; exact hJ4, hE4.out, by omega⟩
        case measure => simp [intOf]; omega
    · obtain rfl : k = l.length := by omega
      gi_wp2
      go_end0
      exact ⟨⟨_, rfl⟩, _, rfl, hJk⟩
end stW
end Go.Proofs.Ytfnejelbacpheaa
