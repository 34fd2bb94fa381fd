/- Derive of the document. -/
import Derived.Test.YtfnejelbacpheaaDrv
namespace Go.Proofs.Ytfnejelbacpheaa.cascadeDerivesW
open Go.RowKit Go.Deep
set_option linter.unusedVariables false

theorem attl_all {vals : List (Bool × Int)} (h : ∀ j x, vals[j]? = some x → j < vals.length → x.1 = true) : known vals = true := by
  unfold known
  rw [List.all_eq_true]
  intro x hx
  obtain ⟨j, hj⟩ := List.getElem?_of_mem hx
  exact h j x hj (List.getElem?_eq_some_iff.1 hj).1

theorem drv_unknown {rule typ nth dec : Int} {vals : List (Bool × Int)} {k : Nat} {x : Int} (hx : vals[k]? = some (false, x)) : Drv rule typ nth dec vals zeroC false :=
  .inr ⟨fun h => by
    have := h.2
    unfold known at this
    rw [List.all_eq_true] at this
    have := this _ (List.mem_of_getElem? hx)
    exact absurd this (by simp), rfl, rfl⟩
theorem drv_unfit {rule typ nth dec : Int} {vals : List (Bool × Int)} (h : ¬ fits rule typ nth dec vals) : Drv rule typ nth dec vals zeroC false :=
  .inr ⟨fun g => h g.1, rfl, rfl⟩

set_option maxHeartbeats 1600000 in
theorem rdrv_any (A1 A2 A3 : Option Addr) (n1 n2 c1 c2 c3 : Nat) (F : Nat → Prop) (rule typ nth dec : Int) (vals : List (Bool × Int)) (w : World) (h4 : 0 ≤ nth) (hF : ∀ b, F b → b < w.heap.size)
    (hn : vals.length ≤ 1048576) (ra : Rd w F (.slice A3 vals.length c3) (.sl vals.length (vals.flatMap valD))) :
    Calls Try.prog 15 #[.int .i64 rule, .int .i64 typ, .int .u64 nth, .agg #[.int .i64 dec, .slice A1 n1 c1, .slice A2 n2 c2, .slice A3 vals.length c3]] w
      (DrvPost rule typ nth dec vals w) := by
  obtain ⟨evk, hevk⟩ : ∃ evk : Nat → List Value, evk = fun k => evC 0 0 0 (attl vals k) := ⟨_, rfl⟩
  have hlen : ∀ k, (evk k).length = 11 := fun k => by rw [hevk]; exact evC_len _ _ _ _ _
  have hset : ∀ k x, vals[k]? = some x → k < 8 → evk (k + 1) = (evk k).set (3 + k) (.int .i64 x.2) := fun k x hx hk => by
    rw [hevk, show 3 + k = k + 3 by omega]
    simp only [attl_succ hx hk, evC, List.set_cons_succ, List.map_set]
  have hget : ∀ k j, j < 11 → ∃ y, (evk k)[j]? = some y := fun k j hk => ⟨_, List.getElem?_eq_getElem (by rw [hlen]; omega)⟩
  have hend : ∀ k a b c, (((evk k).set 0 (.int .i64 a)).set 1 (.int .u64 b)).set 2 (.int .i64 c) = evC a b c (attl vals k) := fun k a b c => by rw [hevk]; rfl
  replace hset := Lib.hid hset
  replace hlen := Lib.hid hlen
  replace hget := Lib.hid hget
  replace hend := Lib.hid hend
  have hev0 : evk 0 = evC 0 0 0 (attl vals 0) := by rw [hevk]
  replace hev0 := Lib.hid hev0
  clear hevk
  go_enter Try.func15, Try.ntmps15
  go_wp2
  go_loopw [12] (fun i wr => ∃ k : Nat, k ≤ vals.length ∧ k ≤ 8 ∧ i = .int .i64 k ∧ Below w.heap.size w wr ∧ Blk wr w.heap.size 33 [.int .i64 dec, .slice A1 n1 c1, .slice A2 n2 c2, .slice A3 vals.length c3] ∧ Blk wr (w.heap.size + 1) 38 zeroC ∧ Blk wr (w.heap.size + 1 + 1) 38 zeroC ∧
    Blk wr (w.heap.size + 1 + 1 + 1) 38 (evk k) ∧ Hid (∀ j x, vals[j]? = some x → j < k → x.1 = true)) (fun i _ => vals.length - (intOf i).toNat)
  case atStart =>
    refine ⟨0, Nat.zero_le _, Nat.zero_le _, rfl, ?_, ?_, ?_, ?_, ?_, fun j x _ h => by omega⟩
    · exact ((((Below.refl _ _).alloc (Nat.le_refl _) _).alloc (by simp) _).alloc (by simp; omega) _).alloc (by simp; omega) _
    · exact (((Blk.new' (cs := [.int .i64 dec, .slice A1 n1 c1, .slice A2 n2 c2, .slice A3 vals.length c3]) (by simp)).alloc _).alloc _).alloc _
    · exact ((Blk.new' (cs := zeroC) (by simp)).alloc _).alloc _
    · exact (Blk.new' (cs := zeroC) (by simp)).alloc _
    · rw [hev0.out]
      exact Blk.new' (cs := evC 0 0 0 (attl vals 0)) (by simp)
  case round =>
    obtain ⟨k, hk, hk8, rfl, hb, hm, hz, hz2, he, hkn⟩ := hrel
    have hsz := he.lt
    have m3 : wr.cell? ⟨w.heap.size, 3, none⟩ = some (.slice A3 vals.length c3) := hm.cell 3
    have m0 : wr.cell? ⟨w.heap.size, 0, none⟩ = some (.int .i64 dec) := hm.cell 0
    replace hm := Lib.hid hm
    have hz' := Lib.hid hz
    have hz2' := Lib.hid hz2
    have he' := Lib.hid he
    by_cases hlt : k < vals.length
    · obtain ⟨⟨kn, x⟩, hx⟩ := getx hlt
      obtain ⟨b, off, rfl, _, hc, _⟩ := (ra.under hb hF).rowv (m := 2) (fun _ => rfl) hx (by omega)
      have c0 : wr.cell? ⟨b, off + k * 2, none⟩ = some (.bool kn) := hc 0 _ rfl
      have c1 : wr.cell? ⟨b, off + k * 2 + 1, none⟩ = some (.int .i64 x) := hc 1 _ rfl
      have hx' := Lib.hid hx
      clear hz hz2
      cases kn
      · clear he hx hc
        go_wp2_with (first
          | (refine at_op (.load 38 (.tmp 10)) rfl ?_; refine wpList_load_blk rfl 38 (.tmp 10) rfl hz2'.out aggEv rfl ?_)
          | (refine at_op (.store 38 (.tmp 8) (.tmp 31)) rfl ?_; refine wpList_store_blk rfl 38 (.tmp 8) (.tmp 31) rfl (cs' := zeroC) hz'.out aggEv rfl rfl rfl rfl ?_; intro w1 hz1 hg1))
        exact bodyPost_cell2 (v := .bool false) rfl hz1 aggEv rfl rfl rfl (.mk zeroC false (drv_unknown hx'.out) (hb.grown hg1 hb.size (fun q hq => by injection hq with hq; omega)))
      · by_cases h8 : k < 8
        · obtain ⟨y, hy⟩ := hget.out k (3 + k) (by omega)
          have hcell : wr.cell? ⟨w.heap.size + 1 + 1 + 1, 3 + k, none⟩ = some y := by rw [he.cell, hy]
          have hfr : wr.frozen? ⟨w.heap.size + 1 + 1 + 1, 3 + k, none⟩ = false := he.frozen _
          have hs := Lib.hid (hset.out k _ hx (by omega))
          clear he hx hc hy
          go_wp2
          go_roundw
          case rel =>
            refine ⟨k + 1, by omega, by omega, by go_num, ?_, ?_, ?_, ?_, ?_, ?_⟩
            · exact hb.setCell (by simp; omega) _
            · exact hm.out.far (by simp; omega) _
            · exact hz'.out.far (by simp) _
            · exact hz2'.out.far (by simp) _
            · rw [hs.out]
              exact he'.out.set_ (3 + k) (.int .i64 x)
            · intro j y hy hj
              by_cases e : j = k
              · subst e; rw [hx'.out] at hy; injection hy with hy; subst hy; rfl
              · exact hkn.out j y hy (by omega)
          case measure => simp [intOf]; omega
        · have hno := Lib.hid (drv_unfit (rule := rule) (typ := typ) (nth := nth) (dec := dec) (vals := vals) (fun h => by unfold fits at h; omega))
          clear he hx hc
          go_wp2_with (first
            | (refine at_op (.load 38 (.tmp 10)) rfl ?_; refine wpList_load_blk rfl 38 (.tmp 10) rfl hz2'.out aggEv rfl ?_)
            | (refine at_op (.store 38 (.tmp 8) (.tmp 31)) rfl ?_; refine wpList_store_blk rfl 38 (.tmp 8) (.tmp 31) rfl (cs' := zeroC) hz'.out aggEv rfl rfl rfl rfl ?_; intro w1 hz1 hg1))
          exact bodyPost_cell2 (v := .bool false) rfl hz1 aggEv rfl rfl rfl (.mk zeroC false hno.out (hb.grown hg1 hb.size (fun q hq => by injection hq with hq; omega)))
    · have hkk : k = vals.length := by omega
      subst hkk
      have hkn' := Lib.hid (attl_all hkn.out)
      by_cases hfit : fits rule typ nth dec vals
      · have hfit' := Lib.hid hfit
        obtain ⟨g1, g2, g3, g5, g6, g7, g8⟩ := hfit
        obtain ⟨y0, hy0⟩ := hget.out vals.length 0 (by omega)
        obtain ⟨y1, hy1⟩ := hget.out vals.length 1 (by omega)
        obtain ⟨y2, hy2⟩ := hget.out vals.length 2 (by omega)
        have e0 : wr.cell? ⟨w.heap.size + 1 + 1 + 1, 0, none⟩ = some y0 := by rw [he.cell, hy0]
        have e1 : wr.cell? ⟨w.heap.size + 1 + 1 + 1, 1, none⟩ = some y1 := by rw [he.cell, hy1]
        have e2 : wr.cell? ⟨w.heap.size + 1 + 1 + 1, 2, none⟩ = some y2 := by rw [he.cell, hy2]
        have f0 : wr.frozen? ⟨w.heap.size + 1 + 1 + 1, 0, none⟩ = false := he.frozen _
        have f1 : wr.frozen? ⟨w.heap.size + 1 + 1 + 1, 1, none⟩ = false := he.frozen _
        have f2 : wr.frozen? ⟨w.heap.size + 1 + 1 + 1, 2, none⟩ = false := he.frozen _
        clear he hz hz2 hy0 hy1 hy2
        have hW : Hid (Blk (((wr.setCell ⟨w.heap.size + 1 + 1 + 1, 0, none⟩ (.int .i64 dec)).setCell ⟨w.heap.size + 1 + 1 + 1, 1, none⟩ (.int .u64 (9223372036854775808 + 281474976710656 * rule + nth))).setCell ⟨w.heap.size + 1 + 1 + 1, 2, none⟩ (.int .i64 typ))
            (w.heap.size + 1 + 1 + 1) 38 (evC dec (9223372036854775808 + 281474976710656 * rule + nth) typ (attl vals vals.length))) := by
          rw [← hend.out]
          exact ((he'.out.set_ 0 _).set_ 1 _).set_ 2 _
        have hB : Hid (Below w.heap.size w (((wr.setCell ⟨w.heap.size + 1 + 1 + 1, 0, none⟩ (.int .i64 dec)).setCell ⟨w.heap.size + 1 + 1 + 1, 1, none⟩ (.int .u64 (9223372036854775808 + 281474976710656 * rule + nth))).setCell ⟨w.heap.size + 1 + 1 + 1, 2, none⟩ (.int .i64 typ))) :=
          ((hb.setCell (by simp; omega) _).setCell (by simp; omega) _).setCell (by simp; omega) _
        have hZ : Hid (Blk (((wr.setCell ⟨w.heap.size + 1 + 1 + 1, 0, none⟩ (.int .i64 dec)).setCell ⟨w.heap.size + 1 + 1 + 1, 1, none⟩ (.int .u64 (9223372036854775808 + 281474976710656 * rule + nth))).setCell ⟨w.heap.size + 1 + 1 + 1, 2, none⟩ (.int .i64 typ))
            (w.heap.size + 1) 38 zeroC) := ((hz'.out.far (by simp) _).far (by simp) _).far (by simp) _
        have hfin : Hid (Drv rule typ nth dec vals (evC dec (9223372036854775808 + 281474976710656 * rule + nth) typ (attl vals vals.length)) true) :=
          .inl ⟨hfit'.out, hkn'.out, rfl, by rw [Int.mul_comm 281474976710656 rule]⟩
        have hpost : Hid (∀ W w1 : World, Below w.heap.size w W → W.grownBy w1 (some (w.heap.size + 1)) → DrvPost rule typ nth dec vals w (.returned (.tuple #[.agg ⟨evC dec (9223372036854775808 + 281474976710656 * rule + nth) typ (attl vals vals.length)⟩, .bool true])) w1) :=
          fun W w1 hB hg => .mk _ true hfin.out (hB.grown hg hB.size (fun q hq => by injection hq with hq; omega))
        clear he' hz' hz2' hm hkn
        go_wp2_with (first
          | (refine at_op (.load 38 (.tmp 11)) rfl ?_; refine wpList_load_blk rfl 38 (.tmp 11) rfl hW.out (by rw [evC_len]; exact aggEv) rfl ?_)
          | (refine at_op (.store 38 (.tmp 8) (.tmp 78)) rfl ?_; refine wpList_store_blk rfl 38 (.tmp 8) (.tmp 78) rfl (cs' := evC dec (9223372036854775808 + 281474976710656 * rule + nth) typ (attl vals vals.length)) hZ.out (by rw [evC_len]; exact aggEv) (by rw [evC_len]; rfl) rfl rfl (evC_one _ _ _ _) ?_; intro w1 hz1 hg1))
        exact bodyPost_cell2 (v := .bool true) rfl hz1 (by rw [evC_len]; exact aggEv) rfl rfl rfl (hpost.out _ _ hB.out hg1)
      · have hno := Lib.hid (drv_unfit hfit)
        have hbad : (dec < -1152921504606846976) ∨ (-1152921504606846976 ≤ dec ∧ 1152921504606846976 < dec) ∨ (-1152921504606846976 ≤ dec ∧ dec ≤ 1152921504606846976 ∧ rule < 0) ∨ (-1152921504606846976 ≤ dec ∧ dec ≤ 1152921504606846976 ∧ 0 ≤ rule ∧ 8 ≤ rule) ∨
            (-1152921504606846976 ≤ dec ∧ dec ≤ 1152921504606846976 ∧ 0 ≤ rule ∧ rule < 8 ∧ 281474976710655 < nth) ∨ (-1152921504606846976 ≤ dec ∧ dec ≤ 1152921504606846976 ∧ 0 ≤ rule ∧ rule < 8 ∧ nth ≤ 281474976710655 ∧ typ < 0) := by
          unfold fits at hfit; omega
        clear hfit he hz hz2 hm hkn
        rcases hbad with h | ⟨g1, h⟩ | ⟨g1, g2, h⟩ | ⟨g1, g2, g3, h⟩ | ⟨g1, g2, g3, g5, h⟩ | ⟨g1, g2, g3, g5, g6, h⟩
        all_goals
          go_wp2_with (first
            | (refine at_op (.load 38 (.tmp 10)) rfl ?_; refine wpList_load_blk rfl 38 (.tmp 10) rfl hz2'.out aggEv rfl ?_)
            | (refine at_op (.store 38 (.tmp 8) (.tmp 65)) rfl ?_; refine wpList_store_blk rfl 38 (.tmp 8) (.tmp 65) rfl (cs' := zeroC) hz'.out aggEv rfl rfl rfl rfl ?_; intro w1 hz1 hg1))
          exact bodyPost_cell2 (v := .bool false) rfl hz1 aggEv rfl rfl rfl (.mk zeroC false hno.out (hb.grown hg1 hb.size (fun q hq => by injection hq with hq; omega)))
end Go.Proofs.Ytfnejelbacpheaa.cascadeDerivesW
