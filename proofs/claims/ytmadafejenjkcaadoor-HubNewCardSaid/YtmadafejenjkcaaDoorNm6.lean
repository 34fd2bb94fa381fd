/- Names: the program's IsName. -/
import Derived.Test.YtmadafejenjkcaaDoorNm5
import Derived.Laws.RangeAny
import Derived.Lib.OthersKept
import Derived.Deep.MidRow
import Derived.Deep.CutBlock
import Derived.Deep.DeepCutAuto
namespace Go.Proofs.YtmadafejenjkcaaDoor
open Go.RowKit Go.Deep
set_option linter.unusedVariables false
namespace nmW

theorem KwIs.range {w : World} (h : KwIs w) : w.rangeAt 0 0 (kwds.map Value.string) := fun j v hv => by
  rw [Nat.zero_add]
  rw [List.getElem?_map, Option.map_eq_some_iff] at hv
  obtain ⟨k, hk, rfl⟩ := hv
  exact h j k hk

theorem kw_index (W : World) (m : Nat) (k : ByteArray) (hk : kwds[m]? = some k) (hm : m < 27) :
    (Instr.index 174 (.agg (kwds.map Value.string).toArray) (.int .i64 m)).run Tryd.prog W = .ok (.string k) W := by
  have g0 : (0 : Int) ≤ m := by omega
  have g1 : (m : Int) < 27 := by omega
  have hu := Tryd.underlying174
  have hc : Tryd.prog.cellsOf 9 = 1 := by kernel_rfl
  have hs : (Tryd.prog.info? 9).map (·.size) = some 1 := by kernel_rfl
  simp [Instr.index, run_underlying hu, asIntOf, hm, go_sem]
  rw [hk]
  simp [go_sem]

theorem dec_word (s : ByteArray) (p : Nat) (h : p < s.size) : wordN (Utf8.decode s p).1 = wordN s[p].toNat ∧ (wordN s[p].toNat = true → (Utf8.decode s p).2 = 1) := by
  by_cases ha : s[p].toNat < 128
  · rw [decode_ascii s p h ha]
    exact ⟨rfl, fun _ => rfl⟩
  · have := decode_high s p h (by omega)
    have e1 : wordN (Utf8.decode s p).1 = false := by simp [wordN, letN, digN]; omega
    have e2 : wordN s[p].toNat = false := by simp [wordN, letN, digN]; omega
    rw [e1, e2]
    exact ⟨rfl, fun h => by cases h⟩
theorem beq_bytes (a b : ByteArray) : (a.toList == b.toList) = decide (a = b) := by
  by_cases h : a = b
  · subst h; simp
  · rw [decide_eq_false h, beq_eq_false_iff_ne]
    intro e
    rw [ByteArray.toList_eq, ByteArray.toList_eq] at e
    exact h (ByteArray.ext (Array.ext' e))

set_option maxHeartbeats 400000 in
theorem isName_k (s : ByteArray) (w : World) (hK : KwIs w) (hs : s.size ≤ 1048576) :
    Calls Tryd.prog 55 #[.string s] w fun e w' => e = .returned (.bool (isNm s)) ∧ Below w.heap.size w w' := by
  have k1 := Lib.hid wordByte_k
  have k2 := Lib.hid upper_k
  replace hK := Lib.hid hK
  generalize hc : isNm s = b
  replace hc := Lib.hid hc
  by_cases h1 : s.size < 1
  · obtain rfl : b = false := by rw [← hc.out]; exact isNm_false fun h => by have := h.pos; omega
    have e1 : (s.toList == ([] : List UInt8)) = true := by
      rw [ByteArray.toList_eq, beq_iff_eq]
      exact List.eq_nil_of_length_eq_zero (by rw [Array.length_toList]; have : s.size = s.data.size := rfl; omega)
    go_enter Tryd.func55, Tryd.ntmps55
    go_wp2
    go_ret
    exact ⟨rfl, Below.refl _ _⟩
  have e1 : (s.toList == ([] : List UInt8)) = false := by
    rw [ByteArray.toList_eq, beq_eq_false_iff_ne]
    intro e
    have : s.data.toList.length = s.size := by rw [Array.length_toList]; rfl
    rw [e] at this
    simp at this
    omega
  by_cases h2 : 16 < s.size
  · have f2 : (16 : Int) < s.size := by omega
    obtain rfl : b = false := by rw [← hc.out]; exact isNm_false fun h => by have := h.le; omega
    go_enter Tryd.func55, Tryd.ntmps55
    go_wp2
    go_ret
    exact ⟨rfl, Below.refl _ _⟩
  have f2 : ¬ (16 : Int) < s.size := by omega
  have hpos : 0 < s.size := by omega
  have hpos' : (0 : Int) < s.size := by omega
  by_cases hd : digN (s[0]'hpos).toNat = true
  · obtain rfl : b = false := by rw [← hc.out]; exact isNm_false fun h => by have := h.dig hpos; rw [hd] at this; cases this
    simp only [digN, Bool.and_eq_true, decide_eq_true_eq] at hd
    have d1 : (48 : Int) ≤ ((s[0]'hpos).toNat : Int) := by omega
    have d2 : ((s[0]'hpos).toNat : Int) ≤ 57 := by omega
    go_enter Tryd.func55, Tryd.ntmps55
    go_wp2
    go_ret
    exact ⟨rfl, Below.refl _ _⟩
  have hd' : digN (s[0]'hpos).toNat = false := by simpa using hd
  clear hd
  have dd : ¬ (48 : Int) ≤ ((s[0]'hpos).toNat : Int) ∨ ((48 : Int) ≤ ((s[0]'hpos).toNat : Int) ∧ ¬ ((s[0]'hpos).toNat : Int) ≤ 57) := by
    have : ¬ (48 ≤ (s[0]'hpos).toNat ∧ (s[0]'hpos).toNat ≤ 57) := by
      intro h
      simp [digN] at hd'
      omega
    omega
  replace hd' := Lib.hid hd'
  rcases dd with d1 | ⟨d1, d2⟩
  all_goals
    go_enter Tryd.func55, Tryd.ntmps55
    go_wp2
    go_loopw [4] (fun _ wr => ∃ p : Nat, p ≤ s.size ∧ wr.heap[w.heap.size]? = some (.stringIter s p) ∧ Below w.heap.size w wr ∧ (∀ i (h : i < s.size), i < p → wordN s[i].toNat = true)) (fun _ wr => s.size - wr.iterPos w.heap.size)
    case atStart => exact ⟨0, Nat.zero_le _, World.iter_heap w s 0, (Below.refl _ w).alloc (Nat.le_refl _) _, fun i h h3 => by omega⟩
    case round =>
      obtain ⟨p, hp, hit, hbw, hpw⟩ := hrel
      replace hpw := Lib.hid hpw
      by_cases hlt : p < s.size
      · have hnx : ∀ ty, (Instr.next (.pointer (some ⟨w.heap.size, 0, none⟩)) true ty).run Tryd.prog wr = _ := fun ty => Lib.run_next_any_at wr w.heap.size s p ty hit hlt
        by_cases hw : wordN (s[p]'hlt).toNat = true
        · have hw1 : wordN (Utf8.decode s p).1 = true := by rw [(dec_word s p hlt).1, hw]
          have hw2 := (dec_word s p hlt).2 hw
          replace hw := Lib.hid hw
          go_wp2_with (go_at_call 43; refine (k1.out _ _).mono ?_; rw [hw1]; rintro e W ⟨rfl, hW⟩; obtain rfl := hW.symm)
          go_roundw
          case rel =>
            refine ⟨p + 1, by omega, ?_, Lib.below_iterAt hbw (Nat.le_refl _) s _, fun i h h3 => ?_⟩
            · exact Lib.iterAt_heap wr w.heap.size s p _ hit
            · by_cases hij : i = p
              · subst hij; exact hw.out
              · exact hpw.out i h (by omega)
          case measure =>
            simp only [World.iterPos, Lib.iterAt_heap wr w.heap.size s p _ hit, hit]
            omega
        · have hw' : wordN (s[p]'hlt).toNat = false := by simpa using hw
          obtain rfl : b = false := by rw [← hc.out]; exact isNm_false fun h => hw (h.word p hlt)
          have hw1 : wordN (Utf8.decode s p).1 = false := by rw [(dec_word s p hlt).1, hw']
          clear hw hw'
          go_wp2_with (go_at_call 43; refine (k1.out _ _).mono ?_; rw [hw1]; rintro e W ⟨rfl, hW⟩; obtain rfl := hW.symm)
          go_ret
          exact ⟨rfl, Lib.below_iterAt hbw (Nat.le_refl _) s _⟩
      · have hnx : ∀ ty, (Instr.next (.pointer (some ⟨w.heap.size, 0, none⟩)) true ty).run Tryd.prog wr = _ := fun ty => Lib.run_next_end_at wr w.heap.size s p ty hit hlt
        obtain rfl : p = s.size := by omega
        obtain ⟨A, hA⟩ : ∃ A, A = (kwds.map Value.string).toArray := ⟨_, rfl⟩
        have hix : ∀ (W : World) (m : Nat) (k : ByteArray), kwds[m]? = some k → m < 27 → (Instr.index 174 (.agg A) (.int .i64 m)).run Tryd.prog W = .ok (.string k) W := by
          rw [hA]
          exact kw_index
        replace hix := Lib.hid hix
        replace hA := Lib.hid hA
        go_upto_region 9 with (go_at_call 84; refine (k2.out _ (by omega) _).mono ?_; rintro e W ⟨rfl, hW⟩; have hKW := Lib.hid ((hK.out.stay hbw).stay hW); replace hW := Lib.hid (hbw.trans (hW.mono hbw.size)))
        refine wp_region_list ?_
        refine wpList_load_mid rfl 174 (.global 0) rfl 0 0 rfl (kwds.map Value.string) _ (KwIs.range hKW.out) Tryd.underlying174 rfl (by kernel_rfl) ?_
        rw [← hA.out]
        go_wp2
        go_loopw [36] (fun i wx => ∃ m : Nat, m ≤ 27 ∧ i = .int .i64 m ∧ wx = W ∧ (∀ (i : Nat) k, kwds[i]? = some k → i < m → upB s ≠ k)) (fun i _ => 27 - (intOf i).toNat)
        case atStart => exact ⟨0, Nat.zero_le _, rfl, rfl, fun i k h h3 => by omega⟩
        case round =>
          obtain ⟨m, hm, rfl, hwx, hq⟩ := hrel
          obtain rfl := hwx.symm
          replace hq := Lib.hid hq
          by_cases hlm : m < 27
          · have q0 : (0 : Int) ≤ (m : Int) := by omega
            have q1 : (m : Int) < 27 := by omega
            obtain ⟨k, hk, hkm⟩ := kwds_get hlm
            have z := hix.out W m k hk hlm
            replace hk := Lib.hid hk
            clear hkm
            by_cases hu : upB s = k
            · obtain rfl : b = false := by rw [← hc.out]; exact isNm_false fun h => h.kw m k hk.out hu
              have hu' : ((upB s).toList == k.toList) = true := by rw [beq_bytes]; exact decide_eq_true hu
              replace hu := Lib.hid hu
              go_wp2
              go_ret
              exact ⟨rfl, hW.out⟩
            · have hu' : ((upB s).toList == k.toList) = false := by rw [beq_bytes]; exact decide_eq_false hu
              replace hu := Lib.hid hu
              go_wp2
              go_roundw
              case rel =>
                refine ⟨m + 1, by omega, by go_num, by trivial, fun i k' h h3 => ?_⟩
                by_cases hij : i = m
                · subst hij
                  obtain rfl : k' = k := by have := hk.out; rw [h] at this; exact Option.some.inj this
                  exact hu.out
                · exact hq.out i k' h (by omega)
              case measure => simp [intOf]; omega
          · have q1 : ¬ (m : Int) < 27 := by omega
            obtain rfl : b = true := by
              rw [← hc.out]
              refine isNm_true ⟨by omega, by omega, fun i h => hpw.out i h (by omega), fun h => hd'.out, fun i k h => hq.out i k h ?_⟩
              have : i < kwds.length := (List.getElem?_eq_some_iff.1 h).1
              have e : kwds.length = 27 := rfl
              omega
            go_wp2
            go_ret
            exact ⟨rfl, hW.out⟩
end nmW
end Go.Proofs.YtmadafejenjkcaaDoor
