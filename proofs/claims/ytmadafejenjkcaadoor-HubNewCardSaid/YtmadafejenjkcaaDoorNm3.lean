/- Names: alike. -/
import Derived.Test.YtmadafejenjkcaaDoorNm2
namespace Go.Proofs.YtmadafejenjkcaaDoor
open Go.RowKit Go.Deep
set_option linter.unusedVariables false

def upU (b : UInt8) : UInt8 := if 97 ≤ b.toNat ∧ b.toNat ≤ 122 then b - 32 else b
def upB (s : ByteArray) : ByteArray := ⟨s.data.map upU⟩

theorem up_toNat (x : UInt8) : (upU x).toNat = if 97 ≤ x.toNat ∧ x.toNat ≤ 122 then x.toNat - 32 else x.toNat := by
  unfold upU
  split
  · rename_i h
    rw [UInt8.toNat_sub_of_le _ _ (by rw [UInt8.le_iff_toNat_le]; simp; omega)]
    rfl
  · rfl

theorem up_iff (x y : UInt8) (h : 65 ≤ y.toNat ∧ y.toNat ≤ 90) : upU x = y ↔ letN x.toNat = true ∧ x.toNat % 32 = y.toNat % 32 := by
  rw [← UInt8.toNat_inj, up_toNat]
  simp only [letN, Bool.or_eq_true, Bool.and_eq_true, decide_eq_true_eq]
  have := x.toNat_lt
  split <;> omega

theorem upB_eq (s k : ByteArray) : upB s = k ↔ s.size = k.size ∧ ∀ i (h : i < s.size) (h2 : i < k.size), upU s[i] = k[i] := by
  constructor
  · rintro rfl
    refine ⟨by show s.data.size = (s.data.map upU).size; simp, fun i h h2 => ?_⟩
    show _ = (s.data.map upU)[i]'(by simpa using h)
    rw [Array.getElem_map]
    rfl
  · rintro ⟨h1, h2⟩
    apply ByteArray.ext
    apply Array.ext
    · show (s.data.map upU).size = _
      simpa using h1
    · intro i h3 h4
      have h5 : i < s.size := by
        have : i < (s.data.map upU).size := h3
        simpa using this
      have h6 : i < (s.data.map upU).size := h3
      show (s.data.map upU)[i]'h6 = _
      rw [Array.getElem_map]
      exact h2 i h5 h4

namespace nmW
set_option maxHeartbeats 800000 in
theorem alike_k (s k : ByteArray) (hk : ∀ i (h : i < k.size), 65 ≤ k[i].toNat ∧ k[i].toNat ≤ 90) (hs : s.size ≤ 1048576) (w : World) :
    Calls Tryd.prog 121 #[.string s, .string k] w fun e w' => e = .returned (.bool (decide (upB s = k))) ∧ w' = w := by
  have k1 := Lib.hid letter_k
  have hb := Lib.hid (upB_eq s k)
  by_cases hsz : s.size = k.size
  · have hsz' : (s.size : Int) = k.size := by omega
    generalize hc : decide (upB s = k) = b
    replace hc := Lib.hid hc
    go_enter Tryd.func121, Tryd.ntmps121
    go_wp2
    go_loopw [5] (fun i wr => ∃ j : Nat, j ≤ s.size ∧ i = .int .i64 j ∧ wr = w ∧ (∀ i (h : i < s.size) (h2 : i < k.size), i < j → upU s[i] = k[i])) (fun i _ => s.size - (intOf i).toNat)
    case atStart => exact ⟨0, Nat.zero_le _, rfl, rfl, fun i h h2 h3 => by omega⟩
    case round =>
      obtain ⟨j, hj, rfl, rfl, hp⟩ := hrel
      replace hp := Lib.hid hp
      by_cases hlt : j < s.size
      · have hlk : j < k.size := by omega
        have g0 : (0 : Int) ≤ (j : Int) := by omega
        have g1 : (j : Int) < s.size := by omega
        have g2 : (j : Int) < k.size := by omega
        have hy := hk j hlk
        have ly : letN (k[j]'hlk).toNat = true := by simp [letN]; omega
        by_cases hu : upU (s[j]'hlt) = k[j]'hlk
        · have hu2 := (up_iff _ _ hy).1 hu
          have lx := hu2.1
          have e1 : ((((s[j]'hlt).toNat : Int) % 32) != (((k[j]'hlk).toNat : Int) % 32)) = false := by
            rw [bne_eq_false_iff_eq]; omega
          replace hu := Lib.hid hu
          clear hu2 hy
          go_wp2_with (go_at_call 95; refine (k1.out _ _).mono ?_; rintro e W ⟨rfl, rfl⟩)
          go_roundw
          case rel =>
            refine ⟨j + 1, by omega, by go_num, by trivial, fun i h h2 h3 => ?_⟩
            by_cases hij : i = j
            · subst hij; exact hu.out
            · exact hp.out i h h2 (by omega)
          case measure => simp [intOf]; omega
        · have hf : decide (upB s = k) = false := by
            rw [decide_eq_false_iff_not, upB_eq]
            exact fun h => hu (h.2 j hlt hlk)
          obtain rfl : b = false := by rw [← hc.out, hf]
          by_cases lx : letN (s[j]'hlt).toNat = true
          · have e1 : ((((s[j]'hlt).toNat : Int) % 32) != (((k[j]'hlk).toNat : Int) % 32)) = true := by
              rw [bne_iff_ne]
              intro he
              exact hu ((up_iff _ _ hy).2 ⟨lx, by omega⟩)
            clear hu hy hf
            go_wp2_with (go_at_call 95; refine (k1.out _ _).mono ?_; rintro e W ⟨rfl, rfl⟩)
            go_ret
            exact ⟨rfl, rfl⟩
          · have lx' : letN (s[j]'hlt).toNat = false := by simpa using lx
            have e1 : ((((s[j]'hlt).toNat : Int)) != (((k[j]'hlk).toNat : Int))) = true := by
              rw [bne_iff_ne]
              intro he
              have he2 : (s[j]'hlt).toNat = (k[j]'hlk).toNat := by omega
              rw [he2] at lx'
              rw [ly] at lx'
              cases lx'
            clear hu hy hf lx
            go_wp2_with (go_at_call 95; refine (k1.out _ _).mono ?_; rintro e W ⟨rfl, rfl⟩)
            go_ret
            exact ⟨rfl, rfl⟩
      · have g1 : ¬ (j : Int) < k.size := by omega
        have g2 : ¬ j < k.size := by omega
        have g3 : decide (j < k.size) = false := decide_eq_false g2
        go_wp2
        go_ret
        refine ⟨?_, rfl⟩
        rw [← hc.out, decide_eq_true (hb.out.2 ⟨hsz, fun i h h2 => hp.out i h h2 (by omega)⟩)]
        rfl
  · have hsz' : ¬ (s.size : Int) = k.size := by omega
    have hf : decide (upB s = k) = false := by
      rw [decide_eq_false_iff_not, upB_eq]
      exact fun h => hsz h.1
    rw [hf]
    go_enter Tryd.func121, Tryd.ntmps121
    go_wp2
    go_ret
    exact ⟨rfl, rfl⟩
end nmW
end Go.Proofs.YtmadafejenjkcaaDoor
