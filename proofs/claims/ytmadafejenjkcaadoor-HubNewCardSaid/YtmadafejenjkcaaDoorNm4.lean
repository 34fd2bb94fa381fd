/- Names: the keywords, what a name is, the document's answer. -/
import Derived.Test.YtmadafejenjkcaaDoorNm3
namespace Go.Proofs.YtmadafejenjkcaaDoor
open Go.RowKit Go.Deep
set_option linter.unusedVariables false

def kwds : List ByteArray := [⟨#[80, 65, 84, 84, 69, 82, 78]⟩, ⟨#[83, 69, 81]⟩, ⟨#[85, 83, 73, 78, 71]⟩, ⟨#[65, 78, 89]⟩, ⟨#[78, 69, 88, 84]⟩, ⟨#[83, 84, 82, 73, 67, 84]⟩, ⟨#[87, 72, 69, 82, 69]⟩, ⟨#[87, 73, 84, 72, 73, 78]⟩, ⟨#[80, 65, 82, 84, 73, 84, 73, 79, 78]⟩, ⟨#[66, 89]⟩, ⟨#[82, 69, 84, 85, 82, 78]⟩, ⟨#[65, 78, 68]⟩, ⟨#[79, 82]⟩, ⟨#[78, 79, 84]⟩, ⟨#[84, 82, 85, 69]⟩, ⟨#[70, 65, 76, 83, 69]⟩, ⟨#[67, 79, 85, 78, 84]⟩, ⟨#[83, 85, 77]⟩, ⟨#[77, 73, 78]⟩, ⟨#[77, 65, 88]⟩, ⟨#[70, 73, 82, 83, 84]⟩, ⟨#[76, 65, 83, 84]⟩, ⟨#[80, 82, 69, 86]⟩, ⟨#[65, 70, 84, 69, 82]⟩, ⟨#[65, 76, 76]⟩, ⟨#[80, 65, 83, 84]⟩, ⟨#[79, 78, 67, 69]⟩]
/-- the variable that holds the keywords -/
def KwIs (w : World) : Prop := ∀ (i : Nat) k, kwds[i]? = some k → w.cell? ⟨0, i, none⟩ = some (.string k)
theorem KwIs.below {w w' : World} {B : Nat} (h : KwIs w) (hb : Below B w w') (hB : 0 < B) : KwIs w' := by
  intro i k hk
  rw [World.cell?_of_block (w := w) (hb.block _ hB)]
  exact h i k hk
theorem KwIs.lt {w : World} (h : KwIs w) : 0 < w.heap.size := World.block_lt_of_cell? w _ (h 0 _ rfl)
theorem KwIs.stay {w w' : World} (h : KwIs w) (hb : Below w.heap.size w w') : KwIs w' := h.below hb h.lt

theorem kwds_up : ∀ k ∈ kwds, ∀ i (h : i < k.size), 65 ≤ k[i].toNat ∧ k[i].toNat ≤ 90 := by
  have hall : kwds.all (fun k => k.data.toList.all fun b => decide (65 ≤ b.toNat) && decide (b.toNat ≤ 90)) = true := by decide
  intro k hk i h
  have h1 := List.all_eq_true.1 hall k hk
  have h2 := List.all_eq_true.1 h1 k[i] (by
    have : k[i] = k.data[i] := rfl
    rw [this]
    exact Array.mem_toList_iff.2 (Array.getElem_mem h))
  simpa using h2
theorem kwds_get {i : Nat} (h : i < 27) : ∃ k, kwds[i]? = some k ∧ k ∈ kwds := by
  have h2 : i < kwds.length := h
  exact ⟨kwds[i], List.getElem?_eq_getElem h2, List.getElem_mem h2⟩

structure IsNm (s : ByteArray) : Prop where
  pos : 1 ≤ s.size
  le : s.size ≤ 16
  word : ∀ i (h : i < s.size), wordN s[i].toNat = true
  dig : ∀ h : 0 < s.size, digN s[0].toNat = false
  kw : ∀ (i : Nat) k, kwds[i]? = some k → upB s ≠ k
open Classical in
noncomputable def isNm (s : ByteArray) : Bool := decide (IsNm s)
theorem isNm_true {s : ByteArray} (h : IsNm s) : isNm s = true := @decide_eq_true _ (_) h
theorem isNm_false {s : ByteArray} (h : ¬ IsNm s) : isNm s = false := @decide_eq_false _ (_) h

namespace nmW
set_option maxHeartbeats 800000 in
theorem refIsName_k (s : ByteArray) (w : World) (hK : KwIs w) :
    Calls Tryd.prog 90 #[.string s] w fun e w' => e = .returned (.bool (isNm s)) ∧ w' = w := by
  have k1 := Lib.hid inWord_k
  have k2 := Lib.hid digit_k
  have k3 := Lib.hid alike_k
  replace hK := Lib.hid hK
  generalize hc : isNm s = b
  replace hc := Lib.hid hc
  by_cases h1 : s.size < 1
  · have f1 : (s.size : Int) < 1 := by omega
    obtain rfl : b = false := by rw [← hc.out]; exact isNm_false fun h => by have := h.pos; omega
    go_enter Tryd.func90, Tryd.ntmps90
    go_wp2
    go_ret
    exact ⟨rfl, rfl⟩
  by_cases h2 : 16 < s.size
  · have f1 : ¬ (s.size : Int) < 1 := by omega
    have f2 : (16 : Int) < s.size := by omega
    obtain rfl : b = false := by rw [← hc.out]; exact isNm_false fun h => by have := h.le; omega
    go_enter Tryd.func90, Tryd.ntmps90
    go_wp2
    go_ret
    exact ⟨rfl, rfl⟩
  have f1 : ¬ (s.size : Int) < 1 := by omega
  have f2 : ¬ (16 : Int) < s.size := by omega
  have hs : s.size ≤ 16 := by omega
  clear h2
  go_enter Tryd.func90, Tryd.ntmps90
  go_wp2
  go_loopw [3] (fun i wr => ∃ j : Nat, j ≤ s.size ∧ i = .int .i64 j ∧ wr = w ∧ (∀ i (h : i < s.size), i < j → wordN s[i].toNat = true)) (fun i _ => s.size - (intOf i).toNat)
  case atStart => exact ⟨0, Nat.zero_le _, rfl, rfl, fun i h h3 => by omega⟩
  case round =>
    obtain ⟨j, hj, rfl, rfl, hp⟩ := hrel
    replace hp := Lib.hid hp
    by_cases hlt : j < s.size
    · have g0 : (0 : Int) ≤ (j : Int) := by omega
      have g1 : (j : Int) < s.size := by omega
      by_cases hw : wordN (s[j]'hlt).toNat = true
      · go_wp2_with (go_at_call 70; refine (k1.out _ _).mono ?_; rintro e W ⟨rfl, hW⟩; obtain rfl := hW.symm)
        go_roundw
        case rel =>
          refine ⟨j + 1, by omega, by go_num, by trivial, fun i h h3 => ?_⟩
          by_cases hij : i = j
          · subst hij; exact hw
          · exact hp.out i h (by omega)
        case measure => simp [intOf]; omega
      · obtain rfl : b = false := by rw [← hc.out]; exact isNm_false fun h => hw (h.word j hlt)
        have hw' : wordN (s[j]'hlt).toNat = false := by simpa using hw
        clear hw
        go_wp2_with (go_at_call 70; refine (k1.out _ _).mono ?_; rintro e W ⟨rfl, hW⟩; obtain rfl := hW.symm)
        go_ret
        exact ⟨rfl, rfl⟩
    · have g1 : ¬ (j : Int) < s.size := by omega
      have hpos : 0 < s.size := by omega
      have hpos' : (0 : Int) < s.size := by omega
      by_cases hd : digN (s[0]'hpos).toNat = true
      · obtain rfl : b = false := by rw [← hc.out]; exact isNm_false fun h => by have := h.dig hpos; rw [hd] at this; cases this
        go_wp2_with (go_at_call 96; refine (k2.out _ _).mono ?_; rintro e W ⟨rfl, hW⟩; obtain rfl := hW.symm)
        go_ret
        exact ⟨rfl, rfl⟩
      · have hd' : digN (s[0]'hpos).toNat = false := by simpa using hd
        clear hd
        go_wp2_with (go_at_call 96; refine (k2.out _ _).mono ?_; rintro e W ⟨rfl, hW⟩; obtain rfl := hW.symm)
        go_loopw [4] (fun i wr' => ∃ m : Nat, m ≤ 27 ∧ i = .int .i64 m ∧ wr' = wr ∧ (∀ (i : Nat) k, kwds[i]? = some k → i < m → upB s ≠ k)) (fun i _ => 27 - (intOf i).toNat)
        case atStart => exact ⟨0, Nat.zero_le _, rfl, rfl, fun i k h h3 => by omega⟩
        case round =>
          obtain ⟨m, hm, rfl, rfl, hq⟩ := hrel
          replace hq := Lib.hid hq
          by_cases hlm : m < 27
          · have q0 : (0 : Int) ≤ (m : Int) := by omega
            have q1 : (m : Int) < 27 := by omega
            obtain ⟨k, hk, hkm⟩ := kwds_get hlm
            have z := hK.out m k hk
            replace hk := Lib.hid hk
            by_cases hu : upB s = k
            · obtain rfl : b = false := by rw [← hc.out]; exact isNm_false fun h => h.kw m k hk.out hu
              have hu' : decide (upB s = k) = true := decide_eq_true hu
              replace hkm := Lib.hid hkm
              replace hu := Lib.hid hu
              go_wp2_with (go_at_call 121; refine (k3.out _ _ (kwds_up _ hkm.out) (by omega) _).mono ?_; rw [hu']; rintro e W ⟨rfl, hW⟩; obtain rfl := hW.symm)
              go_ret
              exact ⟨rfl, rfl⟩
            · have hu' : decide (upB s = k) = false := decide_eq_false hu
              replace hkm := Lib.hid hkm
              replace hu := Lib.hid hu
              go_wp2_with (go_at_call 121; refine (k3.out _ _ (kwds_up _ hkm.out) (by omega) _).mono ?_; rw [hu']; rintro e W ⟨rfl, hW⟩; obtain rfl := hW.symm)
              go_roundw
              case rel =>
                refine ⟨m + 1, by omega, by go_num, by trivial, fun i k' h h3 => ?_⟩
                by_cases hij : i = m
                · subst hij
                  obtain rfl : k' = k := by have := hk.out; rw [h] at this; exact Option.some.inj this
                  exact hu.out
                · exact hq.out i k' h (by omega)
              case measure => simp [intOf]; omega
          · have q1 : ¬ (m : Int) < 27 := by omega
            obtain rfl : b = true := by
              rw [← hc.out]
              refine isNm_true ⟨by omega, hs, fun i h => hp.out i h (by omega), fun h => hd', fun i k h => hq.out i k h ?_⟩
              have : i < kwds.length := (List.getElem?_eq_some_iff.1 h).1
              have e : kwds.length = 27 := rfl
              omega
            go_wp2
            go_ret
            exact ⟨rfl, rfl⟩
end nmW
end Go.Proofs.YtmadafejenjkcaaDoor
