/- Names: the program's 'upper'. -/
import Derived.Test.YtmadafejenjkcaaDoorNm4
import Derived.Laws.IdiomStrings
namespace Go.Proofs.YtmadafejenjkcaaDoor
open Go.RowKit Go.Deep
set_option linter.unusedVariables false
namespace nmW

def US (w wr : World) (s : ByteArray) (j : Nat) : Prop := Below w.heap.size w wr ∧ ∀ i (h : i < s.size), wr.cell? ⟨w.heap.size, i, none⟩ = some (.int .u8 ((if i < j then upU s[i] else s[i]).toNat : Nat)) ∧ wr.frozen? ⟨w.heap.size, i, none⟩ = false

theorem US.start {w : World} (s : ByteArray) (cap : Nat) (t : TypeId) : US w (w.alloc (.cells (bytesRow s cap) t ((bytesRow s cap).size, (bytesRow s cap).size + 1))).drew s 0 := by
  refine ⟨((Below.refl _ w).alloc (Nat.le_refl _) _).drew, fun i h => ?_⟩
  constructor
  · show (w.alloc _).cell? _ = _
    rw [World.cell?_alloc_mark, bytesRow_at s _ i h]
    rfl
  · show (w.alloc _).frozen? _ = _
    rw [World.frozen?_alloc_mark]
    have : i < (bytesRow s cap).size := by simp [bytesRow]; have : s.size = s.data.size := rfl; omega
    simp; omega

theorem US.skip {w wr : World} {s : ByteArray} {j : Nat} (h : US w wr s j) {hlt : j < s.size} (he : upU s[j] = s[j]) : US w wr s (j + 1) := by
  refine ⟨h.1, fun i hi => ⟨?_, (h.2 i hi).2⟩⟩
  rw [(h.2 i hi).1]
  by_cases hij : i = j
  · subst hij
    rw [if_neg (by omega), if_pos (by omega), he]
  · by_cases h2 : i < j
    · rw [if_pos h2, if_pos (by omega)]
    · rw [if_neg h2, if_neg (by omega)]
theorem US.put {w wr : World} {s : ByteArray} {j : Nat} (h : US w wr s j) (hlt : j < s.size) {n : Int} (he : ((upU s[j]).toNat : Int) = n) : US w (wr.setCell ⟨w.heap.size, j, none⟩ (.int .u8 n)) s (j + 1) := by
  refine ⟨h.1.setCell (Nat.le_refl _) _, fun i hi => ⟨?_, by rw [World.frozen?_setCell]; exact (h.2 i hi).2⟩⟩
  by_cases hij : i = j
  · subst hij
    rw [World.cell?_setCell_same (h := (h.2 i hi).1), if_pos (by omega), he]
  · rw [World.cell?_setCell_other (h := by intro e; injection e; omega), (h.2 i hi).1]
    by_cases h2 : i < j
    · rw [if_pos h2, if_pos (by omega)]
    · rw [if_neg h2, if_neg (by omega)]
theorem US.back {w wr : World} {s : ByteArray} (h : US w wr s s.size) {cap : Nat} :
    (convert 70 9 (.slice (some ⟨w.heap.size, 0, none⟩) s.size cap)).run Tryd.prog wr = .ok (.string (upB s)) wr := by
  have hl : (upB s).data.toList.length = s.size := by
    show (s.data.map upU).toList.length = s.data.size
    simp
  have e := run_convert_bytes_back (P := Tryd.prog) wr 70 9 5 ⟨w.heap.size, 0, none⟩ cap (upB s).data.toList Tryd.underlying70 Tryd.underlying5 Tryd.underlying9 (fun j hj => by
    rw [hl] at hj
    rw [Addr.add_lit, Nat.zero_add, (h.2 j hj).1, if_pos hj]
    have : (upB s).data.toList[j]'(by rw [hl]; exact hj) = upU s[j] := by
      show (s.data.map upU).toList[j]'_ = _
      simp
      rfl
    rw [this])
  rw [hl] at e
  rw [e]

set_option maxHeartbeats 400000 in
theorem upper_k (s : ByteArray) (hs : s.size ≤ 1048576) (w : World) :
    Calls Tryd.prog 84 #[.string s] w fun e w' => e = .returned (.string (upB s)) ∧ Below w.heap.size w w' := by
  have hcv := fun w s => run_bytes_of_string (P := Tryd.prog) w 9 70 5 s Tryd.underlying9 Tryd.underlying70 Tryd.underlying5
  go_enter Tryd.func84, Tryd.ntmps84
  go_wp2
  go_loopw [10] (fun i wr => ∃ j : Nat, j ≤ s.size ∧ i = .int .i64 j ∧ US w wr s j) (fun i _ => s.size - (intOf i).toNat)
  case atStart => exact ⟨0, Nat.zero_le _, rfl, US.start s _ _⟩
  case round =>
    obtain ⟨j, hj, rfl, hU⟩ := hrel
    replace hU := Lib.hid hU
    by_cases hlt : j < s.size
    · have g0 : (0 : Int) ≤ (j : Int) := by omega
      have g1 : (j : Int) < s.size := by omega
      have z := (hU.out.2 j hlt).1
      have z2 := (hU.out.2 j hlt).2
      rw [if_neg (by omega)] at z
      by_cases c1 : 97 ≤ (s[j]'hlt).toNat
      · have c1' : (97 : Int) ≤ ((s[j]'hlt).toNat : Int) := by omega
        by_cases c2 : (s[j]'hlt).toNat ≤ 122
        · have c2' : ((s[j]'hlt).toNat : Int) ≤ 122 := by omega
          go_wp2
          go_roundw
          case rel => exact ⟨j + 1, by omega, by go_num, by exact hU.out.put hlt (by rw [up_toNat, if_pos ⟨c1, c2⟩]; omega)⟩
          case measure => simp [intOf]; omega
        · have c2' : ¬ ((s[j]'hlt).toNat : Int) ≤ 122 := by omega
          go_wp2
          go_roundw
          case rel => exact ⟨j + 1, by omega, by go_num, hU.out.skip (by unfold upU; rw [if_neg (by omega)])⟩
          case measure => simp [intOf]; omega
      · have c1' : ¬ (97 : Int) ≤ ((s[j]'hlt).toNat : Int) := by omega
        go_wp2
        go_roundw
        case rel => exact ⟨j + 1, by omega, by go_num, hU.out.skip (by unfold upU; rw [if_neg (by omega)])⟩
        case measure => simp [intOf]; omega
    · have g1 : ¬ (j : Int) < s.size := by omega
      obtain rfl : j = s.size := by omega
      have hbk := fun cap => hU.out.back (cap := cap)
      go_wp2
      go_ret
      exact ⟨rfl, hU.out.1⟩
end nmW
end Go.Proofs.YtmadafejenjkcaaDoor
