/- Names: what a letter, a digit, a word's byte is: the document's and the program's. -/
import Derived.Test.YtmadafejenjkcaaDoorConv
import Derived.Deep.QuietTactic
import Derived.BigQuiet
namespace Go.Proofs.YtmadafejenjkcaaDoor
open Go.RowKit Go.Deep
set_option linter.unusedVariables false
set_option linter.unusedSimpArgs false

def letN (c : Nat) : Bool := decide (65 ≤ c) && decide (c ≤ 90) || decide (97 ≤ c) && decide (c ≤ 122)
def digN (c : Nat) : Bool := decide (48 ≤ c) && decide (c ≤ 57)
def wordN (c : Nat) : Bool := letN c || digN c || decide (c = 95)

namespace nmW
set_option maxHeartbeats 1600000 in
theorem letter_k (c : Nat) (w : World) : Calls Tryd.prog 95 #[.int .u8 c] w fun e w' => e = .returned (.bool (letN c)) ∧ w' = w := by
  generalize hb : letN c = b
  have cs : (c ≤ 64) ∨ (65 ≤ c ∧ c ≤ 90) ∨ (91 ≤ c ∧ c ≤ 96) ∨ (97 ≤ c ∧ c ≤ 122) ∨ (123 ≤ c) := by omega
  rcases cs with h | h | h | h | h
  · obtain rfl : b = false := by rw [← hb]; simp [letN, digN, wordN]; omega
    clear hb
    have f0 : ¬ (65 : Int) ≤ c := by omega
    have f1 : ¬ (97 : Int) ≤ c := by omega
    go_enter Tryd.func95, Tryd.ntmps95
    go_wp2
    go_ret
    exact ⟨rfl, rfl⟩
  · obtain rfl : b = true := by rw [← hb]; simp [letN, digN, wordN]; omega
    clear hb
    have f0 : (65 : Int) ≤ c := by omega
    have f1 : (c : Int) ≤ 90 := by omega
    go_enter Tryd.func95, Tryd.ntmps95
    go_wp2
    go_ret
    exact ⟨rfl, rfl⟩
  · obtain rfl : b = false := by rw [← hb]; simp [letN, digN, wordN]; omega
    clear hb
    have f0 : (65 : Int) ≤ c := by omega
    have f1 : ¬ (c : Int) ≤ 90 := by omega
    have f2 : ¬ (97 : Int) ≤ c := by omega
    go_enter Tryd.func95, Tryd.ntmps95
    go_wp2
    go_ret
    exact ⟨rfl, rfl⟩
  · obtain rfl : b = true := by rw [← hb]; simp [letN, digN, wordN]; omega
    clear hb
    have f0 : (65 : Int) ≤ c := by omega
    have f1 : ¬ (c : Int) ≤ 90 := by omega
    have f2 : (97 : Int) ≤ c := by omega
    have f3 : (c : Int) ≤ 122 := by omega
    go_enter Tryd.func95, Tryd.ntmps95
    go_wp2
    go_ret
    exact ⟨rfl, rfl⟩
  · obtain rfl : b = false := by rw [← hb]; simp [letN, digN, wordN]; omega
    clear hb
    have f0 : (65 : Int) ≤ c := by omega
    have f1 : ¬ (c : Int) ≤ 90 := by omega
    have f2 : (97 : Int) ≤ c := by omega
    have f3 : ¬ (c : Int) ≤ 122 := by omega
    go_enter Tryd.func95, Tryd.ntmps95
    go_wp2
    go_ret
    exact ⟨rfl, rfl⟩

set_option maxHeartbeats 1600000 in
theorem digit_k (c : Nat) (w : World) : Calls Tryd.prog 96 #[.int .u8 c] w fun e w' => e = .returned (.bool (digN c)) ∧ w' = w := by
  generalize hb : digN c = b
  have cs : (c ≤ 47) ∨ (48 ≤ c ∧ c ≤ 57) ∨ (58 ≤ c) := by omega
  rcases cs with h | h | h
  · obtain rfl : b = false := by rw [← hb]; simp [letN, digN, wordN]; omega
    clear hb
    have f0 : ¬ (48 : Int) ≤ c := by omega
    go_enter Tryd.func96, Tryd.ntmps96
    go_wp2
    go_ret
    exact ⟨rfl, rfl⟩
  · obtain rfl : b = true := by rw [← hb]; simp [letN, digN, wordN]; omega
    clear hb
    have f0 : (48 : Int) ≤ c := by omega
    have f1 : (c : Int) ≤ 57 := by omega
    go_enter Tryd.func96, Tryd.ntmps96
    go_wp2
    go_ret
    exact ⟨rfl, rfl⟩
  · obtain rfl : b = false := by rw [← hb]; simp [letN, digN, wordN]; omega
    clear hb
    have f0 : (48 : Int) ≤ c := by omega
    have f1 : ¬ (c : Int) ≤ 57 := by omega
    go_enter Tryd.func96, Tryd.ntmps96
    go_wp2
    go_ret
    exact ⟨rfl, rfl⟩

set_option maxHeartbeats 1600000 in
theorem wordByte_k (c : Nat) (w : World) : Calls Tryd.prog 43 #[.int .i32 c] w fun e w' => e = .returned (.bool (wordN c)) ∧ w' = w := by
  generalize hb : wordN c = b
  have cs : (c ≤ 47) ∨ (48 ≤ c ∧ c ≤ 57) ∨ (58 ≤ c ∧ c ≤ 64) ∨ (65 ≤ c ∧ c ≤ 90) ∨ (91 ≤ c ∧ c ≤ 94) ∨ (c = 95) ∨ (c = 96) ∨ (97 ≤ c ∧ c ≤ 122) ∨ (123 ≤ c) := by omega
  rcases cs with h | h | h | h | h | h | h | h | h
  · obtain rfl : b = false := by rw [← hb]; simp [letN, digN, wordN]; omega
    clear hb
    have f0 : ¬ (65 : Int) ≤ c := by omega
    have f1 : ¬ (97 : Int) ≤ c := by omega
    have f2 : ¬ (48 : Int) ≤ c := by omega
    have f3 : ((c : Int) == 95) = false := by rw [beq_eq_false_iff_ne]; omega
    go_enter Tryd.func43, Tryd.ntmps43
    go_wp2
    go_ret
    exact ⟨rfl, rfl⟩
  · obtain rfl : b = true := by rw [← hb]; simp [letN, digN, wordN]; omega
    clear hb
    have f0 : ¬ (65 : Int) ≤ c := by omega
    have f1 : ¬ (97 : Int) ≤ c := by omega
    have f2 : (48 : Int) ≤ c := by omega
    have f3 : (c : Int) ≤ 57 := by omega
    go_enter Tryd.func43, Tryd.ntmps43
    go_wp2
    go_ret
    exact ⟨rfl, rfl⟩
  · obtain rfl : b = false := by rw [← hb]; simp [letN, digN, wordN]; omega
    clear hb
    have f0 : ¬ (65 : Int) ≤ c := by omega
    have f1 : ¬ (97 : Int) ≤ c := by omega
    have f2 : (48 : Int) ≤ c := by omega
    have f3 : ¬ (c : Int) ≤ 57 := by omega
    have f4 : ((c : Int) == 95) = false := by rw [beq_eq_false_iff_ne]; omega
    go_enter Tryd.func43, Tryd.ntmps43
    go_wp2
    go_ret
    exact ⟨rfl, rfl⟩
  · obtain rfl : b = true := by rw [← hb]; simp [letN, digN, wordN]; omega
    clear hb
    have f0 : (65 : Int) ≤ c := by omega
    have f1 : (c : Int) ≤ 90 := by omega
    go_enter Tryd.func43, Tryd.ntmps43
    go_wp2
    go_ret
    exact ⟨rfl, rfl⟩
  · obtain rfl : b = false := by rw [← hb]; simp [letN, digN, wordN]; omega
    clear hb
    have f0 : (65 : Int) ≤ c := by omega
    have f1 : ¬ (c : Int) ≤ 90 := by omega
    have f2 : ¬ (97 : Int) ≤ c := by omega
    have f3 : (48 : Int) ≤ c := by omega
    have f4 : ¬ (c : Int) ≤ 57 := by omega
    have f5 : ((c : Int) == 95) = false := by rw [beq_eq_false_iff_ne]; omega
    go_enter Tryd.func43, Tryd.ntmps43
    go_wp2
    go_ret
    exact ⟨rfl, rfl⟩
  · obtain rfl : b = true := by rw [← hb]; simp [letN, digN, wordN]; omega
    clear hb
    have f0 : (65 : Int) ≤ c := by omega
    have f1 : ¬ (c : Int) ≤ 90 := by omega
    have f2 : ¬ (97 : Int) ≤ c := by omega
    have f3 : (48 : Int) ≤ c := by omega
    have f4 : ¬ (c : Int) ≤ 57 := by omega
    have f5 : ((c : Int) == 95) = true := by rw [beq_iff_eq]; omega
    go_enter Tryd.func43, Tryd.ntmps43
    go_wp2
    go_ret
    exact ⟨rfl, rfl⟩
  · obtain rfl : b = false := by rw [← hb]; simp [letN, digN, wordN]; omega
    clear hb
    have f0 : (65 : Int) ≤ c := by omega
    have f1 : ¬ (c : Int) ≤ 90 := by omega
    have f2 : ¬ (97 : Int) ≤ c := by omega
    have f3 : (48 : Int) ≤ c := by omega
    have f4 : ¬ (c : Int) ≤ 57 := by omega
    have f5 : ((c : Int) == 95) = false := by rw [beq_eq_false_iff_ne]; omega
    go_enter Tryd.func43, Tryd.ntmps43
    go_wp2
    go_ret
    exact ⟨rfl, rfl⟩
  · obtain rfl : b = true := by rw [← hb]; simp [letN, digN, wordN]; omega
    clear hb
    have f0 : (65 : Int) ≤ c := by omega
    have f1 : ¬ (c : Int) ≤ 90 := by omega
    have f2 : (97 : Int) ≤ c := by omega
    have f3 : (c : Int) ≤ 122 := by omega
    go_enter Tryd.func43, Tryd.ntmps43
    go_wp2
    go_ret
    exact ⟨rfl, rfl⟩
  · obtain rfl : b = false := by rw [← hb]; simp [letN, digN, wordN]; omega
    clear hb
    have f0 : (65 : Int) ≤ c := by omega
    have f1 : ¬ (c : Int) ≤ 90 := by omega
    have f2 : (97 : Int) ≤ c := by omega
    have f3 : ¬ (c : Int) ≤ 122 := by omega
    have f4 : (48 : Int) ≤ c := by omega
    have f5 : ¬ (c : Int) ≤ 57 := by omega
    have f6 : ((c : Int) == 95) = false := by rw [beq_eq_false_iff_ne]; omega
    go_enter Tryd.func43, Tryd.ntmps43
    go_wp2
    go_ret
    exact ⟨rfl, rfl⟩
end nmW
end Go.Proofs.YtmadafejenjkcaaDoor
