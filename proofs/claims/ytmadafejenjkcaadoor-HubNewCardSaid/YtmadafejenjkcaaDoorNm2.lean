/- Names: a word's byte by the document. -/
import Derived.Test.YtmadafejenjkcaaDoorNm
namespace Go.Proofs.YtmadafejenjkcaaDoor
open Go.RowKit Go.Deep
set_option linter.unusedVariables false
namespace nmW
set_option maxHeartbeats 400000 in
theorem inWord_k (c : Nat) (w : World) : Calls Tryd.prog 70 #[.int .u8 c] w fun e w' => e = .returned (.bool (wordN c)) ∧ w' = w := by
  have k1 := Lib.hid (letter_k c)
  have k2 := Lib.hid (digit_k c)
  generalize hb : wordN c = b
  have cs : letN c = true ∨ (letN c = false ∧ digN c = true) ∨ (letN c = false ∧ digN c = false ∧ c = 95) ∨ (letN c = false ∧ digN c = false ∧ ¬ c = 95) := by
    cases letN c <;> cases digN c <;> simp <;> omega
  rcases cs with h1 | ⟨h1, h2⟩ | ⟨h1, h2, h3⟩ | ⟨h1, h2, h3⟩
  · obtain rfl : b = true := by rw [← hb]; simp [wordN, h1]
    clear hb
    go_enter Tryd.func70, Tryd.ntmps70
    go_wp2_with (go_at_call 95; refine (k1.out _).mono ?_; rw [h1]; rintro e W ⟨rfl, rfl⟩)
    go_wp2
    go_ret
    exact ⟨rfl, rfl⟩
  · obtain rfl : b = true := by rw [← hb]; simp [wordN, h2]
    clear hb
    go_enter Tryd.func70, Tryd.ntmps70
    go_wp2_with (go_at_call 95; refine (k1.out _).mono ?_; rw [h1]; rintro e W ⟨rfl, rfl⟩)
    go_wp2_with (go_at_call 96; refine (k2.out _).mono ?_; rw [h2]; rintro e W ⟨rfl, rfl⟩)
    go_wp2
    go_ret
    exact ⟨rfl, rfl⟩
  · obtain rfl : b = true := by rw [← hb]; simp [wordN, h3]
    clear hb
    have f3 : ((c : Int) == 95) = true := by rw [beq_iff_eq]; omega
    clear h3
    go_enter Tryd.func70, Tryd.ntmps70
    go_wp2_with (go_at_call 95; refine (k1.out _).mono ?_; rw [h1]; rintro e W ⟨rfl, rfl⟩)
    go_wp2_with (go_at_call 96; refine (k2.out _).mono ?_; rw [h2]; rintro e W ⟨rfl, rfl⟩)
    go_wp2
    go_ret
    exact ⟨rfl, rfl⟩
  · obtain rfl : b = false := by rw [← hb]; simp [wordN, h1, h2, h3]
    clear hb
    have f3 : ((c : Int) == 95) = false := by rw [beq_eq_false_iff_ne]; omega
    clear h3
    go_enter Tryd.func70, Tryd.ntmps70
    go_wp2_with (go_at_call 95; refine (k1.out _).mono ?_; rw [h1]; rintro e W ⟨rfl, rfl⟩)
    go_wp2_with (go_at_call 96; refine (k2.out _).mono ?_; rw [h2]; rintro e W ⟨rfl, rfl⟩)
    go_wp2
    go_ret
    exact ⟨rfl, rfl⟩
end nmW
end Go.Proofs.YtmadafejenjkcaaDoor
