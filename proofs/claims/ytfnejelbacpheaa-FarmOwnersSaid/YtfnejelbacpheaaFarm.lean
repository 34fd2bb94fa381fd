/- FarmOwners: for every key and number of workers the law returns true. No conditions. -/
import Derived.Test.YtfnejelbacpheaaProg
import Derived.WalkKit
import Derived.WalkSpells
import Derived.WalkLawsBesides
import Derived.Lib.Hide
namespace Go.Proofs.Ytfnejelbacpheaa
open Go.RowKit
set_option linter.unusedVariables false

theorem ret_int {k : IntKind} {a b : Int} (h : a = b) : Ending.returned (.int k a) = .returned (.int k b) := by rw [h]

def own (k n : Int) : Int := if n < 1 then 0 else k % n

theorem tmod_neg (k n : Int) (h : 1 ≤ n) (hr : k.tmod n < 0) : k.tmod n + n = k % n := by
  have h3 : 0 ≤ k % n := Int.emod_nonneg _ (by omega)
  have h4 : k % n < n := Int.emod_lt_of_pos _ (by omega)
  rw [Int.tmod_eq_emod] at hr ⊢
  split at hr
  · omega
  · rename_i hc
    rw [if_neg hc]
    have : (n.natAbs : Int) = n := by omega
    omega

theorem tmod_pos (k n : Int) (h : 1 ≤ n) (hr : 0 ≤ k.tmod n) : k.tmod n = k % n := by
  have h3 : 0 ≤ k % n := Int.emod_nonneg _ (by omega)
  have h4 : k % n < n := Int.emod_lt_of_pos _ (by omega)
  rw [Int.tmod_eq_emod] at hr ⊢
  split at hr
  · rename_i hc
    rw [if_pos hc]
    omega
  · omega

theorem tmod_bd (k n : Int) (h : 1 ≤ n) : -n < k.tmod n ∧ k.tmod n < n := by
  have := Int.tmod_lt_of_pos k (b := n) (by omega)
  have := Int.lt_tmod_of_pos k (b := n) (by omega)
  omega

theorem owner_any (k n : Int) (w : World) (hk : -9223372036854775808 ≤ k) (hk' : k ≤ 9223372036854775807) (hn : -9223372036854775808 ≤ n) (hn' : n ≤ 9223372036854775807) :
    Calls Try.prog 9 #[.int .i64 k, .int .i64 n] w fun e w' => e = .returned (.int .i64 (own k n)) ∧ w = w' := by
  by_cases h1 : n < 1
  · go_enter Try.func9, Try.ntmps9
    go_wp2
    go_ret
    exact ⟨by simp [own, h1], rfl⟩
  · have ⟨b1, b2⟩ := tmod_bd k n (by omega)
    by_cases h2 : k.tmod n < 0
    · have e := Lib.hid (tmod_neg k n (by omega) h2)
      go_enter Try.func9, Try.ntmps9
      go_wp2
      go_ret
      exact ⟨ret_int (by rw [e.out, own, if_neg (by omega)]), rfl⟩
    · have e := Lib.hid (tmod_pos k n (by omega) (by omega))
      go_enter Try.func9, Try.ntmps9
      go_wp2
      go_ret
      exact ⟨ret_int (by rw [e.out, own, if_neg (by omega)]), rfl⟩

theorem rowner_any (k n : Int) (w : World) (hk : -9223372036854775808 ≤ k) (hk' : k ≤ 9223372036854775807) (hn : 1 ≤ n) (hn' : n ≤ 9223372036854775807) :
    Calls Try.prog 10 #[.int .i64 k, .int .i64 n] w fun e w' => e = .returned (.int .i64 (own k n)) ∧ w = w' := by
  have ⟨b1, b2⟩ := tmod_bd k n (by omega)
  have d := Int.mul_tdiv_add_tmod k n
  rw [Int.mul_comm] at d
  have hq : -9223372036854775808 ≤ k.tdiv n * n ∧ k.tdiv n * n ≤ 9223372036854775807 := by
    by_cases hp : 0 ≤ k
    · have := Int.tmod_nonneg n hp
      have : 0 ≤ k.tdiv n * n := Int.mul_nonneg (Int.tdiv_nonneg hp (by omega)) (by omega)
      omega
    · have : k.tmod n ≤ 0 := by
        have := Int.tmod_nonneg (a := -k) n (by omega)
        rw [Int.neg_tmod] at this; omega
      have : k.tdiv n * n ≤ 0 := by
        have : 0 ≤ (-k).tdiv n * n := Int.mul_nonneg (Int.tdiv_nonneg (by omega) (by omega)) (by omega)
        rw [Int.neg_tdiv, Int.neg_mul] at this; omega
      omega
  generalize hQ : k.tdiv n * n = Q at d hq
  have hw : wrap64 (k.tdiv n * n) = Q := by rw [hQ]; exact IntWalk.wrap64_in Q ⟨hq.1, by omega⟩
  obtain ⟨q1, q2⟩ := hq
  by_cases h2 : k < Q
  · have e := Lib.hid (show k - Q + n = own k n by rw [own, if_neg (by omega), ← tmod_neg k n hn (by omega)]; omega)
    have g : 0 ≤ k - Q + n := by omega
    have g' : k - Q + n < n := by omega
    clear d hQ
    go_enter Try.func10, Try.ntmps10
    go_wp2
    go_ret
    exact ⟨ret_int e.out, rfl⟩
  · have e := Lib.hid (show k - Q = own k n by rw [own, if_neg (by omega), ← tmod_pos k n hn (by omega)]; omega)
    have g : 0 ≤ k - Q := by omega
    have g' : k - Q < n := by omega
    clear d hQ
    go_enter Try.func10, Try.ntmps10
    go_wp2
    go_ret
    exact ⟨ret_int e.out, rfl⟩

theorem own_bd (k n : Int) (h : 1 ≤ n) : 0 ≤ own k n ∧ own k n < n := by
  rw [own, if_neg (by omega)]
  exact ⟨Int.emod_nonneg _ (by omega), Int.emod_lt_of_pos _ (by omega)⟩

theorem own_next (k n : Int) (h : 1 ≤ n) : own (k + 1) n = if own k n = n - 1 then 0 else own k n + 1 := by
  have hb := own_bd k n h
  have e0 : own k n = k % n := by rw [own, if_neg (by omega)]
  have e1 : own (k + 1) n = (k % n + 1) % n := by rw [own, if_neg (by omega), Int.emod_add_emod]
  rw [e0] at hb ⊢
  rw [e1]
  by_cases e : k % n = n - 1
  · rw [if_pos e, e, show n - 1 + 1 = n by omega, Int.emod_self]
  · rw [if_neg e, Int.emod_eq_of_lt (by omega) (by omega)]

set_option maxHeartbeats 400000 in
theorem walk (k n : Int) (w : World) (hk : -9223372036854775808 ≤ k) (hk' : k ≤ 9223372036854775807) (hn : -9223372036854775808 ≤ n) (hn' : n ≤ 9223372036854775807) :
    Calls Try.prog 3 #[.int .i64 k, .int .i64 n] w fun e w' => e = .returned (.bool true) ∧ Grown w w' := by
  by_cases h1 : n < 1
  · have e : own k n = 0 := by rw [own, if_pos h1]
    have e2 : own 5 3 = 2 := by decide
    go_enter Try.func3, Try.ntmps3
    go_wp2_with (go_at_call 9; refine (owner_any _ _ _ (by omega) (by omega) (by omega) (by omega)).mono ?_; rintro e w' ⟨rfl, rfl⟩)
    go_ret
    exact ⟨rfl, Grown.refl _⟩
  · obtain ⟨b1, b2⟩ := own_bd k n (by omega)
    obtain ⟨b3, b4⟩ := own_bd (k + 1) n (by omega)
    have hs : 0 ≤ k → k < n → own k n = k := fun a b => by rw [own, if_neg h1, Int.emod_eq_of_lt a b]
    have hx := own_next k n (by omega)
    have t1 : (own k n != own k n) = false := by simp
    have t2 : 0 ≤ k → k < n → (own k n != k) = false := fun a b => by rw [hs a b]; simp
    clear hs
    have c1 : (0 ≤ k ∧ k < n ∧ (own k n != k) = false) ∨ k < 0 ∨ n ≤ k := by
      by_cases a : 0 ≤ k
      · by_cases b : k < n
        · exact .inl ⟨a, b, t2 a b⟩
        · omega
      · omega
    clear t2
    by_cases h2 : k = 9223372036854775807
    · subst h2
      clear hx b3 b4
      clear c1
      all_goals
        go_enter Try.func3, Try.ntmps3
        go_wp2_with (first | (go_at_call 9; refine (owner_any _ _ _ (by omega) (by omega) (by omega) (by omega)).mono ?_; rintro e w' ⟨rfl, rfl⟩) | (go_at_call 10; refine (rowner_any _ _ _ (by omega) (by omega) (by omega) (by omega)).mono ?_; rintro e w' ⟨rfl, rfl⟩))
        go_ret
        exact ⟨rfl, Grown.refl _⟩
    · have h2' : (k == 9223372036854775807) = false := by simpa using h2
      have h5 : k + 1 ≤ 9223372036854775807 := by omega
      by_cases h3 : own k n = n - 1
      · rw [if_pos h3] at hx
        have h3' : (own k n == n - 1) = true := by simpa using h3
        have hx' : (own (k + 1) n == 0) = true := by simpa using hx
        clear h2 h3 hx
        rcases c1 with ⟨a, b, c⟩ | a | a
        all_goals
          go_enter Try.func3, Try.ntmps3
          go_wp2_with (first | (go_at_call 9; refine (owner_any _ _ _ (by omega) (by omega) (by omega) (by omega)).mono ?_; rintro e w' ⟨rfl, rfl⟩) | (go_at_call 10; refine (rowner_any _ _ _ (by omega) (by omega) (by omega) (by omega)).mono ?_; rintro e w' ⟨rfl, rfl⟩))
          go_ret
          exact ⟨rfl, Grown.refl _⟩
      · rw [if_neg h3] at hx
        have h3' : (own k n == n - 1) = false := by simpa using h3
        have hx' : (own (k + 1) n == own k n + 1) = true := by simpa using hx
        clear h2 h3 hx
        rcases c1 with ⟨a, b, c⟩ | a | a
        all_goals
          go_enter Try.func3, Try.ntmps3
          go_wp2_with (first | (go_at_call 9; refine (owner_any _ _ _ (by omega) (by omega) (by omega) (by omega)).mono ?_; rintro e w' ⟨rfl, rfl⟩) | (go_at_call 10; refine (rowner_any _ _ _ (by omega) (by omega) (by omega) (by omega)).mono ?_; rintro e w' ⟨rfl, rfl⟩))
          go_ret
          exact ⟨rfl, Grown.refl _⟩
end Go.Proofs.Ytfnejelbacpheaa
