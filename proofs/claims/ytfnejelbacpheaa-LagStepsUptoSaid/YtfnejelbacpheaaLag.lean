/- Lags: New, Mark and See of the program and of the document. -/
import Derived.Test.YtfnejelbacpheaaProg
import Derived.Test.YtfnejelbacpheaaChg
import Derived.Deep.QuietTactic
import Derived.BigQuiet
namespace Go.Proofs.Ytfnejelbacpheaa.lagW
open Go.RowKit Go.Deep
set_option linter.unusedVariables false

def counts (x : Int) : Prop := -1152921504606846976 ≤ x ∧ x ≤ 1152921504606846976
instance (x : Int) : Decidable (counts x) := inferInstanceAs (Decidable (_ ∧ _))
/-- the greatest timestamp that has been seen, and whether one has -/
def stepT (p : Int × Bool) (x : Int) : Int × Bool := if counts x ∧ (p.2 = false ∨ p.1 < x) then (x, true) else p
def topOf (l : List Int) : Int × Bool := l.foldl stepT (0, false)
def mk (n t : Int) (s : Bool) : Int := if s = true ∧ -1152921504606846976 ≤ t - n - 1 then t - n - 1 else -1152921504606846977

theorem topOf_snoc (l : List Int) (x : Int) : topOf (l ++ [x]) = stepT (topOf l) x := by simp [topOf, List.foldl_append]
theorem stepT_ok {p : Int × Bool} {x : Int} (h : p.2 = true → counts p.1) : (stepT p x).2 = true → counts (stepT p x).1 := by
  unfold stepT
  split
  · rename_i hc; intro _; exact hc.1
  · exact h
theorem topOf_ok (l : List Int) : (topOf l).2 = true → counts (topOf l).1 := by
  have : ∀ (l : List Int) (p : Int × Bool), (p.2 = true → counts p.1) → ((l.foldl stepT p).2 = true → counts (l.foldl stepT p).1) := by
    intro l
    induction l with
    | nil => intro p h; exact h
    | cons a l ih => intro p h; exact ih _ (stepT_ok h)
  exact this l (0, false) (by simp)

theorem mk_false (n t : Int) : mk n t false = -1152921504606846977 := by simp [mk]
theorem mk_low {n t : Int} (h : t - n - 1 < -1152921504606846976) : mk n t true = -1152921504606846977 := by unfold mk; exact if_neg (by omega)
theorem mk_high {n t : Int} (h : -1152921504606846976 ≤ t - n - 1) : mk n t true = t - n - 1 := by unfold mk; exact if_pos ⟨rfl, h⟩

def IntPost (x : Int) (w : World) (e : Ending) (w' : World) : Prop := e = .returned (.int .i64 x) ∧ ∃ q, w' = w.drewN q

set_option maxHeartbeats 400000 in
theorem mark_any (g : Nat) (n t : Int) (s : Bool) (w : World) (h0 : 0 ≤ n) (h1 : n ≤ 1099511627776) (ht : s = true → counts t) (hB : Blk w g 72 [.int .i64 n, .int .i64 t, .bool s]) :
    Calls Try.prog 19 #[.pointer (some ⟨g, 0, none⟩)] w (IntPost (mk n t s) w) := by
  have c0 : w.cell? ⟨g, 0, none⟩ = some (.int .i64 n) := hB.cell 0
  have c1 : w.cell? ⟨g, 1, none⟩ = some (.int .i64 t) := hB.cell 1
  have c2 : w.cell? ⟨g, 2, none⟩ = some (.bool s) := hB.cell 2
  cases s
  · have hm := Lib.hid (mk_false n t)
    go_enter Try.func19, Try.ntmps19
    go_wp2
    go_ret
    exact ⟨ret_int (by rw [hm.out]), 0, rfl⟩
  · obtain ⟨t1, t2⟩ := ht rfl
    by_cases hc : t - n - 1 < -1152921504606846976
    · have hm := Lib.hid (mk_low hc)
      go_enter Try.func19, Try.ntmps19
      go_wp2
      go_quiet (fail)
      go_wp2
      go_ret
      exact ⟨ret_int (by rw [hm.out]), _, rfl⟩
    · have hm := Lib.hid (mk_high (n := n) (t := t) (by omega))
      go_enter Try.func19, Try.ntmps19
      go_wp2
      go_quiet (fail)
      go_wp2
      go_ret
      exact ⟨ret_int (by rw [hm.out]), _, rfl⟩

theorem counts_yes (x : Int) (w : World) (h1 : -1152921504606846976 ≤ x) (h2 : x ≤ 1152921504606846976) : Calls Try.prog 31 #[.int .i64 x] w fun e w' => e = .returned (.bool true) ∧ w = w' := by
  go_enter Try.func31, Try.ntmps31
  go_wp2
  go_ret
  exact ⟨rfl, rfl⟩
theorem counts_no (x : Int) (w : World) (h : x < -1152921504606846976 ∨ (-1152921504606846976 ≤ x ∧ 1152921504606846976 < x)) : Calls Try.prog 31 #[.int .i64 x] w fun e w' => e = .returned (.bool false) ∧ w = w' := by
  rcases h with h | ⟨h1, h⟩
  all_goals
    go_enter Try.func31, Try.ntmps31
    go_wp2
    go_ret
    first | exact ⟨rfl, rfl⟩ | exact ⟨ret_bool (by simp; omega), rfl⟩

/-- what See leaves and answers -/
def SeePost (g : Nat) (n t : Int) (s : Bool) (x : Int) (w : World) (e : Ending) (w' : World) : Prop :=
  e = .returned (.tuple #[.int .i64 (mk n (stepT (t, s) x).1 (stepT (t, s) x).2), .bool (mk n (stepT (t, s) x).1 (stepT (t, s) x).2 != mk n t s)]) ∧
    Blk w' g 72 [.int .i64 n, .int .i64 (stepT (t, s) x).1, .bool (stepT (t, s) x).2] ∧ Chg (fun k => k = g) w w'

theorem SeePost.mk {g : Nat} {n t t' : Int} {s s' : Bool} {x : Int} {w w' : World} (h : stepT (t, s) x = (t', s')) (hB : Blk w' g 72 [.int .i64 n, .int .i64 t', .bool s']) (hc : Chg (fun k => k = g) w w') :
    SeePost g n t s x w (.returned (.tuple #[.int .i64 (lagW.mk n t' s'), .bool (lagW.mk n t' s' != lagW.mk n t s)])) w' := by
  unfold SeePost; rw [h]; exact ⟨rfl, hB, hc⟩

theorem mark_b (g : Nat) (n t : Int) (s : Bool) (w : World) (h0 : 0 ≤ n) (h1 : n ≤ 1099511627776) (ht : s = true → counts t) (hB : Blk w g 72 [.int .i64 n, .int .i64 t, .bool s]) :
    Calls Try.prog 19 #[.pointer (some ⟨g, 0, none⟩)] w fun e w' => e = .returned (.int .i64 (lagW.mk n t s)) ∧ Below w.heap.size w w' :=
  (mark_any g n t s w h0 h1 ht hB).mono fun e w' ⟨he, q, hw⟩ => ⟨he, by rw [hw]; exact below_drewN (Below.refl _ _) q⟩

set_option maxHeartbeats 400000 in
theorem see_keep (g : Nat) (n t : Int) (s : Bool) (x : Int) (w : World) (h0 : 0 ≤ n) (h1 : n ≤ 1099511627776) (ht : s = true → counts t) (hB : Blk w g 72 [.int .i64 n, .int .i64 t, .bool s])
    (hk : x < -1152921504606846976 ∨ (-1152921504606846976 ≤ x ∧ 1152921504606846976 < x) ∨ (-1152921504606846976 ≤ x ∧ x ≤ 1152921504606846976 ∧ s = true ∧ x ≤ t)) :
    Calls Try.prog 21 #[.pointer (some ⟨g, 0, none⟩), .int .i64 x] w (SeePost g n t s x w) := by
  have hs : Hid (stepT (t, s) x = (t, s)) := if_neg (by
    simp only [counts]
    rcases hk with h | h | ⟨_, _, rfl, h⟩
    · omega
    · omega
    · simp; omega)
  have hm : Hid (∀ W, Blk W g 72 [.int .i64 n, .int .i64 t, .bool s] → Calls Try.prog 19 #[.pointer (some ⟨g, 0, none⟩)] W fun e w' => e = .returned (.int .i64 (lagW.mk n t s)) ∧ Below W.heap.size W w') := fun W h => mark_b g n t s W h0 h1 ht h
  clear ht
  replace hB := Lib.hid hB
  have hd : Hid (∀ W, Blk W g 72 [.int .i64 n, .int .i64 t, .bool s] → W.cell? ⟨g, 2, none⟩ = some (.bool s)) := fun W h => h.cell 2
  have hpost : Hid (∀ w1 w2, Below w.heap.size w w1 → Below w1.heap.size w1 w2 → SeePost g n t s x w (.returned (.tuple #[.int .i64 (lagW.mk n t s), .bool false])) w2) := fun w1 w2 hb1 hb2 => by
    have := SeePost.mk (n := n) hs.out ((hB.out.stay hb1).stay hb2) (((Chg.of_below hb1).trans (Chg.of_below hb2)).mono fun _ _ h => h.elim)
    rwa [bne_self_eq_false] at this
  clear hs
  by_cases hno : x < -1152921504606846976 ∨ (-1152921504606846976 ≤ x ∧ 1152921504606846976 < x)
  · have hcn : Hid (∀ W, Calls Try.prog 31 #[.int .i64 x] W fun e w' => e = .returned (.bool false) ∧ W = w') := fun W => counts_no x W hno
    clear hno hk
    go_enter Try.func21, Try.ntmps21
    go_wp2_with fail
    refine (hm.out w hB.out).mono ?_
    rintro e w1 ⟨rfl, hb1⟩
    have hB1 := hB.out.stay hb1
    have d1 : w1.cell? ⟨g, 1, none⟩ = some (.int .i64 t) := hB1.cell 1
    have d2 := hd.out w1 hB1
    replace hB1 := Lib.hid hB1
    go_wp2_with (first
      | (go_at_call 31; refine (hcn.out _).mono ?_; rintro e w2 ⟨rfl, rfl⟩)
      | (go_at_call 19; refine (hm.out w1 hB1.out).mono ?_; rintro e w2 ⟨rfl, hb2⟩))
    go_ret2
    exact hpost.out _ _ hb1 hb2
  · have hk : -1152921504606846976 ≤ x ∧ x ≤ 1152921504606846976 ∧ s = true ∧ x ≤ t := by
      rcases hk with h | h | h
      · exact absurd (.inl h) hno
      · exact absurd (.inr h) hno
      · exact h
    obtain ⟨k1, k2, rfl, h⟩ := hk
    have hcn : Hid (∀ W, Calls Try.prog 31 #[.int .i64 x] W fun e w' => e = .returned (.bool true) ∧ W = w') := fun W => counts_yes x W k1 k2
    clear hno
    go_enter Try.func21, Try.ntmps21
    go_wp2_with fail
    refine (hm.out w hB.out).mono ?_
    rintro e w1 ⟨rfl, hb1⟩
    have hB1 := hB.out.stay hb1
    have d1 : w1.cell? ⟨g, 1, none⟩ = some (.int .i64 t) := hB1.cell 1
    have d2 := hd.out w1 hB1
    replace hB1 := Lib.hid hB1
    go_wp2_with (first
      | (go_at_call 31; refine (hcn.out _).mono ?_; rintro e w2 ⟨rfl, rfl⟩)
      | (go_at_call 19; refine (hm.out w1 hB1.out).mono ?_; rintro e w2 ⟨rfl, hb2⟩))
    go_ret2
    exact hpost.out _ _ hb1 hb2

set_option maxHeartbeats 400000 in
theorem see_take (g : Nat) (n t : Int) (s : Bool) (x : Int) (w : World) (h0 : 0 ≤ n) (h1 : n ≤ 1099511627776) (ht : s = true → counts t) (hB : Blk w g 72 [.int .i64 n, .int .i64 t, .bool s])
    (k1 : -1152921504606846976 ≤ x) (k2 : x ≤ 1152921504606846976) (hk : s = false ∨ (s = true ∧ t < x)) :
    Calls Try.prog 21 #[.pointer (some ⟨g, 0, none⟩), .int .i64 x] w (SeePost g n t s x w) := by
  have hs : Hid (stepT (t, s) x = (x, true)) := if_pos (by
    simp only [counts]
    exact ⟨⟨k1, k2⟩, by rcases hk with h | h; exact .inl h; exact .inr h.2⟩)
  have hm : Hid (∀ W, Blk W g 72 [.int .i64 n, .int .i64 t, .bool s] → Calls Try.prog 19 #[.pointer (some ⟨g, 0, none⟩)] W fun e w' => e = .returned (.int .i64 (lagW.mk n t s)) ∧ Below W.heap.size W w') := fun W h => mark_b g n t s W h0 h1 ht h
  have hm2 : Hid (∀ W, Blk W g 72 [.int .i64 n, .int .i64 x, .bool true] → Calls Try.prog 19 #[.pointer (some ⟨g, 0, none⟩)] W fun e w' => e = .returned (.int .i64 (lagW.mk n x true)) ∧ Below W.heap.size W w') := fun W h => mark_b g n x true W h0 h1 (fun _ => ⟨k1, k2⟩) h
  clear ht
  replace hB := Lib.hid hB
  have hd : Hid (∀ W, Blk W g 72 [.int .i64 n, .int .i64 t, .bool s] → W.cell? ⟨g, 2, none⟩ = some (.bool s)) := fun W h => h.cell 2
  have hB2 : Hid (∀ w1, Below w.heap.size w w1 → Blk ((w1.setCell ⟨g, 1, none⟩ (.int .i64 x)).setCell ⟨g, 2, none⟩ (.bool true)) g 72 [.int .i64 n, .int .i64 x, .bool true]) := fun w1 hb1 => ((hB.out.stay hb1).set_ 1 _).set_ 2 _
  have hpost : Hid (∀ w1 w2, Below w.heap.size w w1 → Below ((w1.setCell ⟨g, 1, none⟩ (.int .i64 x)).setCell ⟨g, 2, none⟩ (.bool true)).heap.size ((w1.setCell ⟨g, 1, none⟩ (.int .i64 x)).setCell ⟨g, 2, none⟩ (.bool true)) w2 →
      SeePost g n t s x w (.returned (.tuple #[.int .i64 (lagW.mk n x true), .bool (lagW.mk n x true != lagW.mk n t s)])) w2) := fun w1 w2 hb1 hb2 =>
    .mk hs.out ((hB2.out w1 hb1).stay hb2) (((((Chg.of_below hb1).mono (T := fun k => k = g) fun _ _ h => h.elim).setCell (p := ⟨g, 1, none⟩) rfl _).setCell (p := ⟨g, 2, none⟩) rfl _).trans ((Chg.of_below hb2).mono fun _ _ h => h.elim))
  clear hs
  have hcn : Hid (∀ W, Calls Try.prog 31 #[.int .i64 x] W fun e w' => e = .returned (.bool true) ∧ W = w') := fun W => counts_yes x W k1 k2
  rcases hk with rfl | ⟨rfl, h⟩
  all_goals
    go_enter Try.func21, Try.ntmps21
    go_wp2_with fail
    refine (hm.out w hB.out).mono ?_
    rintro e w1 ⟨rfl, hb1⟩
    have hB1 := hB.out.stay hb1
    have d1 : w1.cell? ⟨g, 1, none⟩ = some (.int .i64 t) := hB1.cell 1
    have d2 := hd.out w1 hB1
    have f1 : w1.frozen? ⟨g, 1, none⟩ = false := hB1.frozen 1
    have f2 : w1.frozen? ⟨g, 2, none⟩ = false := hB1.frozen 2
    clear hB1
    go_wp2_with (first
      | (go_at_call 31; refine (hcn.out _).mono ?_; rintro e w2 ⟨rfl, rfl⟩)
      | (go_at_call 19; refine (hm2.out _ (hB2.out w1 hb1)).mono ?_; rintro e w2 ⟨rfl, hb2⟩))
    go_ret2
    exact hpost.out _ _ hb1 hb2

theorem see_any (g : Nat) (n t : Int) (s : Bool) (x : Int) (w : World) (h0 : 0 ≤ n) (h1 : n ≤ 1099511627776) (ht : s = true → counts t) (hB : Blk w g 72 [.int .i64 n, .int .i64 t, .bool s]) :
    Calls Try.prog 21 #[.pointer (some ⟨g, 0, none⟩), .int .i64 x] w (SeePost g n t s x w) := by
  by_cases hc : counts x
  · obtain ⟨k1, k2⟩ := hc
    cases s
    · exact see_take g n t false x w h0 h1 ht hB k1 k2 (.inl rfl)
    · by_cases h : t < x
      · exact see_take g n t true x w h0 h1 ht hB k1 k2 (.inr ⟨rfl, h⟩)
      · exact see_keep g n t true x w h0 h1 ht hB (.inr (.inr ⟨k1, k2, rfl, by omega⟩))
  · exact see_keep g n t s x w h0 h1 ht hB (by unfold counts at hc; omega)

theorem stepT_no {p : Int × Bool} {x : Int} (h : ¬ counts x) : stepT p x = p := if_neg fun e => h e.1
theorem stepT_new {p : Int × Bool} {x : Int} (h : counts x) (h' : p.2 = false ∨ p.1 < x) : stepT p x = (x, true) := if_pos ⟨h, h'⟩
theorem stepT_old {t x : Int} (h : x ≤ t) : stepT (t, true) x = (t, true) := if_neg fun e => by
  rcases e.2 with e | e
  · cases e
  · simp at e; omega
theorem topOf_next {l : List Int} {k : Nat} {x : Int} {p : Int × Bool} (h : topOf (l.take k) = p) (hx : l[k]? = some x) : topOf (l.take (k + 1)) = stepT p x := by
  rw [List.take_add_one, hx]
  show topOf (l.take k ++ [x]) = _
  rw [topOf_snoc, h]

set_option maxHeartbeats 400000 in
theorem top_any (A : Option Addr) (c : Nat) (F : Nat → Prop) (l : List Int) (w : World) (hn : l.length ≤ 2097152) (t : Int) (s : Bool) (h : topOf l = (t, s))
    (ra : Rd w F (.slice A l.length c) (.sl l.length (l.flatMap (intD .i64)))) :
    Calls Try.prog 30 #[.slice A l.length c] w fun e w' => e = .returned (.tuple #[.int .i64 t, .bool s]) ∧ w = w' := by
  replace h := Lib.hid h
  go_enter Try.func30, Try.ntmps30
  go_wp2
  go_loop [4, 5, 6] (fun b a i => ∃ (k : Nat) (t : Int) (s : Bool), k ≤ l.length ∧ i = .int .i64 k ∧ b = .int .i64 t ∧ a = .bool s ∧ Hid (topOf (l.take k) = (t, s))) (fun _ _ i => l.length - (intOf i).toNat)
  case atStart => exact ⟨0, _, _, Nat.zero_le _, rfl, rfl, rfl, rfl⟩
  case round =>
    obtain ⟨k, b, a, hk, rfl, rfl, rfl, hS⟩ := hrel
    by_cases hlt : k < l.length
    · obtain ⟨x, hx⟩ := getx hlt
      obtain ⟨bk, off, rfl, _, hc⟩ := ra.at_ hx
      have hN := Lib.hid (topOf_next hS.out hx)
      clear hx
      by_cases h1 : x < -1152921504606846976
      · replace hN := Lib.hid (hN.out.trans (stepT_no (by unfold counts; omega)))
        go_wp2
        go_round
        case rel => exact ⟨k + 1, _, _, by omega, by go_num, rfl, rfl, hN⟩
        case measure => simp [intOf]; omega
      · by_cases h2 : 1152921504606846976 < x
        · replace hN := Lib.hid (hN.out.trans (stepT_no (by unfold counts; omega)))
          go_wp2
          go_round
          case rel => exact ⟨k + 1, _, _, by omega, by go_num, rfl, rfl, hN⟩
          case measure => simp [intOf]; omega
        · have hcx : Hid (counts x) := ⟨by omega, by omega⟩
          cases a
          · replace hN := Lib.hid (hN.out.trans (stepT_new hcx.out (.inl rfl)))
            go_wp2
            go_round
            case rel => exact ⟨k + 1, _, _, by omega, by go_num, rfl, rfl, hN⟩
            case measure => simp [intOf]; omega
          · by_cases h3 : b < x
            · replace hN := Lib.hid (hN.out.trans (stepT_new hcx.out (.inr h3)))
              go_wp2
              go_round
              case rel => exact ⟨k + 1, _, _, by omega, by go_num, rfl, rfl, hN⟩
              case measure => simp [intOf]; omega
            · replace hN := Lib.hid (hN.out.trans (stepT_old (by omega)))
              go_wp2
              go_round
              case rel => exact ⟨k + 1, _, _, by omega, by go_num, rfl, rfl, hN⟩
              case measure => simp [intOf]; omega
    · have hkk : k = l.length := by omega
      subst hkk
      have e := hS.out
      rw [List.take_length, h.out] at e
      injection e with e1 e2
      subst e1 e2
      go_wp2
      go_ret2
      exact ⟨rfl, rfl⟩

set_option maxHeartbeats 400000 in
theorem rmark_any (g : Nat) (n : Int) (v : Value) (F : Nat → Prop) (l : List Int) (w : World) (hn : l.length ≤ 2097152) (h0 : 0 ≤ n) (h1 : n ≤ 1099511627776) (t : Int) (s : Bool) (h : topOf l = (t, s))
    (hB : Blk w g 74 [.int .i64 n, v]) (ra : Rd w F v (.sl l.length (l.flatMap (intD .i64)))) :
    Calls Try.prog 20 #[.pointer (some ⟨g, 0, none⟩)] w fun e w' => e = .returned (.int .i64 (lagW.mk n t s)) ∧ w = w' := by
  obtain ⟨A, c, rfl, _⟩ := ra.sl_inv
  have hok := topOf_ok l
  rw [h] at hok
  have ht := Lib.hid (fun W (e : W = w) => top_any A c F l W hn t s h (e ▸ ra))
  have c0 : w.cell? ⟨g, 0, none⟩ = some (.int .i64 n) := hB.cell 0
  have c1 : w.cell? ⟨g, 1, none⟩ = some (.slice A l.length c) := hB.cell 1
  clear h hB ra
  cases s
  · clear hok
    have hm := Lib.hid (mk_false n t)
    go_enter Try.func20, Try.ntmps20
    go_wp2_with (go_at_call 30; refine (ht.out _ rfl).mono ?_; rintro e w2 ⟨rfl, rfl⟩)
    go_ret
    exact ⟨ret_int (by rw [hm.out]), rfl⟩
  · obtain ⟨t1, t2⟩ := hok rfl
    simp only at t1 t2
    clear hok
    by_cases hc : t - n - 1 < -1152921504606846976
    · have hm := Lib.hid (mk_low hc)
      go_enter Try.func20, Try.ntmps20
      go_wp2_with (go_at_call 30; refine (ht.out _ rfl).mono ?_; rintro e w2 ⟨rfl, rfl⟩)
      go_ret
      exact ⟨ret_int (by rw [hm.out]), rfl⟩
    · have hm := Lib.hid (mk_high (n := n) (t := t) (by omega))
      go_enter Try.func20, Try.ntmps20
      go_wp2_with (go_at_call 30; refine (ht.out _ rfl).mono ?_; rintro e w2 ⟨rfl, rfl⟩)
      go_ret
      exact ⟨ret_int (by rw [hm.out]), rfl⟩
end Go.Proofs.Ytfnejelbacpheaa.lagW
