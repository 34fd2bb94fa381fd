/- LagSees: the law's own walk. -/
import Derived.Test.YtfnejelbacpheaaLagSees
import Derived.Test.YtfnejelbacpheaaConv
namespace Go.Proofs.Ytfnejelbacpheaa.lagSeesW
open Go.RowKit Go.Deep
open Go.Proofs.Ytfnejelbacpheaa.lagW
set_option linter.unusedVariables false

theorem ls_marks {w : World} {gl gm : Nat} {n : Int} {l : List Int} {t : Int} {s : Bool} (h0 : 0 ≤ n) (h1 : n ≤ 1099511627776) (hl : l.length ≤ 2097152) :
    (∀ W, LS w W gl gm n l t s → Calls Try.prog 19 #[.pointer (some ⟨gl, 0, none⟩)] W fun e W1 => e = .returned (.int .i64 (lagW.mk n t s)) ∧ LS w W1 gl gm n l t s) ∧
    (∀ W, LS w W gl gm n l t s → Calls Try.prog 20 #[.pointer (some ⟨gm, 0, none⟩)] W fun e W1 => e = .returned (.int .i64 (lagW.mk n t s)) ∧ LS w W1 gl gm n l t s) := by
  constructor
  · intro W h
    have hok := topOf_ok l
    rw [h.2.2.2.2.2] at hok
    exact (mark_b gl n t s W h0 h1 hok h.2.2.2.1).mono fun e W1 hp => ⟨hp.1, h.stay hp.2⟩
  · intro W h
    refine (rmark_m _ gm n l W hl h0 h1 h.2.2.2.2.1).mono fun e W1 hp => ?_
    obtain ⟨he, rfl⟩ := hp
    rw [h.2.2.2.2.2] at he
    exact ⟨he, h⟩

set_option maxHeartbeats 800000 in
theorem law_bad (A : Option Addr) (c : Nat) (n : Int) (l : List Int) (w : World) (h : n < 0 ∨ (0 ≤ n ∧ 1099511627776 < n)) :
    Calls Try.prog 7 #[.int .i64 n, .slice A l.length c] w fun e w' => e = .returned (.bool true) ∧ Below w.heap.size w w' := by
  have a1 := Lib.hid (fun W => new_bad n W h)
  have a2 := Lib.hid (fun W => rnew_bad n W h)
  clear h
  go_enter Try.func7, Try.ntmps7
  go_wp2_with (first
    | (go_at_call 17; refine (a1.out _).mono ?_; rintro e w' ⟨rfl, rfl⟩)
    | (go_at_call 18; refine (a2.out _).mono ?_; rintro e w' ⟨rfl, rfl⟩))
  go_ret
  exact ⟨rfl, Below.refl _ _⟩

set_option maxHeartbeats 800000 in
theorem law_ok (A : Option Addr) (c : Nat) (n : Int) (l : List Int) (w : World) (hl : l.length ≤ 1048576) (h0 : 0 ≤ n) (h1 : n ≤ 1099511627776)
    (ra : Rd w (fun b => b < w.heap.size) (.slice A l.length c) (.sl l.length (l.flatMap (intD .i64)))) :
    Calls Try.prog 7 #[.int .i64 n, .slice A l.length c] w fun e w' => e = .returned (.bool true) ∧ Below w.heap.size w w' := by
  have hm0 := Lib.hid (ls_marks (w := w) (gl := w.heap.size) (gm := w.heap.size + 1) (n := n) (l := []) (t := 0) (s := false) h0 h1 (by simp))
  have hs0 : Hid (LS w ((w.alloc (.cells #[.int .i64 n, .int .i64 0, .bool false] 72)).alloc (.cells #[.int .i64 n, .slice none 0 0] 74)) w.heap.size (w.heap.size + 1) n [] 0 false) :=
    ⟨((Below.refl _ _).alloc (Nat.le_refl _) _).alloc (by simp) _, Nat.le_refl _, by omega, (Blk.new _ _ _).alloc _, ⟨_, Blk.new' (cs := [.int .i64 n, .slice none 0 0]) (by simp), .nil _ _ _ _ _⟩, rfl⟩
  go_enter Try.func7, Try.ntmps7
  go_wp2_with (first
    | (go_at_call 17; refine (new_ok n _ h0 h1).mono ?_; rintro e w' ⟨rfl, rfl⟩)
    | (go_at_call 18; refine (rnew_ok n _ h0 h1).mono ?_; rintro e w' ⟨rfl, rfl⟩)
    | (go_at_call 19; refine (hm0.out.1 _ hs0.out).mono ?_; rintro e w1 ⟨rfl, hs1⟩)
    | (go_at_call 20; refine (hm0.out.2 _ hs1).mono ?_; rintro e w2 ⟨rfl, hs2⟩))
  go_loopw [9] (fun i wr => ∃ (k : Nat) (t : Int) (s : Bool), k ≤ l.length ∧ i = .int .i64 k ∧ LS w wr w.heap.size (w.heap.size + 1) n (l.take k) t s) (fun i _ => l.length - (intOf i).toNat)
  case atStart => exact ⟨0, 0, false, Nat.zero_le _, rfl, hs2⟩
  case round =>
    clear hs2 hs1
    obtain ⟨k, t, s, hk, rfl, hs⟩ := hrel
    by_cases hlt : k < l.length
    · obtain ⟨x, hx⟩ := getx hlt
      have hb := hs.1
      obtain ⟨b, off, rfl, _, hc⟩ := (ra.under hb (fun _ h => h)).at_ hx
      obtain ⟨t', s', M, D, ⟨m, d, rfl, rfl, hmm⟩, hsee⟩ := ls_sees (w := w) (gl := w.heap.size) (gm := w.heap.size + 1) (n := n) (l := l.take k) (t := t) (s := s) x h0 h1 (by simp; omega)
      have htk : l.take k ++ [x] = l.take (k + 1) := by rw [List.take_add_one, hx]; rfl
      rw [htk] at hsee
      have hm := ls_marks (w := w) (gl := w.heap.size) (gm := w.heap.size + 1) (n := n) (l := l.take (k + 1)) (t := t') (s := s') h0 h1 (by simp; omega)
      rw [← hmm] at hm
      have hx' := Lib.hid hx
      replace hs := Lib.hid hs
      replace hsee := Lib.hid hsee
      replace hm := Lib.hid hm
      clear hmm htk hx
      go_wp2_with (first
        | (go_at_call 21
           refine (hsee.out _ hs.out).mono ?_
           rintro e w3 ⟨rfl, hb3, hr3⟩
           obtain ⟨b', off', e', _, hc3⟩ := (ra.under hb3 (fun _ h => h)).at_ hx'.out
           injection e' with e'
           injection e' with e1 e2
           subst e1 e2
           replace hr3 := Lib.hid hr3
           clear hc)
        | (go_at_call 22
           refine hr3.out.mono ?_
           rintro e w4 ⟨rfl, hs4⟩
           replace hs4 := Lib.hid hs4)
        | (go_at_call 19
           refine (hm.out.1 _ hs4.out).mono ?_
           rintro e w5 ⟨rfl, hs5⟩
           replace hs5 := Lib.hid hs5)
        | (go_at_call 20
           refine (hm.out.2 _ hs5.out).mono ?_
           rintro e w6 ⟨rfl, hs6⟩
           replace hs6 := Lib.hid hs6))
      go_roundw
      case rel => exact ⟨k + 1, t', s', by omega, by go_num, hs6.out⟩
      case measure => simp [intOf]; omega
    · go_wp2
      go_ret
      exact ⟨rfl, hs.1⟩

theorem walk {A : Option Addr} {len cap N0 N1 : Nat} {x1 : D} (W : World) (a0 : Int) (w0 : (Lit.int .i64 a0).wf = true) (rd1 : Rd W (fun b => b < W.heap.size) (.slice A len cap) x1) (ft1 : Fits (.sl [.int .i64]) x1 N1) (hN : N0 + (N1 + 0) ≤ 1048576) :
    Calls Try.prog 7 #[.int .i64 a0, .slice A len cap] W fun e w' => e = .returned (.bool true) ∧ Below W.heap.size W w' := by
  obtain ⟨l, rfl, _, h1⟩ := ft1.ints
  obtain ⟨A', c', e, _⟩ := rd1.sl_inv
  injection e with e1 e2 e3
  subst e1 e2 e3
  by_cases h : 0 ≤ a0 ∧ a0 ≤ 1099511627776
  · exact law_ok _ _ a0 l W (by omega) h.1 h.2 rd1
  · exact law_bad _ _ a0 l W (by omega)
end Go.Proofs.Ytfnejelbacpheaa.lagSeesW
