/- MergeLows: the combined mark of the program and of the document. No conditions beyond the size. -/
import Derived.Test.YtfnejelbacpheaaProg
import Derived.Test.YtfnejelbacpheaaOwn
namespace Go.Proofs.Ytfnejelbacpheaa.mergeLowsW
open Go.RowKit Go.Deep
set_option linter.unusedVariables false

def skip (ds : List Bool) (k : Nat) : Bool := ds[k]?.getD false
def lowS (s : Int) (t : Bool) (x : Int) : Int × Bool := if t = false ∨ x < s then (x, true) else (s, t)

def lowF (ms : List Int) (ds : List Bool) : Nat → Int × Bool
  | 0 => (1152921504606846976, false)
  | k + 1 => if skip ds k then lowF ms ds k else lowS (lowF ms ds k).1 (lowF ms ds k).2 (ms[k]?.getD 0)

def opnL (ms : List Int) (ds : List Bool) : Nat → List Int
  | 0 => []
  | k + 1 => if skip ds k then opnL ms ds k else opnL ms ds k ++ [ms[k]?.getD 0]

def ofL : List Int → Int × Bool
  | [] => (1152921504606846976, false)
  | a :: r => (r.foldl min a, true)

theorem lowS_take {s x : Int} {t : Bool} (hc : t = false ∨ x < s) : lowS s t x = (x, true) := by unfold lowS; exact if_pos hc
theorem lowS_keep {s x : Int} (hc : s ≤ x) : lowS s true x = (s, true) := by unfold lowS; exact if_neg (by simp; omega)

theorem ofL_snoc (l : List Int) (m : Int) : ofL (l ++ [m]) = lowS (ofL l).1 (ofL l).2 m := by
  cases l with
  | nil => rfl
  | cons a r =>
    show ((r ++ [m]).foldl min a, true) = lowS (r.foldl min a) true m
    rw [List.foldl_append]
    show (min (r.foldl min a) m, true) = _
    by_cases h : m < List.foldl min a r
    · rw [lowS_take (.inr h), Int.min_eq_right (by omega)]
    · rw [lowS_keep (by omega), Int.min_eq_left (by omega)]

theorem lowF_opnL (ms : List Int) (ds : List Bool) (k : Nat) : lowF ms ds k = ofL (opnL ms ds k) := by
  induction k with
  | zero => rfl
  | succ k ih =>
    simp only [lowF, opnL]
    split
    · exact ih
    · rw [ofL_snoc, ih]

theorem opnL_len (ms : List Int) (ds : List Bool) (k : Nat) : (opnL ms ds k).length ≤ k := by
  induction k with
  | zero => simp [opnL]
  | succ k ih =>
    simp only [opnL]
    split
    · omega
    · simp; omega

theorem lowF_succ (ms : List Int) (ds : List Bool) (k : Nat) : lowF ms ds (k + 1) = if skip ds k then lowF ms ds k else lowS (lowF ms ds k).1 (lowF ms ds k).2 (ms[k]?.getD 0) := rfl
theorem low_skip {ms : List Int} {ds : List Bool} {k : Nat} {p : Int × Bool} (h : lowF ms ds k = p) (hs : skip ds k = true) : lowF ms ds (k + 1) = p := by
  rw [lowF_succ, if_pos hs]; exact h
theorem low_take {ms : List Int} {ds : List Bool} {k : Nat} {s x : Int} {t : Bool} (h : lowF ms ds k = (s, t)) (hs : skip ds k = false) (hx : ms[k]? = some x) (hc : t = false ∨ x < s) : lowF ms ds (k + 1) = (x, true) := by
  rw [lowF_succ, if_neg (by simp [hs]), h, hx]; exact lowS_take hc
theorem low_keep {ms : List Int} {ds : List Bool} {k : Nat} {s x : Int} (h : lowF ms ds k = (s, true)) (hs : skip ds k = false) (hx : ms[k]? = some x) (hc : s ≤ x) : lowF ms ds (k + 1) = (s, true) := by
  rw [lowF_succ, if_neg (by simp [hs]), h, hx]; exact lowS_keep hc
theorem opnL_succ (ms : List Int) (ds : List Bool) (k : Nat) : opnL ms ds (k + 1) = if skip ds k then opnL ms ds k else opnL ms ds k ++ [ms[k]?.getD 0] := rfl
theorem opn_skip {ms : List Int} {ds : List Bool} {k : Nat} {l : List Int} (h : opnL ms ds k = l) (hs : skip ds k = true) : opnL ms ds (k + 1) = l := by
  rw [opnL_succ, if_pos hs]; exact h
theorem opn_take {ms : List Int} {ds : List Bool} {k : Nat} {l : List Int} {x : Int} (h : opnL ms ds k = l) (hs : skip ds k = false) (hx : ms[k]? = some x) : opnL ms ds (k + 1) = l ++ [x] := by
  rw [opnL_succ, if_neg (by simp [hs]), h, hx]; rfl

set_option maxHeartbeats 400000 in
theorem low_any (A B : Option Addr) (c d : Nat) (F G : Nat → Prop) (ms : List Int) (ds : List Bool) (w : World) (hn : ms.length ≤ 1048576) (hm : ds.length ≤ 1048576)
    (ra : Rd w F (.slice A ms.length c) (.sl ms.length (ms.flatMap (intD .i64)))) (rb : Rd w G (.slice B ds.length d) (.sl ds.length (ds.flatMap boolD))) :
    Calls Try.prog 11 #[.slice A ms.length c, .slice B ds.length d] w fun e w' => e = .returned (.int .i64 (lowF ms ds ms.length).1) ∧ w = w' := by
  go_enter Try.func11, Try.ntmps11
  go_wp2
  go_loop [5, 6, 7, 8, 11] (fun lo any _ _ i => ∃ (k : Nat) (s : Int) (t : Bool), k ≤ ms.length ∧ i = .int .i64 k ∧ lo = .int .i64 s ∧ any = .bool t ∧ Hid (lowF ms ds k = (s, t))) (fun _ _ _ _ i => ms.length - (intOf i).toNat)
  case atStart => exact ⟨0, _, _, Nat.zero_le _, rfl, rfl, rfl, rfl⟩
  case round =>
    obtain ⟨k, s, t, hk, rfl, rfl, rfl, hS⟩ := hrel
    by_cases hlt : k < ms.length
    · obtain ⟨x, hx⟩ := getx hlt
      obtain ⟨b, off, rfl, _, hc⟩ := ra.at_ hx
      replace hx := Lib.hid hx
      by_cases h2 : k < ds.length
      · obtain ⟨y, hy⟩ := getx h2
        obtain ⟨b2, off2, rfl, _, hc2⟩ := rb.at_ hy
        have hy : Hid (skip ds k = y) := by show skip ds k = y; simp [skip, hy]
        cases y
        · cases t
          · go_wp2
            go_round
            case rel => exact ⟨k + 1, _, _, by omega, by go_num, rfl, rfl, low_take hS.out hy.out hx.out (.inl rfl)⟩
            case measure => simp [intOf]; omega
          · by_cases h3 : x < s
            · go_wp2
              go_round
              case rel => exact ⟨k + 1, _, _, by omega, by go_num, rfl, rfl, low_take hS.out hy.out hx.out (.inr h3)⟩
              case measure => simp [intOf]; omega
            · go_wp2
              go_round
              case rel => exact ⟨k + 1, _, _, by omega, by go_num, rfl, rfl, low_keep hS.out hy.out hx.out (by omega)⟩
              case measure => simp [intOf]; omega
        · go_wp2
          go_round
          case rel => exact ⟨k + 1, _, _, by omega, by go_num, rfl, rfl, low_skip hS.out hy.out⟩
          case measure => simp [intOf]; omega
      · have hy : Hid (skip ds k = false) := by show skip ds k = false; simp [skip, List.getElem?_eq_none (Nat.not_lt.1 h2)]
        cases t
        · go_wp2
          go_round
          case rel => exact ⟨k + 1, _, _, by omega, by go_num, rfl, rfl, low_take hS.out hy.out hx.out (.inl rfl)⟩
          case measure => simp [intOf]; omega
        · by_cases h3 : x < s
          · go_wp2
            go_round
            case rel => exact ⟨k + 1, _, _, by omega, by go_num, rfl, rfl, low_take hS.out hy.out hx.out (.inr h3)⟩
            case measure => simp [intOf]; omega
          · go_wp2
            go_round
            case rel => exact ⟨k + 1, _, _, by omega, by go_num, rfl, rfl, low_keep hS.out hy.out hx.out (by omega)⟩
            case measure => simp [intOf]; omega
    · have hk : k = ms.length := by omega
      subst hk
      go_wp2
      go_ret
      exact ⟨ret_int (by rw [hS.out]), rfl⟩

theorem el24 : ElT Try.prog 24 2 1 8 := .of Try.underlying24 (by kernel_rfl) (by omega)

/-- what the smallest is after j of the list -/
def minTo (l : List Int) (j : Nat) : Int := (l.take j).foldl min (l[0]?.getD 0)
theorem minTo_succ {l : List Int} {j : Nat} {x : Int} (hx : l[j]? = some x) : minTo l (j + 1) = min (minTo l j) x := by
  unfold minTo
  rw [List.take_add_one, hx, List.foldl_append]; rfl
theorem minTo_end (l : List Int) (h : l ≠ []) : minTo l l.length = (ofL l).1 := by
  cases l with
  | nil => exact absurd rfl h
  | cons a r => unfold minTo; rw [List.take_length]; show r.foldl min (min a a) = _; rw [Int.min_self]; rfl

set_option maxHeartbeats 400000 in
theorem rlow_any (A B : Option Addr) (c d : Nat) (F G : Nat → Prop) (ms : List Int) (ds : List Bool) (w : World) (hn : ms.length ≤ 1048576) (hm : ds.length ≤ 1048576)
    (hF : ∀ b, F b → b < w.heap.size) (hG : ∀ b, G b → b < w.heap.size)
    (ra : Rd w F (.slice A ms.length c) (.sl ms.length (ms.flatMap (intD .i64)))) (rb : Rd w G (.slice B ds.length d) (.sl ds.length (ds.flatMap boolD))) :
    Calls Try.prog 12 #[.slice A ms.length c, .slice B ds.length d] w fun e w' => e = .returned (.int .i64 (lowF ms ds ms.length).1) ∧ Below w.heap.size w w' := by
  go_enter Try.func12, Try.ntmps12
  go_wp2
  go_loopw [5, 6] (fun v i wr => ∃ (k : Nat) (l : List Int), k ≤ ms.length ∧ i = .int .i64 k ∧ OL wr w.heap.size (fun _ => False) 2 1 v l.length (l.flatMap (intD .i64)) ∧ Hid (opnL ms ds k = l) ∧ Below w.heap.size w wr) (fun _ i _ => ms.length - (intOf i).toNat)
  case atStart => exact ⟨0, _, Nat.zero_le _, rfl, .nil _ _ _ _ _, rfl, .refl _ _⟩
  case round =>
    obtain ⟨k, l, hk, rfl, hO, hS, hb⟩ := hrel
    have ra := ra.under hb hF
    have rb := rb.under hb hG
    have hsz := hb.size
    by_cases hlt : k < ms.length
    · obtain ⟨x, hx⟩ := getx hlt
      obtain ⟨b, off, rfl, _, hc⟩ := ra.at_ hx
      replace hx := Lib.hid hx
      have hl : l.length ≤ k := by rw [← hS.out]; exact opnL_len ms ds k
      have hfm : (l ++ [x]).flatMap (intD .i64) = l.flatMap (intD .i64) ++ intD .i64 x := by simp
      replace hfm := Lib.hid hfm
      by_cases h2 : k < ds.length
      · obtain ⟨y, hy⟩ := getx h2
        obtain ⟨b2, off2, rfl, _, hc2⟩ := rb.at_ hy
        have hy : Hid (skip ds k = y) := by show skip ds k = y; simp [skip, hy]
        cases y
        · go_wp2_with (at_builtin; refine wpList_app rfl _ _ _ rfl (m := 1) (news := intD .i64 x) el24 (hO.alloc _) rfl rfl (Src.lit ⟨.v _ rfl, trivial⟩) rfl (by omega) (by omega) (by simp; omega) ?_; intro v' w' hO' hg ha)
          go_roundw
          case rel => exact ⟨k + 1, l ++ [x], by omega, by go_num, by rw [hfm.out]; simpa using hO', opn_take hS.out hy.out hx.out, (hb.alloc hsz _).grown hg (by simp; omega) (fun q hq => (hO.lt q hq).1)⟩
          case measure => simp [intOf]; omega
        · go_wp2
          go_roundw
          case rel => exact ⟨k + 1, l, by omega, by go_num, hO, opn_skip hS.out hy.out, hb⟩
          case measure => simp [intOf]; omega
      · have hy : Hid (skip ds k = false) := by show skip ds k = false; simp [skip, List.getElem?_eq_none (Nat.not_lt.1 h2)]
        go_wp2_with (at_builtin; refine wpList_app rfl _ _ _ rfl (m := 1) (news := intD .i64 x) el24 (hO.alloc _) rfl rfl (Src.lit ⟨.v _ rfl, trivial⟩) rfl (by omega) (by omega) (by simp; omega) ?_; intro v' w' hO' hg ha)
        go_roundw
        case rel => exact ⟨k + 1, l ++ [x], by omega, by go_num, by rw [hfm.out]; simpa using hO', opn_take hS.out hy.out hx.out, (hb.alloc hsz _).grown hg (by simp; omega) (fun q hq => (hO.lt q hq).1)⟩
        case measure => simp [intOf]; omega
    · have hk : k = ms.length := by omega
      subst hk
      have hl : l.length ≤ ms.length := by rw [← hS.out]; exact opnL_len ms ds _
      have hr := hO.rd (G := fun _ => True) (fun _ _ _ => trivial) (fun _ _ _ => trivial)
      obtain ⟨A', c', rfl⟩ := hO.form
      clear hO
      have hfin : Hid (∀ x, x = (ofL l).1 → x = (lowF ms ds ms.length).1) := fun x hx => by rw [lowF_opnL, hS.out]; exact hx
      cases l with
      | nil =>
        go_wp2
        go_ret
        exact ⟨ret_int (hfin.out _ rfl), hb⟩
      | cons a r =>
        have hend := minTo_end (a :: r) (by simp)
        have h0 : minTo (a :: r) 0 = a := rfl
        have hg0 : (a :: r)[0]? = some a := rfl
        have hlen : 0 < (a :: r).length := by simp
        generalize a :: r = l at *
        obtain ⟨b1, o1, rfl, _, hc1⟩ := hr.at_ hg0
        have hne : ((l.length : Int) == 0) = false := beq_eq_false_iff_ne.2 (by omega)
        have hlen' : (0 : Int) < l.length := by omega
        replace h0 := Lib.hid h0
        replace hg0 := Lib.hid hg0
        replace hend := Lib.hid hend
        have hc1' : wr.cell? ⟨b1, o1, none⟩ = some (.int .i64 a) := by simpa using hc1
        clear hc1
        go_wp2
        go_loop [7, 8] (fun lo i => ∃ j : Nat, j ≤ l.length ∧ i = .int .i64 j ∧ lo = .int .i64 (minTo l j)) (fun _ i => l.length - (intOf i).toNat)
        case atStart => exact ⟨0, Nat.zero_le _, rfl, by rw [h0.out]⟩
        case round =>
          obtain ⟨j, hj, rfl, rfl⟩ := hrel
          by_cases hlt : j < l.length
          · obtain ⟨x, hx⟩ := getx hlt
            obtain ⟨b1', o1', e, _, hc2⟩ := hr.at_ hx
            simp at e
            obtain ⟨rfl, rfl⟩ := e
            have hm := Lib.hid (minTo_succ hx)
            clear hx
            by_cases h3 : x < minTo l j
            · go_wp2
              go_round
              case rel => exact ⟨j + 1, by omega, by go_num, by rw [hm.out, Int.min_eq_right (by omega)]⟩
              case measure => simp [intOf]; omega
            · go_wp2
              go_round
              case rel => exact ⟨j + 1, by omega, by go_num, by rw [hm.out, Int.min_eq_left (by omega)]⟩
              case measure => simp [intOf]; omega
          · have hj : j = l.length := by omega
            subst hj
            go_wp2
            go_ret
            exact ⟨ret_int (show minTo l l.length = _ from hfin.out _ hend.out), hb⟩

end Go.Proofs.Ytfnejelbacpheaa.mergeLowsW
