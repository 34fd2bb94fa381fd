/- Disorder: the program's and the document's answer the plain one. -/
import Derived.Test.YtfnejelbacpheaaSt
namespace Go.Proofs.Ytfnejelbacpheaa
open Go.RowKit Go.Deep
set_option linter.unusedVariables false
namespace stW
open lagW
/-- the disorder of the first k events -/
def disTo (l : List Ev) : Nat → Int
  | 0 => 0
  | k + 1 => match l[k]? with
    | none => disTo l k
    | some e => if counts e.ts ∧ (topOf ((tsOf l).take k)).2 = true ∧ disTo l k < (topOf ((tsOf l).take k)).1 - e.ts then (topOf ((tsOf l).take k)).1 - e.ts else disTo l k
theorem dis_new {l : List Ev} {k : Nat} {e : Ev} {t : Int} {s : Bool} (h : l[k]? = some e) (hp : topOf ((tsOf l).take k) = (t, s)) (h1 : counts e.ts ∧ s = true ∧ disTo l k < t - e.ts) : disTo l (k + 1) = t - e.ts := by
  simp only [disTo, h, hp]; exact if_pos h1
theorem dis_old {l : List Ev} {k : Nat} {e : Ev} {t : Int} {s : Bool} (h : l[k]? = some e) (hp : topOf ((tsOf l).take k) = (t, s)) (h1 : ¬ (counts e.ts ∧ s = true ∧ disTo l k < t - e.ts)) : disTo l (k + 1) = disTo l k := by
  simp only [disTo, h, hp]; exact if_neg h1
theorem dis_pos (l : List Ev) (k : Nat) : 0 ≤ disTo l k := by
  induction k with
  | zero => simp [disTo]
  | succ k ih =>
    simp only [disTo]
    split
    · exact ih
    · split <;> omega
def topP (p : Int × Bool) : Int := if p.2 = true then p.1 else -1152921504606846976

set_option maxHeartbeats 800000 in
theorem dis_k (A : Option Addr) (c : Nat) (F : Nat → Prop) (l : List Ev) (w : World) (hl : l.length ≤ 1048576) (hF : ∀ b, F b → b < w.heap.size) (r : Rd w F (.slice A l.length c) (.sl l.length (l.flatMap evD))) :
    Calls Try.prog 24 #[.slice A l.length c] w fun e w' => e = .returned (.int .i64 (disTo l l.length)) ∧ Below w.heap.size w w' := by
  have ky := Lib.hid counts_yes
  have kn := Lib.hid counts_no
  replace r := Lib.hid r
  replace hF := Lib.hid hF
  go_enter Try.func24, Try.ntmps24
  go_wp2
  go_loopw [3, 4, 9] (fun m t x wr => ∃ k : Nat, k ≤ l.length ∧ x = .int .i64 k ∧ m = .int .i64 (disTo l k) ∧ t = .int .i64 (topP (topOf ((tsOf l).take k))) ∧ Below w.heap.size w wr) (fun _ _ x _ => l.length - (intOf x).toNat)
  case atStart => exact ⟨0, Nat.zero_le _, rfl, rfl, rfl, .refl _ _⟩
  case round =>
    obtain ⟨k, hk, rfl, rfl, rfl, hB⟩ := hrel
    by_cases hlt : k < l.length
    · obtain ⟨e, he⟩ := getx hlt
      obtain ⟨b, off, rfl, hFb, hv, _⟩ := (r.out.under hB hF.out).rowv (m := 11) (fun _ => rfl) he (by omega)
      have x0 : wr.cell? ⟨b, off + k * 11, none⟩ = some (.int .i64 e.ts) := hv 0 _ rfl
      have x1 : wr.cell? ⟨b, off + k * 11 + 1, none⟩ = some (.int .u64 e.id) := hv 1 _ rfl
      have x2 : wr.cell? ⟨b, off + k * 11 + 2, none⟩ = some (.int .i64 e.typ) := hv 2 _ rfl
      have x3 : wr.cell? ⟨b, off + k * 11 + 3, none⟩ = some (.int .i64 e.a0) := hv 3 _ rfl
      have x4 : wr.cell? ⟨b, off + k * 11 + 4, none⟩ = some (.int .i64 e.a1) := hv 4 _ rfl
      have x5 : wr.cell? ⟨b, off + k * 11 + 5, none⟩ = some (.int .i64 e.a2) := hv 5 _ rfl
      have x6 : wr.cell? ⟨b, off + k * 11 + 6, none⟩ = some (.int .i64 e.a3) := hv 6 _ rfl
      have x7 : wr.cell? ⟨b, off + k * 11 + 7, none⟩ = some (.int .i64 e.a4) := hv 7 _ rfl
      have x8 : wr.cell? ⟨b, off + k * 11 + 8, none⟩ = some (.int .i64 e.a5) := hv 8 _ rfl
      have x9 : wr.cell? ⟨b, off + k * 11 + 9, none⟩ = some (.int .i64 e.a6) := hv 9 _ rfl
      have x10 : wr.cell? ⟨b, off + k * 11 + 10, none⟩ = some (.int .i64 e.a7) := hv 10 _ rfl
      have g0 : (0 : Int) ≤ (k : Int) := by omega
      have g1 : (k : Int) < l.length := by omega
      have hok := topOf_ok ((tsOf l).take k)
      have htn := topNext he
      obtain ⟨⟨t, s⟩, hp⟩ : ∃ p, p = topOf ((tsOf l).take k) := ⟨_, rfl⟩
      have hd1 := fun h => dis_new (t := t) (s := s) he hp.symm h
      have hd2 := fun h => dis_old (t := t) (s := s) he hp.symm h
      have hpos := dis_pos l k
      rw [← hp] at hok htn ⊢
      generalize disTo l k = dd at *
      have hB2 := hB.alloc hB.size (.cells #[.int .i64 e.ts, .int .u64 e.id, .int .i64 e.typ, .int .i64 e.a0, .int .i64 e.a1, .int .i64 e.a2, .int .i64 e.a3, .int .i64 e.a4, .int .i64 e.a5, .int .i64 e.a6, .int .i64 e.a7] 38)
      replace hB2 := Lib.hid hB2
      clear hv he
      generalize e.ts = ts at *
      by_cases hc : counts ts
      · have hcy := Lib.hid (fun W => ky.out ts W hc.1 hc.2)
        obtain ⟨hc1, hc2⟩ := hc
        cases s
        · have hd := hd2 (fun h => by cases h.2.1)
          have ht2 : topOf ((tsOf l).take (k + 1)) = (ts, true) := by rw [htn]; exact stepT_new (p := (t, false)) ⟨hc1, hc2⟩ (.inl rfl)
          have htp : topP (t, false) = -1152921504606846976 := rfl
          have htq : topP (ts, true) = ts := rfl
          rw [htp]
          have f1 : -1152921504606846976 - ts ≤ dd := by omega
          replace hd := Lib.hid hd
          replace ht2 := Lib.hid ht2
          replace htq := Lib.hid htq
          clear hd1 hd2 htn hok
          go_wp2_with (go_at_call 31; refine (hcy.out _).mono ?_; rintro e2 w' ⟨rfl, rfl⟩)
          go_roundw
          case rel => exact ⟨k + 1, by omega, by go_num, by rw [hd.out], by rw [ht2.out, htq.out]; congr 1; split <;> omega, hB2.out⟩
          case measure => simp [intOf]; omega
        · have htp : topP (t, true) = t := rfl
          rw [htp]
          obtain ⟨o1, o2⟩ := hok rfl
          simp only at o1 o2
          by_cases a1 : dd < t - ts
          · have hd := hd1 ⟨⟨hc1, hc2⟩, rfl, a1⟩
            by_cases a2 : t < ts
            · omega
            · have ht2 : topOf ((tsOf l).take (k + 1)) = (t, true) := by rw [htn]; exact stepT_old (by omega)
              replace hd := Lib.hid hd
              replace ht2 := Lib.hid ht2
              clear hd1 hd2 htn hok
              go_wp2_with (go_at_call 31; refine (hcy.out _).mono ?_; rintro e2 w' ⟨rfl, rfl⟩)
              go_roundw
              case rel => exact ⟨k + 1, by omega, by go_num, by rw [hd.out], by rw [ht2.out]; rfl, hB2.out⟩
              case measure => simp [intOf]; omega
          · have hd := hd2 (fun h => a1 h.2.2)
            by_cases a2 : t < ts
            · have ht2 : topOf ((tsOf l).take (k + 1)) = (ts, true) := by rw [htn]; exact stepT_new (p := (t, true)) ⟨hc1, hc2⟩ (.inr a2)
              replace hd := Lib.hid hd
              replace ht2 := Lib.hid ht2
              clear hd1 hd2 htn hok
              go_wp2_with (go_at_call 31; refine (hcy.out _).mono ?_; rintro e2 w' ⟨rfl, rfl⟩)
              go_roundw
              case rel => exact ⟨k + 1, by omega, by go_num, by rw [hd.out], by rw [ht2.out]; rfl, hB2.out⟩
              case measure => simp [intOf]; omega
            · have ht2 : topOf ((tsOf l).take (k + 1)) = (t, true) := by rw [htn]; exact stepT_old (by omega)
              replace hd := Lib.hid hd
              replace ht2 := Lib.hid ht2
              clear hd1 hd2 htn hok
              go_wp2_with (go_at_call 31; refine (hcy.out _).mono ?_; rintro e2 w' ⟨rfl, rfl⟩)
              go_roundw
              case rel => exact ⟨k + 1, by omega, by go_num, by rw [hd.out], by rw [ht2.out]; rfl, hB2.out⟩
              case measure => simp [intOf]; omega
      · have hcn := Lib.hid (fun W => kn.out ts W (by unfold counts at hc; omega))
        have hd := hd2 (fun h => hc h.1)
        have ht2 : topOf ((tsOf l).take (k + 1)) = (t, s) := by rw [htn]; exact stepT_no hc
        replace hd := Lib.hid hd
        replace ht2 := Lib.hid ht2
        replace hp := Lib.hid hp
        clear hd1 hd2 htn hc hok
        go_wp2_with (go_at_call 31; refine (hcn.out _).mono ?_; rintro e2 w' ⟨rfl, rfl⟩)
        go_roundw
        case rel => exact ⟨k + 1, by omega, by go_num, by rw [hd.out], by rw [ht2.out], hB2.out⟩
        case measure => simp [intOf]; omega
    · obtain rfl : k = l.length := by omega
      go_wp2
      go_ret
      exact ⟨rfl, hB⟩

set_option maxHeartbeats 800000 in
theorem rdis_k (A : Option Addr) (c : Nat) (F : Nat → Prop) (l : List Ev) (w : World) (hl : l.length ≤ 1048576) (hF : ∀ b, F b → b < w.heap.size) (r : Rd w F (.slice A l.length c) (.sl l.length (l.flatMap evD))) :
    Calls Try.prog 27 #[.slice A l.length c] w fun e w' => e = .returned (.int .i64 (disTo l l.length)) ∧ Below w.heap.size w w' := by
  have kt := Lib.hid top_any
  replace r := Lib.hid r
  replace hF := Lib.hid hF
  go_enter Try.func27, Try.ntmps27
  go_wp2
  go_loopw [3, 4, 5, 6, 7, 8] (fun m v x _ _ _ wr => ∃ k : Nat, k ≤ l.length ∧ x = .int .i64 k ∧ m = .int .i64 (disTo l k) ∧ OL wr w.heap.size (fun _ => False) 2 1 v k (((tsOf l).take k).flatMap (intD .i64)) ∧ Below w.heap.size w wr) (fun _ _ x _ _ _ _ => l.length - (intOf x).toNat)
  case atStart => exact ⟨0, Nat.zero_le _, rfl, rfl, .nil _ _ _ _ _, .refl _ _⟩
  case round =>
    obtain ⟨k, hk, rfl, rfl, hO, hB⟩ := hrel
    by_cases hlt : k < l.length
    · obtain ⟨e, he⟩ := getx hlt
      obtain ⟨b, off, rfl, hFb, hv, _⟩ := (r.out.under hB hF.out).rowv (m := 11) (fun _ => rfl) he (by omega)
      have x0 : wr.cell? ⟨b, off + k * 11, none⟩ = some (.int .i64 e.ts) := hv 0 _ rfl
      have g0 : (0 : Int) ≤ (k : Int) := by omega
      have g1 : (k : Int) < l.length := by omega
      obtain ⟨V, d, rfl⟩ := hO.form
      have hlk : ((tsOf l).take k).length = k := by simp [tsOf]; omega
      obtain ⟨⟨t, s⟩, hp⟩ : ∃ p, p = topOf ((tsOf l).take k) := ⟨_, rfl⟩
      have hrd : Rd wr (fun _ => True) (.slice V ((tsOf l).take k).length d) (.sl ((tsOf l).take k).length (((tsOf l).take k).flatMap (intD .i64))) := by rw [hlk]; exact hO.rd (fun _ _ _ => trivial) (fun _ _ _ => trivial)
      have kt2 := kt.out V d _ _ wr (by omega) t s hp.symm hrd
      rw [hlk] at kt2
      have hok := topOf_ok ((tsOf l).take k)
      rw [← hp] at hok
      have hd1 := fun h => dis_new (t := t) (s := s) he hp.symm h
      have hd2 := fun h => dis_old (t := t) (s := s) he hp.symm h
      have hpos := dis_pos l k
      have hfm : ((tsOf l).take (k + 1)).flatMap (intD .i64) = ((tsOf l).take k).flatMap (intD .i64) ++ intD .i64 e.ts := by
        rw [show (tsOf l).take (k + 1) = (tsOf l).take k ++ [e.ts] by rw [List.take_add_one]; unfold tsOf; rw [List.getElem?_map, he]; rfl]; simp
      have hsz := hB.size
      generalize disTo l k = dd at *
      replace kt2 := Lib.hid kt2
      replace hfm := Lib.hid hfm
      replace hp := Lib.hid hp
      clear hv he hrd
      generalize e.ts = ts at *
      have hend : ∀ v' w1, OL w1 w.heap.size (fun _ => False) 2 1 v' (k + 1) (((tsOf l).take k).flatMap (intD .i64) ++ intD .i64 ts) → (wr.alloc (.cells #[.int .i64 ts] 2)).grownBy w1 (Value.slice V k d).ownBlock → OL w1 w.heap.size (fun _ => False) 2 1 v' (k + 1) (((tsOf l).take (k + 1)).flatMap (intD .i64)) ∧ Below w.heap.size w w1 := fun v' w1 h1 h2 =>
        ⟨by rw [hfm.out]; exact h1, (hB.alloc hB.size _).grown h2 (by simp; omega) (fun q hq => (hO.lt q hq).1)⟩
      replace hend := Lib.hid hend
      by_cases hc : counts ts ∧ s = true ∧ dd < t - ts
      · have hd := Lib.hid (hd1 hc)
        obtain ⟨⟨c1, c2⟩, rfl, c3⟩ := hc
        obtain ⟨o1, o2⟩ := hok rfl
        simp only at o1 o2
        clear hd1 hd2 hok
        go_wp2_with (first
          | (go_at_call 30; refine kt2.out.mono ?_; rintro e2 w' ⟨rfl, rfl⟩)
          | (at_builtin; refine wpList_app rfl (.tmp 44) (.tmp 46) _ rfl (m := 1) (news := intD .i64 ts) el24 (hO.alloc (.cells #[.int .i64 ts] 2)) rfl rfl (Src.lit ⟨.v _ rfl, trivial⟩) rfl (by omega) (by omega) (by simp; omega) ?_; intro v' w1 hO1 hg1 ha1))
        go_roundw
        case rel => exact ⟨k + 1, by omega, by go_num, by rw [hd.out], (hend.out _ _ hO1 hg1).1, (hend.out _ _ hO1 hg1).2⟩
        case measure => simp [intOf]; omega
      · have hd := Lib.hid (hd2 hc)
        have hcs : s = false ∨ (s = true ∧ ts < -1152921504606846976) ∨ (s = true ∧ -1152921504606846976 ≤ ts ∧ 1152921504606846976 < ts) ∨ (s = true ∧ -1152921504606846976 ≤ ts ∧ ts ≤ 1152921504606846976 ∧ t - ts ≤ dd) := by
          cases s
          · exact .inl rfl
          · unfold counts at hc; simp only [true_and] at hc; simp only [true_and]; omega
        clear hd1 hd2 hc
        rcases hcs with rfl | ⟨rfl, c1⟩ | ⟨rfl, c1, c2⟩ | ⟨rfl, c1, c2, c3⟩
        case inr.inr.inr =>
          obtain ⟨o1, o2⟩ := hok rfl
          simp only at o1 o2
          clear hok
          go_wp2_with (first
            | (go_at_call 30; refine kt2.out.mono ?_; rintro e2 w' ⟨rfl, rfl⟩)
            | (at_builtin; refine wpList_app rfl (.tmp 44) (.tmp 46) _ rfl (m := 1) (news := intD .i64 ts) el24 (hO.alloc (.cells #[.int .i64 ts] 2)) rfl rfl (Src.lit ⟨.v _ rfl, trivial⟩) rfl (by omega) (by omega) (by simp; omega) ?_; intro v' w1 hO1 hg1 ha1))
          go_roundw
          case rel => exact ⟨k + 1, by omega, by go_num, by rw [hd.out], (hend.out _ _ hO1 hg1).1, (hend.out _ _ hO1 hg1).2⟩
          case measure => simp [intOf]; omega
        all_goals
          clear hok
          go_wp2_with (first
            | (go_at_call 30; refine kt2.out.mono ?_; rintro e2 w' ⟨rfl, rfl⟩)
            | (at_builtin; refine wpList_app rfl (.tmp 44) (.tmp 46) _ rfl (m := 1) (news := intD .i64 ts) el24 (hO.alloc (.cells #[.int .i64 ts] 2)) rfl rfl (Src.lit ⟨.v _ rfl, trivial⟩) rfl (by omega) (by omega) (by simp; omega) ?_; intro v' w1 hO1 hg1 ha1))
          go_roundw
          case rel => exact ⟨k + 1, by omega, by go_num, by rw [hd.out], (hend.out _ _ hO1 hg1).1, (hend.out _ _ hO1 hg1).2⟩
          case measure => simp [intOf]; omega
    · obtain rfl : k = l.length := by omega
      go_wp2
      go_ret
      exact ⟨rfl, hB⟩
end stW
end Go.Proofs.Ytfnejelbacpheaa
