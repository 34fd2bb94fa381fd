/- Copies of rules; rules that read alike are the same. -/
import Derived.Test.YtfnejelbacpheaaDoorEx5
namespace Go.Proofs.YtfnejelbacpheaaDoor
open Go.RowKit Go.Deep Go.Maps
set_option linter.unusedVariables false
theorem elRu : ElT Tryd.prog 25 35 3 56 := .of Tryd.underlying25 (by kernel_rfl) (by omega)
namespace nmW
set_option maxHeartbeats 800000 in
theorem twinRules_k (A : Option Addr) (c : Nat) (F : Nat → Prop) (l : List Ru) (hl : SzR l) (w : World) (hF : ∀ b, F b → b < w.heap.size) (r : Rd w F (.slice A l.length c) (.sl l.length (l.flatMap ruD))) :
    Calls Tryd.prog 5 #[.slice A l.length c] w fun e w' => ∃ v, e = .returned v ∧ OL w' w.heap.size (fun b => w.heap.size ≤ b) 35 3 v l.length (l.flatMap ruD) ∧ Below w.heap.size w w' := by
  have k1 := Lib.hid twinStrings_k
  obtain ⟨hl1, hl2⟩ := hl
  replace hl2 := Lib.hid hl2
  replace hF := Lib.hid hF
  replace r := Lib.hid r
  go_enter Tryd.func5, Tryd.ntmps5
  go_wp2
  go_loopw [3, 4, 5] (fun v x _ wr => ∃ (j : Nat), j ≤ l.length ∧ x = .int .i64 j ∧ OL wr w.heap.size (fun b => w.heap.size ≤ b) 35 3 v j ((l.take j).flatMap ruD) ∧ Below w.heap.size w wr) (fun _ x _ _ => l.length - (intOf x).toNat)
  case atStart => exact ⟨0, Nat.zero_le _, rfl, .nil _ _ _ _ _, .refl _ _⟩
  case round =>
    obtain ⟨j, hj, rfl, hO, hb⟩ := hrel
    by_cases hlt : j < l.length
    · obtain ⟨t, ht⟩ := getx hlt
      obtain ⟨hs1, hs2, hs3⟩ := hl2.out t (List.mem_of_getElem? ht)
      obtain ⟨b, off, rfl, hFb, hv, hsl⟩ := r.out.rowv (m := 3) (fun _ => rfl) ht (by omega)
      have hfB := hF.out b hFb
      obtain ⟨A2, c2, a2, r2⟩ := hsl 2 _ _ rfl
      replace a2 : wr.cell? ⟨b, off + j * 3 + 2, none⟩ = some (.slice A2 t.attrs.length c2) := (hb.cell (p := ⟨b, off + j * 3 + 2, none⟩) hfB).trans a2
      have hcell : ∀ W3, Below w.heap.size w W3 → W3.cell? ⟨b, off + j * 3 + 1, none⟩ = some (.string t.into) ∧ W3.cell? ⟨b, off + j * 3, none⟩ = some (.string t.query) := fun W3 h3 =>
        ⟨(h3.cell (p := ⟨b, off + j * 3 + 1, none⟩) hfB).trans (hv 1 _ rfl), (h3.cell (p := ⟨b, off + j * 3, none⟩) hfB).trans (hv 0 _ rfl)⟩
      have g0 : (0 : Int) ≤ (j : Int) := by omega
      have g1 : (j : Int) < l.length := by omega
      have r3 := r2.under hb hF.out
      obtain ⟨U0, cu0, hU0⟩ := hO.form
      subst hU0
      replace r2 := Lib.hid r2
      replace r3 := Lib.hid r3
      replace ht := Lib.hid ht
      replace hs3 := Lib.hid hs3
      have hO' := Lib.hid hO
      have hb' := Lib.hid hb
      replace hcell := Lib.hid hcell
      clear hv hsl hO hb
      go_upto_region 6 with (go_at_call 10; refine (k1.out _ _ _ _ hs2 _ r3.out).mono ?_; rintro e W ⟨v1, rfl, hO1, hW⟩; obtain ⟨B1, d1, rfl⟩ := hO1.form)
      have hOW := hO'.out.stay hW
      have hbW := hb'.out.trans (hW.mono hb'.out.size)
      obtain ⟨x1, x0⟩ := hcell.out W hbW
      have hL : RdL W (fun b => w.heap.size ≤ b ∧ some b ≠ (Value.slice U0 j cu0).ownBlock) [.string t.query, .string t.into, .slice B1 t.attrs.length d1] (ruD t) := ⟨.v _ rfl, .v _ rfl, hO1.rd' (fun _ h _ => h.elim) (fun b he hB hlt => ⟨by have := hb'.out.size; omega, fun hu => by have := (hO'.out.lt b hu.symm).2; omega⟩), trivial⟩
      have hfm : (l.take (j + 1)).flatMap ruD = (l.take j).flatMap ruD ++ ruD t := by rw [List.take_add_one, ht.out]; simp
      have hsz := hbW.size
      clear hO1 hW a2
      replace hOW := Lib.hid hOW
      replace hbW := Lib.hid hbW
      replace hL := Lib.hid hL
      replace hfm := Lib.hid hfm
      have hrow : ∀ q, (Value.slice U0 j cu0).ownBlock = some q → w.heap.size ≤ q := fun q hq => (hOW.out.lt q hq).1
      replace hrow := Lib.hid hrow
      go_region_law ((refine step_app (by rfl) (.tmp 18) (.tmp 31) _ (by rfl) (m := 1) (news := ruD t) elRu (by exact (hOW.out.alloc _).drew) (by rfl) (by rfl) (by exact (Src.lit hL.out).drew) rfl (by omega) (by omega) (by simp; omega) ?_; intro v' w1 hO1 hg1 ha1; obtain ⟨B2, d2, rfl⟩ := hO1.form; have hg := undrew hg1))
      all_goals
        have hO3 : OL w1 w.heap.size (fun b => w.heap.size ≤ b) 35 3 (.slice B2 (j + 1) d2) (j + 1) ((l.take (j + 1)).flatMap ruD) := by rw [hfm.out]; exact hO1
        have hb3 : Below w.heap.size w w1 := (hbW.out.alloc hbW.out.size _).grown hg (by simp; omega) hrow.out
        go_wp2_with fail
        go_roundw
        case rel => exact ⟨j + 1, by omega, by go_num, hO3, hb3⟩
        case measure => simp [intOf]; omega
    · obtain rfl : j = l.length := by omega
      rw [List.take_length] at hO
      go_wp2
      go_ret
      exact ⟨_, rfl, hO, hb⟩

set_option maxHeartbeats 800000 in
theorem sameRules_k (A B : Option Addr) (c d : Nat) (F G : Nat → Prop) (l : List Ru) (hl : SzR l) (w : World) (r : Rd w F (.slice A l.length c) (.sl l.length (l.flatMap ruD))) (s : Rd w G (.slice B l.length d) (.sl l.length (l.flatMap ruD))) :
    Calls Tryd.prog 9 #[.slice A l.length c, .slice B l.length d] w fun e w' => e = .returned (.bool true) ∧ Below w.heap.size w w' := by
  have k1 := Lib.hid sameStrings_q
  obtain ⟨hl1, hl2⟩ := hl
  replace hl2 := Lib.hid hl2
  replace r := Lib.hid r
  replace s := Lib.hid s
  go_enter Tryd.func9, Tryd.ntmps9
  go_wp2
  go_loopw [5, 6] (fun x _ wr => ∃ k q : Nat, k ≤ l.length ∧ x = .int .i64 k ∧ wr = w.drewN q) (fun x _ _ => l.length - (intOf x).toNat)
  case atStart => exact ⟨0, 0, Nat.zero_le _, rfl, by first | rfl | simp [World.drewN]⟩
  case round =>
    obtain ⟨k, q, hk, rfl, hw⟩ := hrel
    have rr : Rd wr F (.slice A l.length c) (.sl l.length (l.flatMap ruD)) := by rw [hw]; exact r.out.drewN q
    have ss : Rd wr G (.slice B l.length d) (.sl l.length (l.flatMap ruD)) := by rw [hw]; exact s.out.drewN q
    replace hw := Lib.hid hw
    by_cases hlt : k < l.length
    · obtain ⟨t, ht⟩ := getx hlt
      obtain ⟨hs1, hs2, hs3⟩ := hl2.out t (List.mem_of_getElem? ht)
      obtain ⟨b, off, rfl, hFb, hv, hsl⟩ := rr.rowv (m := 3) (fun _ => rfl) ht (by omega)
      obtain ⟨A2, c2, a2, r2⟩ := hsl 2 _ _ rfl
      have a0 : wr.cell? ⟨b, off + k * 3, none⟩ = some (.string t.query) := hv 0 _ rfl
      have a1 : wr.cell? ⟨b, off + k * 3 + 1, none⟩ = some (.string t.into) := hv 1 _ rfl
      obtain ⟨b', off', rfl, hGb, hv', hsl'⟩ := ss.rowv (m := 3) (fun _ => rfl) ht (by omega)
      obtain ⟨B2, d2, b2, s2⟩ := hsl' 2 _ _ rfl
      have b0 : wr.cell? ⟨b', off' + k * 3, none⟩ = some (.string t.query) := hv' 0 _ rfl
      have b1 : wr.cell? ⟨b', off' + k * 3 + 1, none⟩ = some (.string t.into) := hv' 1 _ rfl
      have g0 : (0 : Int) ≤ (k : Int) := by omega
      have g1 : (k : Int) < l.length := by omega
      replace r2 := Lib.hid r2
      replace s2 := Lib.hid s2
      clear hv hsl hv' hsl' ht hs3 rr ss
      go_wp2
      go_quiet ((go_at_call 17; exact Calls.quiet_of (k1.out _ _ _ _ _ _ _ hs2 _ (r2.out.drewN _) (s2.out.drewN _))))
      go_wp2
      go_quiet (fail)
      go_wp2
      go_roundw
      case rel => exact ⟨k + 1, _, by omega, by go_num, by rw [hw.out]; first | rfl | (simp; rfl)⟩
      case measure => simp [intOf]; omega
    · obtain rfl : k = l.length := by omega
      go_wp2
      go_ret
      exact ⟨rfl, by rw [hw.out]; exact below_drewN (Below.refl _ _) _⟩
end nmW
end Go.Proofs.YtfnejelbacpheaaDoor
