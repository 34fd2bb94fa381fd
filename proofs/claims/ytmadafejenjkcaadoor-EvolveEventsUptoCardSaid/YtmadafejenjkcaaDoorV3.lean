/- The document's answer for changed schemas: an attribute moved; what a change does to the attributes of its type. -/
import Derived.Test.YtmadafejenjkcaaDoorV2
namespace Go.Proofs.YtmadafejenjkcaaDoor
open Go.RowKit Go.Deep
set_option linter.unusedVariables false

def mvTo (rest : List Fd) (x : Fd) (n : Int) (i : Nat) : List Fd := if 0 ≤ n ∧ n < i then rest.take n.toNat ++ ([x] ++ (rest.take i).drop n.toNat) else rest.take i
theorem mv_hit {rest : List Fd} {x e : Fd} {n : Int} {i : Nat} (h : rest[i]? = some e) (hn : n = i) : mvTo rest x n (i + 1) = (mvTo rest x n i ++ [x]) ++ [e] := by
  have hi := (List.getElem?_eq_some_iff.1 h).1
  subst hn
  rw [mvTo, if_pos (by omega), mvTo, if_neg (by omega), Int.toNat_natCast, List.take_add_one, h, List.drop_append_of_le_length (by simp; omega), List.drop_of_length_le (by simp; omega)]
  simp
theorem mv_miss {rest : List Fd} {x e : Fd} {n : Int} {i : Nat} (h : rest[i]? = some e) (hn : n ≠ i) : mvTo rest x n (i + 1) = mvTo rest x n i ++ [e] := by
  have hi := (List.getElem?_eq_some_iff.1 h).1
  rw [mvTo, mvTo]
  by_cases h0 : 0 ≤ n ∧ n < i
  · rw [if_pos (by omega), if_pos h0, List.take_add_one, h, List.drop_append_of_le_length (by simp; omega)]
    simp
  · rw [if_neg (by omega), if_neg h0, List.take_add_one, h]; rfl
theorem mvTo_len (rest : List Fd) (x : Fd) (n : Int) (i : Nat) : (mvTo rest x n i).length ≤ rest.length + 1 := by
  unfold mvTo
  split
  · simp; omega
  · simp; omega
theorem mv_end {l : List Fd} {k : Nat} {x : Fd} {n : Int} (h : l[k]? = some x) (h0 : 0 ≤ n) (h1 : n < l.length) :
    (if ((l.eraseIdx k).length : Int) = n then mvTo (l.eraseIdx k) x n (l.eraseIdx k).length ++ [x] else mvTo (l.eraseIdx k) x n (l.eraseIdx k).length) = mvF l k n.toNat := by
  have hk := (List.getElem?_eq_some_iff.1 h).1
  have hlen : (l.eraseIdx k).length = l.length - 1 := List.length_eraseIdx_of_lt hk
  unfold mvF mvTo
  rw [h]
  split
  · rename_i e
    have : n.toNat = (l.eraseIdx k).length := by omega
    rw [if_neg (by omega), this]
    simp
  · rename_i e
    rw [if_pos ⟨h0, by omega⟩]
    simp

def MvPost (l : List Fd) (k : Nat) (n : Int) (w : World) (e : Ending) (w' : World) : Prop := ∃ v L', e = .returned v ∧ (0 ≤ n → n < l.length → L' = mvF l k n.toNat) ∧ L'.length ≤ l.length + 1 ∧ OL w' w.heap.size (fun _ => False) 77 3 v L'.length (L'.flatMap fdD) ∧ Below w.heap.size w w'
namespace evW
open nmW
set_option maxHeartbeats 400000 in
theorem moved_k (A : Option Addr) (c : Nat) (F : Nat → Prop) (l : List Fd) (k : Nat) (x : Fd) (hx : l[k]? = some x) (n : Int) (hl : l.length ≤ 1048576) (w : World) (hF : ∀ b, F b → b < w.heap.size) (r : Rd w F (.slice A l.length c) (.sl l.length (l.flatMap fdD))) :
    Calls Tryd.prog 94 #[.slice A l.length c, .int .i64 k, .int .i64 n] w (MvPost l k n w) := by
  have hk := (List.getElem?_eq_some_iff.1 hx).1
  have hlen : (l.eraseIdx k).length = l.length - 1 := List.length_eraseIdx_of_lt hk
  have hend := mv_end (n := n) hx
  have kw := without_k A c F l k hl w hF r
  have krow : ∀ W, Below w.heap.size w W → ∃ b off, A = some ⟨b, off, none⟩ ∧ W.cell? ⟨b, off + k * 3, none⟩ = some (.string x.nm) ∧ W.cell? ⟨b, off + k * 3 + 1, none⟩ = some (.int .i64 x.fr) ∧ W.cell? ⟨b, off + k * 3 + 2, none⟩ = some (.int .i64 x.fl) := fun W hW => by
    obtain ⟨b, off, e, _, hv, _⟩ := (r.under hW hF).rowv (m := 3) (fun _ => rfl) hx (by omega)
    exact ⟨b, off, e, hv 0 _ rfl, hv 1 _ rfl, hv 2 _ rfl⟩
  have q0 : (0 : Int) ≤ (k : Int) := by omega
  have q1 : (k : Int) < l.length := by omega
  generalize hR : l.eraseIdx k = R at *
  have hR1 : R.length + 1 ≤ l.length := by omega
  clear hlen
  replace kw := Lib.hid kw
  replace krow := Lib.hid krow
  replace hend := Lib.hid hend
  clear r hF hx hR
  go_enter Tryd.func94, Tryd.ntmps94
  go_wp2_with (go_at_call 93; refine kw.out.mono ?_; rintro e W1 ⟨v7, rfl, hO7, hB1⟩; obtain ⟨U7, c7, rfl⟩ := hO7.form)
  have hz1 := hB1.size
  have r7 : Rd W1 (fun b => b < W1.heap.size) (.slice U7 R.length c7) (.sl R.length (R.flatMap fdD)) := hO7.rd (fun _ h => h.elim) (fun _ _ h => h)
  replace r7 := Lib.hid r7
  clear hO7
  go_loopw [8, 9] (fun v y wr => ∃ j : Nat, j ≤ R.length ∧ y = .int .i64 j ∧ OL wr W1.heap.size (fun _ => False) 77 3 v (mvTo R x n j).length ((mvTo R x n j).flatMap fdD) ∧ Below W1.heap.size W1 wr) (fun _ y _ => R.length - (intOf y).toNat)
  case atStart => 
    refine ⟨0, Nat.zero_le _, rfl, ?_, .refl _ _⟩
    have : mvTo R x n 0 = [] := by unfold mvTo; rw [if_neg (by omega)]; rfl
    rw [this]
    exact .nil _ _ _ _ _
  case round =>
    obtain ⟨j, hj, rfl, hO, hB⟩ := hrel
    have hle := mvTo_len R x n j
    by_cases hlt : j < R.length
    · obtain ⟨e, he⟩ := getx hlt
      have g0 : (0 : Int) ≤ (j : Int) := by omega
      have g1 : (j : Int) < R.length := by omega
      have hsz := hB.size
      obtain ⟨b, off, rfl, _, hv, _⟩ := (r7.out.under hB (fun _ h => h)).rowv (m := 3) (fun _ => rfl) he (by omega)
      have x0 : wr.cell? ⟨b, off + j * 3, none⟩ = some (.string e.nm) := hv 0 _ rfl
      have x1 : wr.cell? ⟨b, off + j * 3 + 1, none⟩ = some (.int .i64 e.fr) := hv 1 _ rfl
      have x2 : wr.cell? ⟨b, off + j * 3 + 2, none⟩ = some (.int .i64 e.fl) := hv 2 _ rfl
      clear hv
      by_cases hn : (j : Int) = n
      · subst hn
        have hE := mv_hit (x := x) he rfl
        obtain ⟨b2, off2, rfl, y0, y1, y2⟩ := krow.out wr (hB1.trans (hB.mono hz1))
        replace hE := Lib.hid hE
        have he' := Lib.hid he
        clear he
        replace x0 := Lib.hid x0
        replace x1 := Lib.hid x1
        replace x2 := Lib.hid x2
        have tok1 : True := trivial
        have tok2 : True := trivial
        go_wp2_with (first
          | (at_builtin; have _t := tok1; clear tok1; refine wpList_app rfl (.tmp 22) (.tmp 27) _ rfl (m := 1) (news := fdD x) elFd (hO.alloc (.cells ⟨fdV x⟩ 77)) rfl rfl (Src.lit (fdD_rd wr _ x)) rfl (by omega) (by omega) (by simp; omega) ?_; intro v' w1 hO1 hg1 ha1; have hb1 := (hB.alloc hB.size (.cells ⟨fdV x⟩ 77)).grown hg1 (by simp; omega) (fun q hq => (hO.lt q hq).1); obtain ⟨z0, z1, z2⟩ := (show w1.cell? ⟨b, off + j * 3, none⟩ = some (.string e.nm) ∧ w1.cell? ⟨b, off + j * 3 + 1, none⟩ = some (.int .i64 e.fr) ∧ w1.cell? ⟨b, off + j * 3 + 2, none⟩ = some (.int .i64 e.fl) from (by obtain ⟨b', off', e', _, hv, _⟩ := (r7.out.under hb1 (fun _ h => h)).rowv (m := 3) (fun _ => rfl) he'.out (by omega); injection e' with e'; injection e' with e1 e2; subst e1 e2; exact ⟨hv 0 _ rfl, hv 1 _ rfl, hv 2 _ rfl⟩)); have hz1' := hb1.size; clear y0 y1 y2)
          | (at_builtin; have _t := tok2; clear tok2; refine wpList_app rfl (.tmp 29) (.tmp 34) _ rfl (m := 1) (news := fdD e) elFd (hO1.alloc (.cells ⟨fdV e⟩ 77)) rfl rfl (Src.lit (fdD_rd w1 _ e)) rfl (by omega) (by omega) (by simp; omega) ?_; intro v'' w2 hO2 hg2 ha2))
        go_roundw
        case rel =>
          refine ⟨j + 1, by omega, by go_num, ?_, (hb1.alloc hb1.size (.cells ⟨fdV e⟩ 77)).grown hg2 (by simp; omega) (fun q hq => (hO1.lt q hq).1)⟩
          rw [hE.out]
          simpa using hO2
        case measure => simp [intOf]; omega
      · have hE := mv_miss (x := x) he (n := n) (fun h => hn h.symm)
        replace hE := Lib.hid hE
        clear he
        go_wp2_with (at_builtin; refine wpList_app rfl (.tmp 29) (.tmp 34) _ rfl (m := 1) (news := fdD e) elFd (hO.alloc (.cells ⟨fdV e⟩ 77)) rfl rfl (Src.lit (fdD_rd wr _ e)) rfl (by omega) (by omega) (by simp; omega) ?_; intro v'' w2 hO2 hg2 ha2)
        go_roundw
        case rel =>
          refine ⟨j + 1, by omega, by go_num, ?_, (hB.alloc hB.size (.cells ⟨fdV e⟩ 77)).grown hg2 (by simp; omega) (fun q hq => (hO.lt q hq).1)⟩
          rw [hE.out]
          simpa using hO2
        case measure => simp [intOf]; omega
    · have hjn : j = R.length := by omega
      subst hjn
      have hsz := hB.size
      obtain ⟨b2, off2, rfl, y0, y1, y2⟩ := krow.out wr (hB1.trans (hB.mono hz1))
      by_cases hn : (R.length : Int) = n
      · subst hn
        go_wp2_with (at_builtin; refine wpList_app rfl (.tmp 40) (.tmp 45) _ rfl (m := 1) (news := fdD x) elFd (hO.alloc (.cells ⟨fdV x⟩ 77)) rfl rfl (Src.lit (fdD_rd wr _ x)) rfl (by omega) (by omega) (by simp; omega) ?_; intro v'' w2 hO2 hg2 ha2)
        go_ret
        refine ⟨_, mvTo R x R.length R.length ++ [x], rfl, fun h0 h1 => ?_, by simp; omega, ?_, hB1.trans (((hB.alloc hB.size (.cells ⟨fdV x⟩ 77)).grown hg2 (by simp; omega) (fun q hq => (hO.lt q hq).1)).mono hz1)⟩
        · have := hend.out h0 h1
          rwa [if_pos trivial] at this
        · have := hO2.base hz1
          simpa using this
      · go_wp2
        go_ret
        refine ⟨_, mvTo R x n R.length, rfl, fun h0 h1 => ?_, by omega, hO.base hz1, hB1.trans (hB.mono hz1)⟩
        have := hend.out h0 h1
        rwa [if_neg hn] at this
end evW
end Go.Proofs.YtmadafejenjkcaaDoor
