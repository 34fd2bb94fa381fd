/- The document's Steps answers the plain steps. -/
import Derived.Test.YtfnejelbacpheaaStSteps
namespace Go.Proofs.Ytfnejelbacpheaa
open Go.RowKit Go.Deep
set_option linter.unusedVariables false
namespace stW
open lagW

theorem not_own {w : World} {g n : Nat} {t B : Nat} {v : Value} {F : Nat → Prop} {ds cs : _} (hO : OL w B F 65 13 v n ds) (hB : Blk w g t cs) (ht : t ≠ 65) : some g ≠ v.ownBlock := fun h => by
  obtain ⟨cur, hc⟩ := hO.cells h.symm
  unfold Blk at hB
  rw [hB] at hc
  injection hc with hc
  injection hc with _ hc _
  exact ht hc
theorem Mdl.grownS {w w' : World} {B g : Nat} {n : Int} {l : List Int} {B' m : Nat} {v : Value} {F : Nat → Prop} {ds : List D} (h : Mdl w B g n l) (hO : OL w B' F 65 13 v m ds) (hg : w.grownBy w' v.ownBlock) : Mdl w' B g n l := by
  obtain ⟨u, h1, h2⟩ := h
  exact ⟨u, h1.grown hg (not_own hO h1 (by decide)), h2.kept hg (h2.ne hO (by decide)) (fun _ h => h.elim)⟩
theorem mdls_no {w : World} {B g : Nat} {n : Int} {l : List Int} {B' m : Nat} {v : Value} {F : Nat → Prop} {ds : List D} (h : Mdl w B g n l) (hO : OL w B' F 65 13 v m ds) (b : Nat) (hb : v.ownBlock = some b) : ¬ MdlS w g b := by
  obtain ⟨u, h1, h2⟩ := h
  rintro (rfl | ⟨n', v', h3, h4⟩)
  · exact not_own hO h1 (by decide) hb.symm
  · unfold Blk at h1 h3
    rw [h1] at h3
    injection h3 with h3
    injection h3 with h3 _ _
    obtain ⟨_, rfl⟩ : n' = _ ∧ v' = u := by
      have := congrArg Array.toList h3
      simp at this
      exact ⟨this.1.symm, this.2.symm⟩
    rcases h2.ne hO (by decide) with e | e
    · rw [e] at h4; cases h4
    · exact e (h4.trans hb.symm)

theorem takeS {l : List Ev} {k : Nat} {e : Ev} (h : l[k]? = some e) : (tsOf l).take (k + 1) = (tsOf l).take k ++ [e.ts] := by
  rw [List.take_add_one]; unfold tsOf; rw [List.getElem?_map, h]; rfl

theorem rsteps_bad (n : Int) (A : Option Addr) (c : Nat) (l : List Ev) (w : World) (h : n < 0 ∨ (0 ≤ n ∧ 1099511627776 < n)) : Calls Try.prog 26 #[.int .i64 n, .slice A l.length c] w (StPost n l w) := by
  have hn := Lib.hid (rnew_bad n w h)
  have hp : StPost n l w (.returned (.tuple #[.slice none 0 0, .int .i64 200])) w := ⟨_, [], _, rfl, .inl ⟨by omega, rfl, rfl⟩, .nil _ _ _ _ _, .refl _ _⟩
  replace hp := Lib.hid hp
  clear h
  go_enter Try.func26, Try.ntmps26
  go_wp2_with (go_at_call 18; refine hn.out.mono ?_; rintro e w' ⟨rfl, rfl⟩)
  go_ret2
  exact hp.out

set_option maxHeartbeats 1600000 in
theorem rsteps_ok (n : Int) (A : Option Addr) (c : Nat) (F : Nat → Prop) (l : List Ev) (w : World) (hl : l.length ≤ 1048576) (h0 : 0 ≤ n) (h1 : n ≤ 1099511627776) (hF : ∀ b, F b → b < w.heap.size) (r : Rd w F (.slice A l.length c) (.sl l.length (l.flatMap evD))) :
    Calls Try.prog 26 #[.int .i64 n, .slice A l.length c] w (StPost n l w) := by
  have hn := Lib.hid (rnew_ok n w h0 h1)
  have hs : ∀ (L : List Int) (x : Int) (W : World), L.length ≤ 1048576 → w.heap.size ≤ W.heap.size → Mdl W w.heap.size w.heap.size n L → Calls Try.prog 22 #[.pointer (some ⟨w.heap.size, 0, none⟩), .int .i64 x] W (RSeePost w.heap.size w.heap.size n L x W) :=
    fun L x W h2 h3 h4 => rsee_any w.heap.size w.heap.size n L x W h2 h0 h1 h3 h4
  replace hs := Lib.hid hs
  replace r := Lib.hid r
  replace hF := Lib.hid hF
  have hfinal : ∀ v W, OL W (w.heap.size + 1) (fun _ => False) 65 13 v (stepsTo n l l.length).length ((stepsTo n l l.length).flatMap stD) → Below w.heap.size w W → StPost n l w (.returned (.tuple #[v, .int .i64 0])) W := fun v W hO hB =>
    ⟨_, _, 0, rfl, .inr ⟨⟨h0, h1⟩, rfl, rfl⟩, hO.base (by omega), hB⟩
  replace hfinal := Lib.hid hfinal
  go_enter Try.func26, Try.ntmps26
  go_wp2_with (go_at_call 18; refine hn.out.mono ?_; rintro e w' ⟨rfl, rfl⟩)
  go_loopw [8, 9, 10, 11] (fun v x _ _ wr => ∃ k : Nat, k ≤ l.length ∧ x = .int .i64 k ∧ OL wr (w.heap.size + 1) (fun _ => False) 65 13 v (stepsTo n l k).length ((stepsTo n l k).flatMap stD) ∧ Mdl wr w.heap.size w.heap.size n ((tsOf l).take k) ∧ Below w.heap.size w wr ∧ w.heap.size + 1 ≤ wr.heap.size) (fun _ x _ _ _ => l.length - (intOf x).toNat)
  case atStart => exact ⟨0, Nat.zero_le _, rfl, .nil _ _ _ _ _, ⟨_, Blk.new _ _ _, .nil _ _ _ _ _⟩, (Below.refl _ _).alloc (Nat.le_refl _) _, by simp⟩
  case round =>
    obtain ⟨k, hk, rfl, hO, hM, hB, hsz⟩ := hrel
    by_cases hlt : k < l.length
    · obtain ⟨e, he⟩ := getx hlt
      obtain ⟨b, off, rfl, hFb, hv, _⟩ := r.out.rowv (m := 11) (fun _ => rfl) he (by omega)
      have hfB := hF.out b hFb
      have hcell : ∀ W, Below w.heap.size w W → ∀ j y, (evD e)[j]? = some (.v y) → W.cell? ⟨b, off + k * 11 + j, none⟩ = some y := fun W hW j y hy => (hW.cell (p := ⟨b, off + k * 11 + j, none⟩) hfB).trans (hv j y hy)
      have x0 : wr.cell? ⟨b, off + k * 11, none⟩ = some (.int .i64 e.ts) := hcell wr hB 0 _ rfl
      have x1 : wr.cell? ⟨b, off + k * 11 + 1, none⟩ = some (.int .u64 e.id) := hcell wr hB 1 _ rfl
      have x2 : wr.cell? ⟨b, off + k * 11 + 2, none⟩ = some (.int .i64 e.typ) := hcell wr hB 2 _ rfl
      have x3 : wr.cell? ⟨b, off + k * 11 + 3, none⟩ = some (.int .i64 e.a0) := hcell wr hB 3 _ rfl
      have x4 : wr.cell? ⟨b, off + k * 11 + 4, none⟩ = some (.int .i64 e.a1) := hcell wr hB 4 _ rfl
      have x5 : wr.cell? ⟨b, off + k * 11 + 5, none⟩ = some (.int .i64 e.a2) := hcell wr hB 5 _ rfl
      have x6 : wr.cell? ⟨b, off + k * 11 + 6, none⟩ = some (.int .i64 e.a3) := hcell wr hB 6 _ rfl
      have x7 : wr.cell? ⟨b, off + k * 11 + 7, none⟩ = some (.int .i64 e.a4) := hcell wr hB 7 _ rfl
      have x8 : wr.cell? ⟨b, off + k * 11 + 8, none⟩ = some (.int .i64 e.a5) := hcell wr hB 8 _ rfl
      have x9 : wr.cell? ⟨b, off + k * 11 + 9, none⟩ = some (.int .i64 e.a6) := hcell wr hB 9 _ rfl
      have x10 : wr.cell? ⟨b, off + k * 11 + 10, none⟩ = some (.int .i64 e.a7) := hcell wr hB 10 _ rfl
      have g0 : (0 : Int) ≤ (k : Int) := by omega
      have g1 : (k : Int) < l.length := by omega
      obtain ⟨M, hMk⟩ : ∃ M, M = mkAt n l k := ⟨_, rfl⟩
      obtain ⟨M', hMk'⟩ : ∃ M, M = mkAt n l (k + 1) := ⟨_, rfl⟩
      have hlen := stepsTo_len n l k
      have hs2 : ∀ W, w.heap.size ≤ W.heap.size → Mdl W w.heap.size w.heap.size n ((tsOf l).take k) → Calls Try.prog 22 #[.pointer (some ⟨w.heap.size, 0, none⟩), .int .i64 e.ts] W fun e2 W' =>
          e2 = .returned (.tuple #[.int .i64 M', .bool (M' != M)]) ∧ Mdl W' w.heap.size w.heap.size n ((tsOf l).take (k + 1)) ∧ Chg (MdlS W w.heap.size) W W' := fun W h2 h3 =>
        (hs.out _ e.ts W (by simp [tsOf]; omega) h2 h3).mono fun e2 W' ⟨a1, a2, a3⟩ => by
          rw [← takeS he] at a1 a2
          exact ⟨by rw [a1, hMk, hMk']; rfl, a2, a3⟩
      have hst : M' = M → stepsTo n l (k + 1) = stepsTo n l k ++ [⟨false, 0, e⟩] := fun h => stepsTo_same he (by rw [← hMk, ← hMk', h])
      have hst2 : M' ≠ M → stepsTo n l (k + 1) = (stepsTo n l k ++ [⟨false, 0, e⟩]) ++ [⟨true, M', evZ⟩] := fun h => by rw [hMk']; exact stepsTo_more he (by rw [← hMk, ← hMk']; exact h)
      generalize stepsTo n l k = T at *
      have hT1 : (T ++ [(⟨false, 0, e⟩ : St)]).length = T.length + 1 := by simp
      have hT2 : (T ++ [(⟨false, 0, e⟩ : St)]).flatMap stD = T.flatMap stD ++ stD ⟨false, 0, e⟩ := by simp
      replace hcell := Lib.hid hcell
      replace hs2 := Lib.hid hs2
      replace hMk := Lib.hid hMk
      replace hMk' := Lib.hid hMk'
      replace hT1 := Lib.hid hT1
      replace hT2 := Lib.hid hT2
      have tok1 : True := trivial
      clear hv he
      by_cases hmv : M' = M
      · have hmv' : (M' != M) = false := by simp [hmv]
        have hst' := Lib.hid (hst hmv)
        replace hmv := Lib.hid hmv
        clear hst hst2
        go_wp2_with (first
          | (at_builtin; have _t := tok1; clear tok1; refine wpList_app rfl (.tmp 26) (.tmp 32) _ rfl (m := 1) (news := stD ⟨false, 0, e⟩) elSt (hO.alloc (.cells (stA ⟨false, 0, e⟩) 65)) rfl rfl (Src.lit (stD_rd wr _ ⟨false, 0, e⟩)) rfl (by omega) (by omega) (by simp; omega) ?_; intro v1 w1 hO1 hg1 ha1; obtain ⟨V1, d1, rfl⟩ := hO1.form; have hM1 := Mdl.grownS (hM.stay ((Below.refl _ _).alloc (Nat.le_refl _) (.cells (stA ⟨false, 0, e⟩) 65))) (hO.alloc _) hg1; have hB1 := (hB.alloc hB.size (.cells (stA ⟨false, 0, e⟩) 65)).grown hg1 (by simp; omega) (fun q hq => (by have := (hO.lt q hq).1; omega)); have y0 : w1.cell? ⟨b, off + k * 11, none⟩ = some (.int .i64 e.ts) := hcell.out w1 hB1 0 _ rfl; have hs1 : w.heap.size + 1 ≤ w1.heap.size := Nat.le_trans (Nat.le_trans hsz (by simp)) hg1.size)
          | (go_at_call 22; refine (hs2.out w1 (by omega) hM1).mono ?_; rintro e2 W2 ⟨rfl, hM2, hC2⟩; have hO2 := hO1.chg hC2 (fun b hb => mdls_no hM1 hO1 b hb) (fun _ h => h.elim); have hB2 := hB1.trans (hC2.below hB1.size (fun q hq hS => (by have := mdl_above hM1 (Nat.le_refl _) hS; omega))); have hs2' := hC2.size))
        go_roundw
        case rel => exact ⟨k + 1, by omega, by go_num, by rw [hst'.out, hT1.out, hT2.out]; exact hO2, hM2, hB2, by omega⟩
        case measure => simp [intOf]; omega
      · have hmv' : (M' != M) = true := by simp [hmv]
        have hst' := Lib.hid (hst2 hmv)
        have hT3 : ((T ++ [(⟨false, 0, e⟩ : St)]) ++ [(⟨true, M', evZ⟩ : St)]).length = T.length + 1 + 1 := by simp
        have hT4 : ((T ++ [(⟨false, 0, e⟩ : St)]) ++ [(⟨true, M', evZ⟩ : St)]).flatMap stD = (T.flatMap stD ++ stD ⟨false, 0, e⟩) ++ stD ⟨true, M', evZ⟩ := by simp
        replace hT3 := Lib.hid hT3
        replace hT4 := Lib.hid hT4
        replace hmv := Lib.hid hmv
        clear hst hst2
        go_wp2_with (first
          | (at_builtin; have _t := tok1; clear tok1; refine wpList_app rfl (.tmp 26) (.tmp 32) _ rfl (m := 1) (news := stD ⟨false, 0, e⟩) elSt (hO.alloc (.cells (stA ⟨false, 0, e⟩) 65)) rfl rfl (Src.lit (stD_rd wr _ ⟨false, 0, e⟩)) rfl (by omega) (by omega) (by simp; omega) ?_; intro v1 w1 hO1 hg1 ha1; obtain ⟨V1, d1, rfl⟩ := hO1.form; have hM1 := Mdl.grownS (hM.stay ((Below.refl _ _).alloc (Nat.le_refl _) (.cells (stA ⟨false, 0, e⟩) 65))) (hO.alloc _) hg1; have hB1 := (hB.alloc hB.size (.cells (stA ⟨false, 0, e⟩) 65)).grown hg1 (by simp; omega) (fun q hq => (by have := (hO.lt q hq).1; omega)); have y0 : w1.cell? ⟨b, off + k * 11, none⟩ = some (.int .i64 e.ts) := hcell.out w1 hB1 0 _ rfl; have hs1 : w.heap.size + 1 ≤ w1.heap.size := Nat.le_trans (Nat.le_trans hsz (by simp)) hg1.size)
          | (go_at_call 22; refine (hs2.out w1 (by omega) hM1).mono ?_; rintro e2 W2 ⟨rfl, hM2, hC2⟩; have hO2 := hO1.chg hC2 (fun b hb => mdls_no hM1 hO1 b hb) (fun _ h => h.elim); have hB2 := hB1.trans (hC2.below hB1.size (fun q hq hS => (by have := mdl_above hM1 (Nat.le_refl _) hS; omega))); have hs2' := hC2.size)
          | (at_builtin; refine wpList_app rfl (.tmp 45) (.tmp 48) _ rfl (m := 1) (news := stD ⟨true, M', evZ⟩) elSt (hO2.alloc (.cells (stA ⟨true, M', evZ⟩) 65)) rfl rfl (Src.lit (stD_rd W2 _ ⟨true, M', evZ⟩)) rfl (by omega) (by omega) (by simp; omega) ?_; intro v3 w3 hO3 hg3 ha3; have hM3 := Mdl.grownS (hM2.stay ((Below.refl _ _).alloc (Nat.le_refl _) (.cells (stA ⟨true, M', evZ⟩) 65))) (hO2.alloc _) hg3; have hB3 := (hB2.alloc hB2.size (.cells (stA ⟨true, M', evZ⟩) 65)).grown hg3 (by simp; omega) (fun q hq => (by have := (hO2.lt q hq).1; omega)); have hs3 : W2.heap.size ≤ w3.heap.size := Nat.le_trans (by simp) hg3.size))
        go_roundw
        case rel => exact ⟨k + 1, by omega, by go_num, by rw [hst'.out, hT3.out, hT4.out]; exact hO3, hM3, hB3, by omega⟩
        case measure => simp [intOf]; omega
    · obtain rfl : k = l.length := by omega
      go_wp2
      go_ret2
      exact hfinal.out _ _ hO hB
end stW
end Go.Proofs.Ytfnejelbacpheaa
