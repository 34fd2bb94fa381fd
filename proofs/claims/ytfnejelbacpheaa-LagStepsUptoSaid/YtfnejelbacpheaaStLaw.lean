/- LagSteps: the law's own walk. -/
import Derived.Test.YtfnejelbacpheaaStLaw2
import Derived.Deep.CutBlock
import Derived.Deep.DeepCutAuto
namespace Go.Proofs.Ytfnejelbacpheaa
open Go.RowKit Go.Deep
set_option linter.unusedVariables false
namespace stW
open lagW
set_option maxRecDepth 100000 in
set_option maxHeartbeats 800000 in
theorem law (n : Int) (A : Option Addr) (c : Nat) (l : List Ev) (w : World) (hl : l.length ≤ 1048576)
    (r : Rd w (fun b => b < w.heap.size) (.slice A l.length c) (.sl l.length (l.flatMap evD))) :
    Calls Try.prog 8 #[.int .i64 n, .slice A l.length c] w fun e w' => e = .returned (.bool true) ∧ Below w.heap.size w w' := by
  have lcap : ∀ (W : World) (F : Nat → Prop) (V : Option Addr) (cv : Nat) (L : List Ev), Rd W F (.slice V L.length cv) (.sl L.length (L.flatMap evD)) → L.length ≤ cv := fun W F V cv L h => by
    obtain ⟨_, _, e, h, _⟩ := h.sl_inv; injection e with _ _ e; omega
  have hlen2 : (l.take (l.length / 2)).length = l.length / 2 := by simp; omega
  have kw : ∀ (W : World) (V : Option Addr) (cv : Nat) (L : List Ev), L.length ≤ 1048576 → Rd W (fun b => b < W.heap.size) (.slice V L.length cv) (.sl L.length (L.flatMap evD)) → Calls Try.prog 23 #[.slice V L.length cv] W fun e W' => ∃ U cu, e = .returned (.slice U L.length cu) ∧ L.length ≤ cu ∧
      Rd W' (fun b => W.heap.size ≤ b ∧ b < W'.heap.size) (.slice U L.length cu) (.sl L.length (L.flatMap evD)) ∧ OL W' W.heap.size (fun _ => False) 38 11 (.slice U L.length cu) L.length (L.flatMap evD) ∧ Below W.heap.size W W' := fun W V cv L hL hr =>
    (twin_k V cv _ L hL W (fun b h => h) hr).mono fun e W' ⟨v, h1, h2, h3⟩ => by
      obtain ⟨U, cu, rfl⟩ := h2.form
      have h4 := h2.rd (G := fun b => W.heap.size ≤ b ∧ b < W'.heap.size) (fun _ h => h.elim) (fun b h h' => ⟨h, h'⟩)
      exact ⟨U, cu, h1, lcap _ _ _ _ _ h4, h4, h2, h3⟩
  have kd : ∀ (W : World) (V : Option Addr) (cv : Nat) (L : List Ev), L.length ≤ 1048576 → Rd W (fun b => b < W.heap.size) (.slice V L.length cv) (.sl L.length (L.flatMap evD)) → Calls Try.prog 24 #[.slice V L.length cv] W fun e W' => e = .returned (.int .i64 (disTo L L.length)) ∧ Below W.heap.size W W' := fun W V cv L hL hr =>
    dis_k V cv _ L W hL (fun b h => h) hr
  have krd : ∀ (W : World) (V : Option Addr) (cv : Nat) (L : List Ev), L.length ≤ 1048576 → Rd W (fun b => b < W.heap.size) (.slice V L.length cv) (.sl L.length (L.flatMap evD)) → Calls Try.prog 27 #[.slice V L.length cv] W fun e W' => e = .returned (.int .i64 (disTo L L.length)) ∧ Below W.heap.size W W' := fun W V cv L hL hr =>
    rdis_k V cv _ L W hL (fun b h => h) hr
  have kst : ∀ (W : World) (V : Option Addr) (cv : Nat) (L : List Ev), L.length ≤ 1048576 → Rd W (fun b => b < W.heap.size) (.slice V L.length cv) (.sl L.length (L.flatMap evD)) → Calls Try.prog 25 #[.int .i64 n, .slice V L.length cv] W (StPost n L W) := fun W V cv L hL hr =>
    steps_k n V cv _ L W hL (fun b h => h) hr
  have krs : ∀ (W : World) (V : Option Addr) (cv : Nat) (L : List Ev), L.length ≤ 1048576 → Rd W (fun b => b < W.heap.size) (.slice V L.length cv) (.sl L.length (L.flatMap evD)) → Calls Try.prog 26 #[.int .i64 n, .slice V L.length cv] W (StPost n L W) := fun W V cv L hL hr =>
    rsteps_k n V cv _ L W hL (fun b h => h) hr
  have ksh : ∀ (W : World) (V : Option Addr) (cv : Nat), Rd W (fun b => b < W.heap.size) (.slice V l.length cv) (.sl l.length (l.flatMap evD)) → Calls Try.prog 25 #[.int .i64 n, .slice V (l.length / 2) cv] W (StPost n (l.take (l.length / 2)) W) := fun W V cv hr => by
    have h := hr.half (l.length / 2) (by omega)
    have := kst W V cv (l.take (l.length / 2)) (by omega) (by rw [hlen2]; exact h)
    rwa [hlen2] at this
  have krh : ∀ (W : World) (V : Option Addr) (cv : Nat), Rd W (fun b => b < W.heap.size) (.slice V l.length cv) (.sl l.length (l.flatMap evD)) → Calls Try.prog 26 #[.int .i64 n, .slice V (l.length / 2) cv] W (StPost n (l.take (l.length / 2)) W) := fun W V cv hr => by
    have h := hr.half (l.length / 2) (by omega)
    have := krs W V cv (l.take (l.length / 2)) (by omega) (by rw [hlen2]; exact h)
    rwa [hlen2] at this
  have kss : ∀ (W : World) (U V : Option Addr) (cu cv : Nat) (T : List St) (F G : Nat → Prop), T.length ≤ 2097152 → Rd W F (.slice U T.length cu) (.sl T.length (T.flatMap stD)) → Rd W G (.slice V T.length cv) (.sl T.length (T.flatMap stD)) → Calls Try.prog 28 #[.slice U T.length cu, .slice V T.length cv] W fun e W' => e = .returned (.bool true) ∧ Below W.heap.size W W' := fun W U V cu cv T F G hT h1 h2 =>
    sameSteps_k U V cu cv F G T hT W h1 h2
  have kse : ∀ (W : World) (U V : Option Addr) (cu cv : Nat) (T : List Ev) (F G : Nat → Prop), T.length ≤ 2097152 → Rd W F (.slice U T.length cu) (.sl T.length (T.flatMap evD)) → Rd W G (.slice V T.length cv) (.sl T.length (T.flatMap evD)) → Calls Try.prog 29 #[.slice U T.length cu, .slice V T.length cv] W fun e W' => e = .returned (.bool true) ∧ Below W.heap.size W W' := fun W U V cu cv T F G hT h1 h2 =>
    sameEvents_k U V cu cv F G T hT W h1 h2
  have rA : ∀ W, Below w.heap.size w W → Rd W (fun b => b < W.heap.size) (.slice A l.length c) (.sl l.length (l.flatMap evD)) := fun W hW => (r.under hW (fun _ h => h)).mono fun b _ h => h
  have hlc : l.length ≤ c := lcap _ _ _ _ _ r
  have hq2 : (l.length : Int) / 2 ≤ (c : Int) := by omega
  have hq0 : (0 : Int) ≤ (l.length : Int) / 2 := by omega
  have tok1 : True := trivial
  have tok2 : True := trivial
  have tok3 : True := trivial
  have tok4 : True := trivial
  replace kw := Lib.hid kw
  replace kd := Lib.hid kd
  replace krd := Lib.hid krd
  replace kst := Lib.hid kst
  replace krs := Lib.hid krs
  replace ksh := Lib.hid ksh
  replace krh := Lib.hid krh
  replace kss := Lib.hid kss
  replace kse := Lib.hid kse
  replace rA := Lib.hid rA
  replace hlen2 := Lib.hid hlen2
  replace lcap := Lib.hid lcap
  clear r
  go_enter Try.func8, Try.ntmps8
  go_upto_region 4 with (first
    | (go_at_call 23; refine (kw.out _ _ _ l hl (rA.out _ (Below.refl _ _))).mono ?_; rintro e W1 ⟨U5, c5, rfl, hc5, r5, -, hb1⟩)
    | (go_at_call 24; refine (kd.out _ _ _ l hl (rA.out _ hb1)).mono ?_; rintro e W2 ⟨rfl, hb2⟩; have hb12 := hb1.trans (hb2.mono hb1.size))
    | (go_at_call 25; refine (kst.out _ _ _ l hl (rA.out _ hb12)).mono ?_; intro e W3 h; obtain ⟨U7, c7, S, code, rfl, hS, hO7, hb3⟩ := StPost.opn h))
  have hb13 := hb12.trans (hb3.mono hb12.size)
  have r5a : Rd W3 (fun b => b < W2.heap.size) (.slice U5 l.length c5) (.sl l.length (l.flatMap evD)) := ((r5.stay hb2).stay hb3).mono fun b h _ => by have := hb2.size; omega
  have hz2 := hb12.size
  have hz3 := hb3.size
  have hll : ∀ q, (Value.slice U7 S.length c7).ownBlock = some q → q < W3.heap.size := fun q hq => (hO7.lt q hq).2
  replace hO7 := Lib.hid hO7
  replace hS := Lib.hid hS
  replace r5a := Lib.hid r5a
  replace hll := Lib.hid hll
  replace hb13 := Lib.hid hb13
  clear r5 hb1 hb2 hb3 hb12
  generalize W2.heap.size = s2 at *
  go_upto_region 6 with (first
    | (go_at_call 25; have _t := tok1; clear tok1; refine (ksh.out _ _ _ (rA.out _ hb13.out)).mono ?_; intro e W4 h; obtain ⟨U9, c9, Sh, code9, rfl, hSh, hO9, hb4⟩ := StPost.opn h; have hb14 := hb13.out.trans (hb4.mono hb13.out.size))
    | (go_at_call 25; have _t := tok2; clear tok2; refine (kst.out _ _ _ l hl (rA.out _ hb14)).mono ?_; intro e W5 h; obtain ⟨U11, c11, S2, code2, rfl, hS2, hO11, hb5⟩ := StPost.opn h))
  obtain ⟨e1, e2⟩ := hS2.uniq hS.out
  subst e1 e2
  have hb15 := hb14.trans (hb5.mono hb14.size)
  have hz4 := hb4.size
  have hz5 := hb5.size
  have hO7a := (hO7.out.stay hb4).stay hb5
  have hO9a := hO9.stay hb5
  have hlh : ∀ q, (Value.slice U9 Sh.length c9).ownBlock = some q → q < W4.heap.size := fun q hq => (hO9.lt q hq).2
  have r5b := (r5a.out.stay hb4).stay hb5
  have r11 : Rd W5 (fun b => W4.heap.size ≤ b) (.slice U11 S.length c11) (.sl S.length (S.flatMap stD)) := hO11.rd (fun _ h _ => h.elim) (fun _ h _ => h)
  have hq5 : (l.length : Int) / 2 ≤ (c5 : Int) := by omega
  replace hO7a := Lib.hid hO7a
  replace hO9a := Lib.hid hO9a
  replace hSh := Lib.hid hSh
  replace hlh := Lib.hid hlh
  replace r11 := Lib.hid r11
  replace hb15 := Lib.hid hb15
  have r5c : Rd W5 (fun b => b < W5.heap.size) (.slice U5 l.length c5) (.sl l.length (l.flatMap evD)) := r5b.mono fun b _ h => h
  clear hO7 hO9 hO11 hb4 hb5 hb14 hb13 hS2 r5a
  generalize W3.heap.size = s3 at *
  generalize W4.heap.size = s4 at *
  go_upto_region 8 with (first
    | (go_at_call 26; have _t := tok3; clear tok3; refine (krs.out _ _ _ l hl r5c).mono ?_; intro e W6 h; obtain ⟨U13, c13, S3, code3, rfl, hS3, hO13, hb6⟩ := StPost.opn h; have r5d := (r5c.stay hb6).mono (G := fun b => b < W6.heap.size) (fun b _ h => h))
    | (go_at_call 26; have _t := tok4; clear tok4; refine (krh.out _ _ _ r5d).mono ?_; intro e W7 h; obtain ⟨U15, c15, Sh2, code15, rfl, hSh2, hO15, hb7⟩ := StPost.opn h))
  obtain ⟨e1, e2⟩ := hS3.uniq hS.out
  subst e1 e2
  obtain ⟨e1, e2⟩ := hSh2.uniq hSh.out
  subst e1 e2
  have hz6 := hb6.size
  have hQ : Q w W7 s2 s3 s4 (.slice U5 l.length c5) (.slice U7 S.length c7) (.slice U9 Sh.length c9) (.slice U11 S.length c11) (.slice U13 S.length c13) l S.length Sh.length S S Sh :=
    ⟨(hb15.out.trans (hb6.mono hb15.out.size)).trans (hb7.mono (Nat.le_trans hb15.out.size hz6)), (r5b.stay hb6).stay hb7, (hO7a.out.stay hb6).stay hb7, hll.out, (hO9a.out.stay hb6).stay hb7, hlh.out, (r11.out.stay hb6).stay hb7,
      (hO13.stay hb7).rd (fun _ h _ => h.elim) (fun b h _ => by omega), hz2, hz3, hz4, by have := hb7.size; omega⟩
  have r15 : Rd W7 (fun _ => True) (.slice U15 Sh.length c15) (.sl Sh.length (Sh.flatMap stD)) := hO15.rd (fun _ _ _ => trivial) (fun _ _ _ => trivial)
  have hSl := hS.out.len
  have hShl : Sh.length ≤ 1048576 := by have := hSh.out.len; rw [hlen2.out] at this; omega
  have tokA : True := trivial
  have tokB : True := trivial
  have tokC : True := trivial
  replace hQ := Lib.hid hQ
  replace r15 := Lib.hid r15
  have hz7 := hb7.size
  clear hO13 hO15 hb6 hb7 hS3 hSh2 r5b r5c r5d hO7a hO9a hb15 r11 hll hlh
  go_upto_region 10 with (first
    | (go_at_call 27; refine (krd.out W7 _ _ l hl (hQ.out.rw.mono fun b _ h => h)).mono ?_; rintro e W8 ⟨rfl, hb8⟩; have hQ8 := hQ.out.stay hb8; have r15b := r15.out.stay hb8; replace hQ8 := Lib.hid hQ8)
    | (go_at_call 28; have _t := tokA; clear tokA; refine (kss.out W8 _ _ _ _ S (fun _ => True) _ (by omega) (hQ8.out.ol.rd (fun _ h _ => h.elim) (fun _ _ _ => trivial)) hQ8.out.rm).mono ?_; rintro e W9 ⟨rfl, hb9⟩; have hQ9 := hQ8.out.stay hb9; have r15c := r15b.stay hb9; replace hQ9 := Lib.hid hQ9)
    | (go_at_call 28; have _t := tokB; clear tokB; refine (kss.out W9 _ _ _ _ Sh (fun _ => True) _ (by omega) (hQ9.out.oh.rd (fun _ h _ => h.elim) (fun _ _ _ => trivial)) r15c).mono ?_; rintro e W10 ⟨rfl, hb10⟩; have hQ10 := hQ9.out.stay hb10; replace hQ10 := Lib.hid hQ10)
    | (go_at_call 28; have _t := tokC; clear tokC; refine (kss.out W10 _ _ _ _ S _ _ (by omega) hQ10.out.ra hQ10.out.rm).mono ?_; rintro e W11 ⟨rfl, hb11⟩; have hQ11 := hQ10.out.stay hb11))
  go_wp2
  clear hQ hQ8 hQ9 hQ10 r15 r15b r15c hb8 hb9 hb10 hb11
  go_loopw [17] (fun x wr => ∃ (k : Nat) (S7 : List St), k ≤ S.length ∧ x = .int .i64 k ∧ S7.length = S.length ∧ Q w wr s2 s3 s4 (.slice U5 l.length c5) (.slice U7 S.length c7) (.slice U9 Sh.length c9) (.slice U11 S.length c11) (.slice U13 S.length c13) l S.length Sh.length S S7 Sh ∧ Hid (∀ i, i < k → S7[i]? = some ⟨true, 771, evZ⟩)) (fun x _ => S.length - (intOf x).toNat)
  case atStart => exact ⟨0, S, Nat.zero_le _, rfl, rfl, hQ11, fun i h => by omega⟩
  case round =>
    clear hQ11
    obtain ⟨k, S7, hk, rfl, hn7, hQ, h7⟩ := hrel
    by_cases hlt : k < S.length
    · obtain ⟨g, rfl, hcl⟩ := row_cells hQ.ol hn7 hlt
      have hcl2 : ∀ j, j < (stV ⟨true, 771, evZ⟩).length → (∃ u, wr.cell? ⟨g, k * 13 + j, none⟩ = some u) ∧ wr.frozen? ⟨g, k * 13 + j, none⟩ = false := hcl
      replace hcl := Lib.hid hcl2
      clear hcl2
      have hput := hQ
      rw [← hn7] at hput
      have hput := hput.put7 k (by omega) ⟨true, 771, evZ⟩
      rw [hn7] at hput
      have g0 : (0 : Int) ≤ (k : Int) := by omega
      have g1 : (k : Int) < S.length := by omega
      have hset : ∀ i, i < k + 1 → (S7.set k ⟨true, 771, evZ⟩)[i]? = some ⟨true, 771, evZ⟩ := fun i hi => by
        rw [List.getElem?_set]
        by_cases e : k = i
        · rw [if_pos e, if_pos (by omega)]
        · rw [if_neg e]; exact h7.out i (by omega)
      have hln : (S7.set k (⟨true, 771, evZ⟩ : St)).length = S.length := by simpa using hn7
      replace hput := Lib.hid hput
      replace hset := Lib.hid hset
      clear hQ h7
      go_wp2_with (refine at_op (.store 65 (.tmp 107) (.tmp 106)) rfl ?_; refine wpList_store_row rfl 65 (.tmp 107) (.tmp 106) rfl (g := g) (o := k * 13) (cs' := stV ⟨true, 771, evZ⟩) (aggSt' _) rfl rfl (oneSt _) hcl.out ?_)
      go_roundw
      case rel => exact ⟨k + 1, _, by omega, by go_num, hln, hput.out, hset.out⟩
      case measure => simp [intOf]; omega
    · obtain rfl : k = S.length := by omega
      have h7o := h7.out
      clear h7
      go_wp2_with (at_builtin; refine wpList_long rfl (.tmp 108) (.tmp 111) rfl (y := ⟨false, 772, evZ⟩) hQ hn7 h7o (by omega) rfl rfl ?_; clear hQ hn7 h7o; intro g' cap' W12 hQ12)
      go_loopw [19] (fun x w2 => ∃ (k : Nat) (S9 : List St), k ≤ Sh.length ∧ x = .int .i64 k ∧ S9.length = Sh.length ∧ Q2 w w2 s3 s4 (.slice U5 l.length c5) U7 g' (.slice U9 Sh.length c9) (.slice U11 S.length c11) (.slice U13 S.length c13) l Sh.length S S9) (fun x _ => Sh.length - (intOf x).toNat)
      case atStart => exact ⟨0, Sh, Nat.zero_le _, rfl, rfl, hQ12⟩
      case round =>
        clear hQ12
        obtain ⟨k, S9, hk, rfl, hn9, hQ⟩ := hrel
        by_cases hlt : k < Sh.length
        · obtain ⟨g, rfl, hcl⟩ := row_cells hQ.oh hn9 hlt
          have hcl2 : ∀ j, j < (stV ⟨true, 773, evZ⟩).length → (∃ u, wr.cell? ⟨g, k * 13 + j, none⟩ = some u) ∧ wr.frozen? ⟨g, k * 13 + j, none⟩ = false := hcl
          replace hcl := Lib.hid hcl2
          clear hcl2
          have hput := hQ
          rw [← hn9] at hput
          have hput := hput.put9 k (by omega) ⟨true, 773, evZ⟩
          rw [hn9] at hput
          have g0 : (0 : Int) ≤ (k : Int) := by omega
          have g1 : (k : Int) < Sh.length := by omega
          have hln : (S9.set k (⟨true, 773, evZ⟩ : St)).length = Sh.length := by simpa using hn9
          replace hput := Lib.hid hput
          clear hQ
          go_wp2_with (refine at_op (.store 65 (.tmp 122) (.tmp 121)) rfl ?_; refine wpList_store_row rfl 65 (.tmp 122) (.tmp 121) rfl (g := g) (o := k * 13) (cs' := stV ⟨true, 773, evZ⟩) (aggSt' _) rfl rfl (oneSt _) hcl.out ?_)
          go_roundw
          case rel => exact ⟨k + 1, _, by omega, by go_num, hln, hput.out⟩
          case measure => simp [intOf]; omega
        · have hkn : k = Sh.length := by omega
          subst hkn
          obtain ⟨wo, hwo⟩ : ∃ wo : World, wo = wr := ⟨_, rfl⟩
          subst hwo
          replace hQ := Lib.hid hQ
          go_wp2
          go_loopw [20] (fun x w2 => ∃ k : Nat, k ≤ S.length ∧ x = .int .i64 k ∧ w2 = wo) (fun x _ => S.length - (intOf x).toNat)
          case atStart => exact ⟨0, Nat.zero_le _, rfl, rfl⟩
          case round =>
            obtain ⟨k, hk, rfl, rfl⟩ := hrel
            by_cases hlt : k < S.length
            · obtain ⟨g, rfl, -, hc7⟩ := hQ.out.c7 k hlt
              obtain ⟨-, hc8⟩ := hQ.out.c8 k hlt
              have g0 : (0 : Int) ≤ (k : Int) := by omega
              have g1 : (k : Int) < S.length := by omega
              go_wp2
              go_roundw
              case rel => exact ⟨k + 1, by omega, by go_num, trivial⟩
              case measure => simp [intOf]; omega
            · have hkn : k = S.length := by omega
              subst hkn
              clear hk hlt
              have hR := hQ.out.r3
              replace hR := Lib.hid hR
              clear hQ
              have tok5 : True := trivial
              have tok6 : True := trivial
              have tok7 : True := trivial
              have tok8 : True := trivial
              have tok9 : True := trivial
              go_wp2_with (first
                | (go_at_call 25; have _t := tok5; clear tok5; refine (kst.out _ _ _ l hl (rA.out _ hR.out.hb)).mono ?_; intro e W13 h13; obtain ⟨U20, c20, Sy, codey, rfl, hSy, hO20, hb13⟩ := StPost.opn h13; obtain ⟨e1, e2⟩ := hSy.uniq hS.out; subst e1 e2; have hR13 := hR.out.stay hb13; replace hR13 := Lib.hid hR13)
                | (go_at_call 28; have _t := tok6; clear tok6; refine (kss.out W13 _ _ _ _ S _ _ (by omega) hR13.out.ra hR13.out.rm).mono ?_; rintro e W14 ⟨rfl, hb14⟩; have hR14 := hR13.out.stay hb14; have hO20b := hO20.stay hb14; replace hR14 := Lib.hid hR14)
                | (go_at_call 28; have _t := tok7; clear tok7; refine (kss.out W14 _ _ _ _ S (fun _ => True) _ (by omega) (hO20b.rd (fun _ h _ => h.elim) (fun _ _ _ => trivial)) hR14.out.rm).mono ?_; rintro e W15 ⟨rfl, hb15⟩; have hR15 := hR14.out.stay hb15; replace hR15 := Lib.hid hR15)
                | (go_at_call 29; refine (kse.out W15 _ _ _ _ l _ _ (by omega) (rA.out _ hR15.out.hb) hR15.out.rw).mono ?_; rintro e W16 ⟨rfl, hb16⟩; have hR16 := hR15.out.stay hb16; replace hR16 := Lib.hid hR16)
                | (go_at_call 23; refine (kw.out _ _ _ l hl (rA.out _ hR16.out.hb)).mono ?_; rintro e W17 ⟨U23, c23, rfl, hc23, r23, hO23, hb17⟩)
                | (go_at_call 25; have _t := tok8; clear tok8; refine (kst.out W17 _ _ l hl (r23.mono fun _ _ h => h)).mono ?_; intro e W18 h18; obtain ⟨U21, c21, Sz, codez, rfl, -, -, hb18⟩ := StPost.opn h18)
                | (go_at_call 24; refine (kd.out W18 _ _ l hl ((r23.stay hb18).mono fun _ _ h => h)).mono ?_; rintro e W19 ⟨rfl, hb19⟩))
              have hO4 := (hO23.stay hb18).stay hb19
              have hB0 := hR16.out.hb.size
              have hB4 : Below w.heap.size w W19 := by
                have h17 := hR16.out.hb.trans (hb17.mono hB0)
                have h18 := h17.trans (hb18.mono h17.size)
                exact h18.trans (hb19.mono h18.size)
              have kws : ∀ (W : World) (V : Option Addr) (cv : Nat) (L : List Ev), L.length = l.length → Rd W (fun b => b < W.heap.size) (.slice V l.length cv) (.sl l.length (L.flatMap evD)) → Calls Try.prog 23 #[.slice V l.length cv] W fun e W' => ∃ U cu, e = .returned (.slice U l.length cu) ∧
                  Rd W' (fun b => W.heap.size ≤ b ∧ b < W'.heap.size) (.slice U l.length cu) (.sl l.length (L.flatMap evD)) ∧ Below W.heap.size W W' := fun W V cv L hL hr => by
                have := (kw.out W V cv L (by omega) (by rw [hL]; exact hr)).mono (R' := fun e W' => ∃ U cu, e = .returned (.slice U L.length cu) ∧ Rd W' (fun b => W.heap.size ≤ b ∧ b < W'.heap.size) (.slice U L.length cu) (.sl L.length (L.flatMap evD)) ∧ Below W.heap.size W W') fun e W' ⟨U, cu, h1, h2, h3, _, h5⟩ => ⟨U, cu, h1, h3, h5⟩
                rwa [hL] at this
              have kds : ∀ (W : World) (V : Option Addr) (cv : Nat) (L : List Ev), L.length = l.length → Rd W (fun b => b < W.heap.size) (.slice V l.length cv) (.sl l.length (L.flatMap evD)) → Calls Try.prog 24 #[.slice V l.length cv] W fun e W' => e = .returned (.int .i64 (disTo L L.length)) ∧ Below W.heap.size W W' := fun W V cv L hL hr => by
                have := kd.out W V cv L (by omega) (by rw [hL]; exact hr)
                rw [show (Value.slice V l.length cv) = .slice V L.length cv by rw [hL]]; exact this
              have krds : ∀ (W : World) (V : Option Addr) (cv : Nat) (L : List Ev), L.length = l.length → Rd W (fun b => b < W.heap.size) (.slice V l.length cv) (.sl l.length (L.flatMap evD)) → Calls Try.prog 27 #[.slice V l.length cv] W fun e W' => e = .returned (.int .i64 (disTo L L.length)) ∧ Below W.heap.size W W' := fun W V cv L hL hr => by
                have := krd.out W V cv L (by omega) (by rw [hL]; exact hr)
                rw [show (Value.slice V l.length cv) = .slice V L.length cv by rw [hL]]; exact this
              have ksts : ∀ (W : World) (V : Option Addr) (cv : Nat) (L : List Ev), L.length = l.length → Rd W (fun b => b < W.heap.size) (.slice V l.length cv) (.sl l.length (L.flatMap evD)) → Calls Try.prog 25 #[.int .i64 n, .slice V l.length cv] W (StPost n L W) := fun W V cv L hL hr => by
                have := kst.out W V cv L (by omega) (by rw [hL]; exact hr)
                rw [show (Value.slice V l.length cv) = .slice V L.length cv by rw [hL]]; exact this
              have krss : ∀ (W : World) (V : Option Addr) (cv : Nat) (L : List Ev), L.length = l.length → Rd W (fun b => b < W.heap.size) (.slice V l.length cv) (.sl l.length (L.flatMap evD)) → Calls Try.prog 26 #[.int .i64 n, .slice V l.length cv] W (StPost n L W) := fun W V cv L hL hr => by
                have := krs.out W V cv L (by omega) (by rw [hL]; exact hr)
                rw [show (Value.slice V l.length cv) = .slice V L.length cv by rw [hL]]; exact this
              replace kws := Lib.hid kws
              replace kds := Lib.hid kds
              replace krds := Lib.hid krds
              replace ksts := Lib.hid ksts
              replace krss := Lib.hid krss
              clear hO23 hb13 hb14 hb15 hb16 hb17 hb18 hb19 hR hR13 hR14 hR15 hR16 hO20 hO20b r23 kw kd krd kst krs hS hSh rA h13 h18 hSy
              generalize W16.heap.size = s16 at *
              go_loopw [24] (fun x w2 => ∃ (k : Nat) (L : List Ev), k ≤ l.length ∧ x = .int .i64 k ∧ L.length = l.length ∧ OL w2 s16 (fun _ => False) 38 11 (.slice U23 l.length c23) l.length (L.flatMap evD) ∧ Below w.heap.size w w2) (fun x _ => l.length - (intOf x).toNat)
              case atStart => exact ⟨0, l, Nat.zero_le _, rfl, rfl, hO4, hB4⟩
              case round =>
                obtain ⟨k, L, hk, rfl, hL, hO, hB⟩ := hrel
                by_cases hlt : k < l.length
                · obtain ⟨g, cap, e, -, -, hf, hc⟩ := hO.row (by omega)
                  injection e with e1 _ e2
                  subst e1
                  obtain ⟨e, he⟩ := getx (l := L) (i := k) (by omega)
                  obtain ⟨r, hr⟩ : ∃ r : Nat, (l.length : Int) - 1 - k = r := ⟨l.length - 1 - k, by omega⟩
                  obtain ⟨e', he'⟩ := getx (l := L) (i := r) (by omega)
                  have x0 : wr.cell? ⟨g, r * 11, none⟩ = some (.int .i64 e'.ts) := by
                    obtain ⟨u, hu, hx⟩ := hc (r * 11 + 0) (.v (.int .i64 e'.ts)) (flatMap_get (f := evD) (m := 11) (fun _ => rfl) he' rfl)
                    rw [hx.v_inv] at hu; exact hu
                  have x1 : wr.cell? ⟨g, k * 11, none⟩ = some (.int .i64 e.ts) := by
                    obtain ⟨u, hu, hx⟩ := hc (k * 11 + 0) (.v (.int .i64 e.ts)) (flatMap_get (f := evD) (m := 11) (fun _ => rfl) he rfl)
                    rw [hx.v_inv] at hu; exact hu
                  have x2 : wr.frozen? ⟨g, k * 11, none⟩ = false := hf _
                  have hput := put_ts hO hB (w := w) (by omega) he e'.ts
                  have g0 : (0 : Int) ≤ (k : Int) := by omega
                  have g1 : (k : Int) < l.length := by omega
                  have g2 : (r : Int) < l.length := by omega
                  have g3 : (0 : Int) ≤ (r : Int) := by omega
                  have hln : (L.set k { e with ts := e'.ts }).length = l.length := by simpa using hL
                  replace hput := Lib.hid hput
                  clear hO hc hf hB
                  go_wp2
                  go_roundw
                  case rel => exact ⟨k + 1, _, by omega, by go_num, hln, hput.out.1, hput.out.2⟩
                  case measure => simp [intOf]; omega
                · have hkn : k = l.length := by omega
                  subst hkn
                  clear hk hlt
                  have hBs := hB.size
                  have rM : Rd wr (fun b => b < wr.heap.size) (.slice U23 l.length c23) (.sl l.length (L.flatMap evD)) := hO.rd (fun _ h => h.elim) (fun _ _ h => h)
                  replace rM := Lib.hid rM
                  have tok10 : True := trivial
                  have tok11 : True := trivial
                  clear hO
                  go_wp2_with (first
                    | (go_at_call 25; refine (ksts.out _ _ _ L hL rM.out).mono ?_; intro e W20 h20; obtain ⟨U30, c30, T, codeT, rfl, hT, hOT, hb20⟩ := StPost.opn h20; have rM20 := (rM.out.stay hb20).mono (G := fun b => b < W20.heap.size) (fun b _ h => h); have hTl := hT.len; replace hT := Lib.hid hT)
                    | (go_at_call 23; have _t := tok10; clear tok10; refine (kws.out _ _ _ L hL rM20).mono ?_; rintro e W21 ⟨U31, c31, rfl, r31, hb21⟩; have rM21 := (rM20.stay hb21).mono (G := fun b => b < W21.heap.size) (fun b _ h => h); have hOT21 := hOT.stay hb21)
                    | (go_at_call 26; refine (krss.out _ _ _ L hL (r31.mono fun _ _ h => h)).mono ?_; intro e W22 h22; obtain ⟨U32, c32, T2, codeT2, rfl, hT2, hOT2, hb22⟩ := StPost.opn h22; obtain ⟨e1, e2⟩ := hT2.uniq hT.out; subst e1 e2; have rM22 := (rM21.stay hb22).mono (G := fun b => b < W22.heap.size) (fun b _ h => h); have hOT22 := hOT21.stay hb22)
                    | (go_at_call 28; refine (kss.out W22 _ _ _ _ T (fun _ => True) (fun _ => True) (by omega) (hOT22.rd (fun _ h _ => h.elim) (fun _ _ _ => trivial)) (hOT2.rd (fun _ h _ => h.elim) (fun _ _ _ => trivial))).mono ?_; rintro e W23 ⟨rfl, hb23⟩; have rM23 := (rM22.stay hb23).mono (G := fun b => b < W23.heap.size) (fun b _ h => h))
                    | (go_at_call 24; refine (kds.out W23 _ _ L hL rM23).mono ?_; rintro e W24 ⟨rfl, hb24⟩; have rM24 := (rM23.stay hb24).mono (G := fun b => b < W24.heap.size) (fun b _ h => h))
                    | (go_at_call 23; have _t := tok11; clear tok11; refine (kws.out _ _ _ L hL rM24).mono ?_; rintro e W25 ⟨U33, c33, rfl, r33, hb25⟩)
                    | (go_at_call 27; refine (krds.out W25 _ _ L hL (r33.mono fun _ _ h => h)).mono ?_; rintro e W26 ⟨rfl, hb26⟩))
                  go_ret
                  refine ⟨rfl, ?_⟩
                  have y20 := hB.trans (hb20.mono hBs)
                  have y21 := y20.trans (hb21.mono y20.size)
                  have y22 := y21.trans (hb22.mono y21.size)
                  have y23 := y22.trans (hb23.mono y22.size)
                  have y24 := y23.trans (hb24.mono y23.size)
                  have y25 := y24.trans (hb25.mono y24.size)
                  exact y25.trans (hb26.mono y25.size)
end stW
end Go.Proofs.Ytfnejelbacpheaa
