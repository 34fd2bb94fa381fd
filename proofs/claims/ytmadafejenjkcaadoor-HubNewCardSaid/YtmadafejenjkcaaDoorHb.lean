/- The document's reader: one definition, walked. -/
import Derived.Test.YtmadafejenjkcaaDoorHa
namespace Go.Proofs.YtmadafejenjkcaaDoor
open Go.RowKit Go.Deep
set_option linter.unusedVariables false
set_option linter.unusedSimpArgs false
namespace hbW
open nmW
set_option maxRecDepth 100000 in
set_option maxHeartbeats 4000000 in
theorem definition_k (T : ByteArray) (A A2 : Option Addr) (c c2 : Nat) (F F2 : Nat → Prop) (L : List Pc) (ts : List Td) (hl : L.length ≤ 4096) (hL : ∀ p ∈ L, PcOk T p) (ht : ts.length ≤ 16) (i : Nat) (hi : i < L.length) (w : World) (hK : KwIs w)
    (hF : ∀ b, F b → b < w.heap.size) (hF2 : ∀ b, F2 b → b < w.heap.size)
    (r : Rd w F (.slice A L.length c) (.sl L.length (L.flatMap pcD))) (r2 : Rd w F2 (.slice A2 ts.length c2) (.sl ts.length (ts.flatMap tdD))) :
    Calls Tryd.prog 50 #[.string T, .slice A L.length c, .int .i64 i, .slice A2 ts.length c2] w (DfPost T L ts i w) := by
  have k1 : ∀ (W : World) (j : Nat) (x : ByteArray), Below w.heap.size w W → Calls Tryd.prog 71 #[.string T, .slice A L.length c, .int .i64 j, .string x] W fun e w' => e = .returned (.bool (isP T L j x)) ∧ Below W.heap.size W w' :=
    fun W j x hW => is_k T A c F L (by omega) hL j x W (r.under hW hF)
  have k2 : ∀ (W : World) (j : Nat), Below w.heap.size w W → Calls Tryd.prog 72 #[.string T, .slice A L.length c, .int .i64 j, .slice A2 ts.length c2] W fun e w' => e = .returned (.int .i64 (nmR T L j ts)) ∧ Below W.heap.size W w' :=
    fun W j hW => named_k T A A2 c c2 F F2 L ts (by omega) hL (by omega) j W (hK.stay hW) (r.under hW hF) (r2.under hW hF2)
  have k3 : ∀ (W : World) (j : Nat) (A3 : Option Addr) (c3 : Nat) (l : List ByteArray) (F3 : Nat → Prop), l.length ≤ 8 → Below w.heap.size w W → Rd W F3 (.slice A3 l.length c3) (.sl l.length (l.flatMap strD)) → Calls Tryd.prog 73 #[.string T, .slice A L.length c, .int .i64 j, .slice A3 l.length c3] W fun e w' => e = .returned (.int .i64 (atR T L j l)) ∧ Below W.heap.size W w' :=
    fun W j A3 c3 l F3 hl8 hW r3 => attribute_k T A A3 c c3 F F3 L l (by omega) hL hl8 j W (hK.stay hW) (r.under hW hF) r3
  have hpc : ∀ (W : World) (j : Nat) (p : Pc), Below w.heap.size w W → L[j]? = some p → ∃ b off, A = some ⟨b, off, none⟩ ∧
    W.cell? ⟨b, off + j * 3, none⟩ = some (.int .i64 p.a) ∧ W.cell? ⟨b, off + j * 3 + 1, none⟩ = some (.int .i64 p.e) ∧ W.cell? ⟨b, off + j * 3 + 2, none⟩ = some (.bool p.w) ∧ b < w.heap.size := fun W j p hW hp => by
    obtain ⟨b, off, e, h1, h2, h3⟩ := pc_at (r.under hW hF) hp
    obtain ⟨b', off', e', hFb, _⟩ := r.rowv (m := 3) (fun _ => rfl) hp (by omega)
    subst e
    injection e' with e'
    injection e' with e1 e2
    subst e1
    exact ⟨b, off, rfl, h1, h2, h3, hF _ hFb⟩
  have hst := Lib.hid (DB.start w)
  have tok1 := True.intro
  have tok0 := True.intro
  have hty := type_step (T := T) hL hi ht
  replace k1 := Lib.hid k1
  replace k2 := Lib.hid k2
  replace k3 := Lib.hid k3
  replace hpc := Lib.hid hpc
  clear r r2 hF hF2 hK
  cases h1 : isP T L i tType with
  | false =>
    rw [if_pos h1] at hty
    replace hty := Lib.hid hty
    replace h1 := Lib.hid h1
    replace hL := Lib.hid hL
    go_enter Tryd.func50, Tryd.ntmps50
    go_wp2_with first
      | (go_at_call 71; refine (k1.out _ i tType hst.out.hb).mono ?_; rw [h1.out]; rintro e W ⟨rfl, hW⟩; have hD := Lib.hid (hst.out.stay hW); clear hW)
      | (refine at_op (.load 34 (.tmp 11)) rfl ?_; refine wpList_load_blk rfl 34 (.tmp 11) rfl hD.out.b1 aggTd rfl ?_)
      | (refine at_op (.store 34 (.tmp 8) (.tmp 19)) rfl ?_; refine wpList_store_blk rfl 34 (.tmp 8) (.tmp 19) rfl (cs' := [.string ⟨#[]⟩, .slice none 0 0]) hD.out.b0 aggTd rfl rfl rfl rfl ?_; intro w1 hz1 hg1)
    exact bodyPost_cell3 rfl hz1 aggTd rfl rfl rfl rfl (hD.out.bad hg1 (by decide) rfl hty.out)
  | true =>
    rw [if_neg (by rw [h1]; decide)] at hty
    by_cases h16 : 16 ≤ ts.length
    · rw [if_pos h16] at hty
      have f16 : (16 : Int) ≤ ts.length := by omega
      replace hty := Lib.hid hty
      replace h1 := Lib.hid h1
      replace hL := Lib.hid hL
      go_enter Tryd.func50, Tryd.ntmps50
      go_wp2_with first
        | (go_at_call 71; refine (k1.out _ i tType hst.out.hb).mono ?_; rw [h1.out]; rintro e W ⟨rfl, hW⟩; have hD := Lib.hid (hst.out.stay hW); clear hW)
        | (refine at_op (.load 34 (.tmp 11)) rfl ?_; refine wpList_load_blk rfl 34 (.tmp 11) rfl hD.out.b1 aggTd rfl ?_)
        | (refine at_op (.store 34 (.tmp 8) (.tmp 24)) rfl ?_; refine wpList_store_blk rfl 34 (.tmp 8) (.tmp 24) rfl (cs' := [.string ⟨#[]⟩, .slice none 0 0]) hD.out.b0 aggTd rfl rfl rfl rfl ?_; intro w1 hz1 hg1)
      exact bodyPost_cell3 rfl hz1 aggTd rfl rfl rfl rfl (hD.out.bad hg1 (by decide) rfl hty.out)
    rw [if_neg h16] at hty
    have f16 : ¬ (16 : Int) ≤ ts.length := by omega
    have ht15 : ts.length ≤ 15 := by omega
    have hng := nm_go (T := T) hL (k := i + 1) (ts := ts)
    by_cases h2 : nmR T L (i + 1) ts = 0
    · rw [if_neg (by simpa using h2)] at hng
      have hgo := hty.trans hng
      obtain ⟨p, hp, _, _⟩ := wd_true (nmR_zero h2)
      have hp1 := (List.getElem?_eq_some_iff.1 hp).1
      obtain ⟨b, off, rfl, _, _, _, hbw⟩ := hpc.out w (i + 1) p (Below.refl _ _) hp
      have ho := hL p (List.mem_of_getElem? hp)
      have hsl := sl_of ho
      have hwt : wtP T L (i + 1) = T.extract p.a p.e := by unfold wtP; rw [hp]
      rw [hwt] at hgo
      generalize T.extract p.a p.e = nm at hsl hgo
      have hcs : ∀ W, DB w W ⟨#[]⟩ (.slice none 0 0) [] → W.cell? ⟨b, off + (i + 1) * 3, none⟩ = some (.int .i64 p.a) ∧ W.cell? ⟨b, off + (i + 1) * 3 + 1, none⟩ = some (.int .i64 p.e) ∧ W.cell? ⟨w.heap.size + 1, 0, none⟩ = some (.string ⟨#[]⟩) ∧ W.frozen? ⟨w.heap.size + 1, 0, none⟩ = false := fun W hD => by
        obtain ⟨b', off', e, x1, x2, _, _⟩ := hpc.out W (i + 1) p hD.hb hp
        injection e with e
        injection e with e1 e2
        subst e1
        subst e2
        exact ⟨x1, x2, hD.b1.cell 0, hD.b1.frozen 0⟩
      replace hcs := Lib.hid hcs
      have g0 : (0 : Int) ≤ (i : Int) := by omega
      have g1 : (i : Int) + 1 < L.length := by omega
      replace hp := Lib.hid hp
      replace ho := Lib.hid ho
      replace h1 := Lib.hid h1
      replace h2 := Lib.hid h2
      clear hty hng hwt
      go_enter Tryd.func50, Tryd.ntmps50
      go_upto_region 9 with first
        | (go_at_call 71; refine (k1.out _ i tType hst.out.hb).mono ?_; rw [h1.out]; rintro e W ⟨rfl, hW⟩; have hD := Lib.hid (hst.out.stay hW); clear hW)
        | (go_at_call 72; refine (k2.out _ (i + 1) hD.out.hb).mono ?_; rw [h2.out]; rintro e W2 ⟨rfl, hW2⟩; replace hD := Lib.hid (hD.out.stay hW2); clear hW2)
      obtain ⟨y0, y1, y2, y3⟩ := hcs.out W2 hD.out
      go_region
      all_goals
        have hD3 := Lib.hid ((hD.out.name nm).stay (Below.refl _ _).drew)
        generalize (W2.setCell ⟨w.heap.size + 1, 0, none⟩ (.string nm)).drew = W3 at hD3 ⊢
        clear hD y0 y1 y2 y3 hcs
        have hos := open_step (T := T) hL (k := i + 2) (ts := ts ++ [⟨nm, []⟩])
        cases h3 : isP T L (i + 2) ⟨#[40]⟩ with
        | false =>
          rw [if_neg (by rw [h3]; decide)] at hos
          have hq := Lib.hid (hgo.trans hos)
          replace h3 := Lib.hid h3
          replace hL := Lib.hid hL
          clear hgo hos
          go_wp2_with first
            | (have _t := tok0; clear tok0; go_at_call 71; refine (k1.out _ (i + 2) ⟨#[40]⟩ hD3.out.hb).mono ?_; rw [h3.out]; rintro e W ⟨rfl, hW⟩; have hD := Lib.hid (hD3.out.stay hW); clear hW)
            | (refine at_op (.load 34 (.tmp 11)) rfl ?_; refine wpList_load_blk rfl 34 (.tmp 11) rfl hD.out.b1 aggTd rfl ?_)
            | (refine at_op (.store 34 (.tmp 8) (.tmp 59)) rfl ?_; refine wpList_store_blk rfl 34 (.tmp 8) (.tmp 59) rfl (cs' := [.string nm, .slice none 0 0]) hD.out.b0 aggTd rfl rfl rfl rfl ?_; intro w1 hz1 hg1)
          exact bodyPost_cell3 rfl hz1 aggTd rfl rfl rfl rfl (hD.out.bad hg1 (by decide) (by go_num) hq.out)
        | true =>
          rw [if_pos h3] at hos
          have hgo2 := hgo.trans hos
          have hi3 := isP_lt h3
          replace h3 := Lib.hid h3
          clear hgo hos
          cases h4 : isP T L (i + 3) ⟨#[41]⟩ with
          | true =>
            have hq := Lib.hid (hgo2.trans (close_step hL (k := i + 3) h4))
            have hi4 := isP_lt h4
            replace h4 := Lib.hid h4
            replace hL := Lib.hid hL
            clear hgo2
            go_wp2_with first
              | (have _t := tok0; clear tok0; go_at_call 71; refine (k1.out _ (i + 2) ⟨#[40]⟩ hD3.out.hb).mono ?_; rw [h3.out]; rintro e W ⟨rfl, hW⟩; have hD := Lib.hid (hD3.out.stay hW); clear hW)
              | (go_at_call 71; refine (k1.out _ (i + 3) ⟨#[41]⟩ hD.out.hb).mono ?_; rw [h4.out]; rintro e W5 ⟨rfl, hW⟩; replace hD := Lib.hid (hD.out.stay hW); clear hW)
              | (refine at_op (.load 34 (.tmp 11)) rfl ?_; refine wpList_load_blk rfl 34 (.tmp 11) rfl hD.out.b1 aggTd rfl ?_)
              | (refine at_op (.store 34 (.tmp 8) (.tmp 67)) rfl ?_; refine wpList_store_blk rfl 34 (.tmp 8) (.tmp 67) rfl (cs' := [.string nm, .slice none 0 0]) hD.out.b0 aggTd rfl rfl rfl rfl ?_; intro w1 hz1 hg1)
            exact bodyPost_cell3 rfl hz1 aggTd rfl rfl rfl rfl (hD.out.good hg1 (k := i + 4) (by go_num) (by omega) (by omega) (by simp) ht15 hq.out)
          | false =>
            have h4' := Lib.hid h4
            replace hgo2 := Lib.hid hgo2
            clear h4
            go_wp2_with first
              | (have _t := tok0; clear tok0; go_at_call 71; refine (k1.out _ (i + 2) ⟨#[40]⟩ hD3.out.hb).mono ?_; rw [h3.out]; rintro e W ⟨rfl, hW⟩; have hD := Lib.hid (hD3.out.stay hW); clear hW)
              | (go_at_call 71; refine (k1.out _ (i + 3) ⟨#[41]⟩ hD.out.hb).mono ?_; rw [h4'.out]; rintro e W5 ⟨rfl, hW⟩; replace hD := Lib.hid (hD.out.stay hW); clear hW)
            go_loopw [12, 13] (fun _ x wr => DRel T L ts i w nm x wr) (fun _ x _ => L.length - (intOf x).toNat)
            case atStart => exact .mk (i + 3) 3 _ [] (by go_num) (by omega) (by omega) (by simp) hD.out (.inr ⟨rfl, h4'.out⟩) hgo2.out
            case round =>
              obtain ⟨k, wnt, u, l, hx, hik, hkL, hl8, hD, hwn, hgk⟩ := hrel
              subst hx
              obtain ⟨A3, c3, rfl⟩ := hD.ol.form
              have x1 : wr.cell? ⟨w.heap.size + 1, 1, none⟩ = some (.slice A3 l.length c3) := hD.b1.cell 1
              have q1 : (k : Int) ≤ L.length := by omega
              have ka := Lib.hid (k3.out wr k A3 c3 l (fun b => b < wr.heap.size) hl8 hD.hb (hD.ol.rd (fun b h _ => h.elim) (fun b _ h => h)))
              have hag := at_go (T := T) (t := ⟨nm, l⟩) (l := ts) hL hwn
              have hD' := Lib.hid hD
              clear hD
              by_cases h5 : atR T L k l = 0
              · rw [if_neg (by simpa using h5)] at hag
                have hgk2 := hgk.trans hag
                obtain ⟨hwk, hl7⟩ := atR_zero h5
                obtain ⟨p2, hp2, _, _⟩ := wd_true hwk
                have hk1 := (List.getElem?_eq_some_iff.1 hp2).1
                have ho2 := hL p2 (List.mem_of_getElem? hp2)
                have hsl2 := sl_of ho2
                have hwt2 : wtP T L k = T.extract p2.a p2.e := by unfold wtP; rw [hp2]
                rw [hwt2] at hgk2
                generalize T.extract p2.a p2.e = X at hsl2 hgk2
                have hns := next_step (T := T) hL (k := k + 1) (ts := ts ++ [⟨nm, l ++ [X]⟩])
                have hcs2 : ∀ W, DB w W nm (.slice A3 l.length c3) l → W.cell? ⟨b, off + k * 3, none⟩ = some (.int .i64 p2.a) ∧ W.cell? ⟨b, off + k * 3 + 1, none⟩ = some (.int .i64 p2.e) ∧ W.cell? ⟨w.heap.size + 1, 1, none⟩ = some (.slice A3 l.length c3) := fun W hD => by
                  obtain ⟨b', off', e, z1, z2, _, _⟩ := hpc.out W k p2 hD.hb hp2
                  injection e with e
                  injection e with e1 e2
                  subst e1
                  subst e2
                  exact ⟨z1, z2, hD.b1.cell 1⟩
                replace hcs2 := Lib.hid hcs2
                have g2 : (0 : Int) ≤ (k : Int) := by omega
                have g3 : (k : Int) < L.length := by omega
                replace hp2 := Lib.hid hp2
                replace ho2 := Lib.hid ho2
                replace h5 := Lib.hid h5
                replace hwk := Lib.hid hwk
                clear hag hgk hwt2
                go_upto_region 19 with (go_at_call 73; refine ka.out.mono ?_; rw [h5.out]; rintro e W7 ⟨rfl, hW⟩; have hD := Lib.hid (hD'.out.stay hW); clear hW)
                obtain ⟨y0, y1, y2⟩ := hcs2.out W7 hD.out
                have hs2 := hD.out.b1.lt
                have hup : ∀ (v' : Value) (w1 : World), (W7.alloc (.cells ⟨[.string X]⟩ 9)).grownBy w1 (Value.slice A3 l.length c3).ownBlock → OL w1 (w.heap.size + 1 + 1) NoB 9 1 v' (l.length + 1) (l.flatMap strD ++ strD X) → w1.cell? ⟨w.heap.size + 1, 1, none⟩ = some (.slice A3 l.length c3) ∧ w1.frozen? ⟨w.heap.size + 1, 1, none⟩ = false ∧ DB w (w1.setCell ⟨w.heap.size + 1, 1, none⟩ v') nm v' (l ++ [X]) := fun v' w1 hg hO => by
                  have hB := hD.out.stay ((Below.refl _ _).alloc (Nat.le_refl _) (.cells ⟨[.string X]⟩ 9))
                  have t0 := hB.b1.grown hg (fun e => by have := (hB.ol.lt _ e.symm).1; omega)
                  exact ⟨t0.cell 1, t0.frozen 1, hB.put hg (by simpa using hO)⟩
                replace hup := Lib.hid hup
                have hol := fun o => Lib.hid (hD.out.ol.alloc o)
                go_region_law ((refine step_app (by rfl) (.tmp 88) (.tmp 101) _ (by rfl) (m := 1) (news := strD X) elStr (by exact (hol (.cells ⟨[.string X]⟩ 9)).out.drew) (by rfl) (by rfl) (by exact (Src.lit (show RdL W7 _ [.string X] (strD X) from ⟨.v _ rfl, trivial⟩)).drew) rfl (by omega) (by omega) (by simp; omega) ?_; intro v' w1 hO1 hg1 ha1; obtain ⟨B3, d3, rfl⟩ := hO1.form; have hg := undrew hg1; obtain ⟨t1, t2, hD9⟩ := hup.out _ _ hg hO1; replace hD9 := Lib.hid hD9; clear hg hg1 ha1 hO1))
                all_goals
                  generalize w1.setCell ⟨w.heap.size + 1, 1, none⟩ (Value.slice B3 (l.length + 1) d3) = W9 at hD9 ⊢
                  clear y0 y1 y2 x1 t1 t2 hup hcs2 hol
                  have hns' := Lib.hid hns
                  have hgk3 := Lib.hid hgk2
                  cases h6 : isP T L (k + 1) ⟨#[41]⟩ with
                  | true =>
                    have hq := Lib.hid (hgk3.out.trans (hns'.out.trans (if_pos h6)))
                    have hk4 := isP_lt h6
                    replace h6 := Lib.hid h6
                    clear hns hgk2
                    go_wp2_with first
                      | (go_at_call 71; refine (k1.out _ (k + 1) ⟨#[41]⟩ hD9.out.hb).mono ?_; rw [h6.out]; rintro e W ⟨rfl, hW⟩; have hD0 := Lib.hid (hD9.out.stay hW); clear hW)
                      | (refine at_op (.load 34 (.tmp 11)) rfl ?_; refine wpList_load_blk rfl 34 (.tmp 11) rfl hD0.out.b1 aggTd rfl ?_)
                      | (refine at_op (.store 34 (.tmp 8) (.tmp 109)) rfl ?_; refine wpList_store_blk rfl 34 (.tmp 8) (.tmp 109) rfl (cs' := [.string nm, .slice B3 (l.length + 1) d3]) hD0.out.b0 aggTd rfl rfl rfl rfl ?_; intro w5 hz1 hg1)
                    exact bodyPost_cell3 rfl hz1 aggTd rfl rfl rfl rfl (hD0.out.good hg1 (k := k + 2) (by go_num) (by omega) (by omega) (by simp; omega) ht15 hq.out)
                  | false =>
                    have hnf := Lib.hid (hns'.out.trans (if_neg (by rw [h6]; decide)))
                    have h6' := Lib.hid h6
                    cases h7 : isP T L (k + 1) ⟨#[44]⟩ with
                    | true =>
                      have hq := Lib.hid (hgk3.out.trans (hnf.out.trans (if_pos h7)))
                      have hk4 := isP_lt h7
                      have h7' := Lib.hid h7
                      clear hns hgk2 h6 h7
                      go_wp2_with first
                        | (have _t := tok1; clear tok1; go_at_call 71; refine (k1.out _ (k + 1) ⟨#[41]⟩ hD9.out.hb).mono ?_; rw [h6'.out]; rintro e W ⟨rfl, hW⟩; have hD0 := Lib.hid (hD9.out.stay hW); clear hW)
                        | (go_at_call 71; refine (k1.out _ (k + 1) ⟨#[44]⟩ hD0.out.hb).mono ?_; rw [h7'.out]; rintro e W5 ⟨rfl, hW⟩; replace hD0 := Lib.hid (hD0.out.stay hW); clear hW)
                      go_roundw
                      case rel => exact .mk (k + 2) 4 _ (l ++ [X]) (by go_num) (by omega) (by omega) (by simp; omega) (by simpa using hD0.out) (.inl rfl) hq.out
                      case measure => simp [intOf]; omega
                    | false =>
                      have hq := Lib.hid (hgk3.out.trans (hnf.out.trans (if_neg (by rw [h7]; decide))))
                      have h7' := Lib.hid h7
                      clear hns hgk2 h6 h7
                      go_wp2_with first
                        | (have _t := tok1; clear tok1; go_at_call 71; refine (k1.out _ (k + 1) ⟨#[41]⟩ hD9.out.hb).mono ?_; rw [h6'.out]; rintro e W ⟨rfl, hW⟩; have hD0 := Lib.hid (hD9.out.stay hW); clear hW)
                        | (go_at_call 71; refine (k1.out _ (k + 1) ⟨#[44]⟩ hD0.out.hb).mono ?_; rw [h7'.out]; rintro e W5 ⟨rfl, hW⟩; replace hD0 := Lib.hid (hD0.out.stay hW); clear hW)
                        | (refine at_op (.load 34 (.tmp 11)) rfl ?_; refine wpList_load_blk rfl 34 (.tmp 11) rfl hD0.out.b1 aggTd rfl ?_)
                        | (refine at_op (.store 34 (.tmp 8) (.tmp 118)) rfl ?_; refine wpList_store_blk rfl 34 (.tmp 8) (.tmp 118) rfl (cs' := [.string nm, .slice B3 (l.length + 1) d3]) hD0.out.b0 aggTd rfl rfl rfl rfl ?_; intro w5 hz1 hg1)
                      exact bodyPost_cell3 rfl hz1 aggTd rfl rfl rfl rfl (hD0.out.bad hg1 (by decide) (by go_num) hq.out)
              · rw [if_pos h5] at hag
                have hq := Lib.hid (hgk.trans hag)
                have f2 : (atR T L k l == 0) = false := by rw [beq_eq_false_iff_ne]; exact h5
                generalize hC : atR T L k l = C at *
                have h5' := Lib.hid h5
                replace hL := Lib.hid hL
                replace hC := Lib.hid hC
                clear h5 hag hgk
                go_wp2_with first
                  | (go_at_call 73; refine ka.out.mono ?_; rintro e W7 ⟨rfl, hW⟩; have hD := Lib.hid (hD'.out.stay hW); clear hW)
                  | (refine at_op (.load 34 (.tmp 11)) rfl ?_; refine wpList_load_blk rfl 34 (.tmp 11) rfl hD.out.b1 aggTd rfl ?_)
                  | (refine at_op (.store 34 (.tmp 8) (.tmp 84)) rfl ?_; refine wpList_store_blk rfl 34 (.tmp 8) (.tmp 84) rfl (cs' := [.string nm, .slice A3 l.length c3]) hD.out.b0 aggTd rfl rfl rfl rfl ?_; intro w1 hz1 hg1)
                exact bodyPost_cell3 rfl hz1 aggTd rfl rfl rfl rfl (hD.out.bad hg1 h5'.out rfl hq.out)
    · rw [if_pos h2] at hng
      have hq := Lib.hid (hty.trans hng)
      have f2 : (nmR T L (i + 1) ts == 0) = false := by rw [beq_eq_false_iff_ne]; exact h2
      generalize hC : nmR T L (i + 1) ts = C at *
      have h2' := Lib.hid h2
      replace h1 := Lib.hid h1
      replace hL := Lib.hid hL
      replace hC := Lib.hid hC
      clear h2 hty hng
      go_enter Tryd.func50, Tryd.ntmps50
      go_wp2_with first
        | (go_at_call 71; refine (k1.out _ i tType hst.out.hb).mono ?_; rw [h1.out]; rintro e W ⟨rfl, hW⟩; have hD := Lib.hid (hst.out.stay hW); clear hW)
        | (go_at_call 72; refine (k2.out _ (i + 1) hD.out.hb).mono ?_; rw [hC.out]; rintro e W2 ⟨rfl, hW2⟩; replace hD := Lib.hid (hD.out.stay hW2); clear hW2)
        | (refine at_op (.load 34 (.tmp 11)) rfl ?_; refine wpList_load_blk rfl 34 (.tmp 11) rfl hD.out.b1 aggTd rfl ?_)
        | (refine at_op (.store 34 (.tmp 8) (.tmp 34)) rfl ?_; refine wpList_store_blk rfl 34 (.tmp 8) (.tmp 34) rfl (cs' := [.string ⟨#[]⟩, .slice none 0 0]) hD.out.b0 aggTd rfl rfl rfl rfl ?_; intro w1 hz1 hg1)
      exact bodyPost_cell3 rfl hz1 aggTd rfl rfl rfl rfl (hD.out.bad hg1 h2'.out (by go_num) hq.out)
end hbW
end Go.Proofs.YtmadafejenjkcaaDoor
