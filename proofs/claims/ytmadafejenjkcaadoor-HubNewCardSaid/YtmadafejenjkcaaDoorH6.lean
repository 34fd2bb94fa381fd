/- The program's ParseSchema, walked. -/
import Derived.Test.YtmadafejenjkcaaDoorH5
namespace Go.Proofs.YtmadafejenjkcaaDoor
open Go.RowKit Go.Deep
set_option linter.unusedVariables false
set_option linter.unusedSimpArgs false

theorem PR.start (T : ByteArray) (w : World) : PR T w (((w.alloc (.cells ⟨[.slice none 0 0]⟩ 24)).alloc (.cells ⟨[.int .i64 0, .slice none 0 0, .int .i64 0, .int .i64 0]⟩ 125)).alloc (.stringIter T 0)) 0 none false ⟨0, []⟩ (.slice none 0 0) [] where
  hp := Nat.zero_le _
  hit := by
    have := heap_alloc_new ((w.alloc (.cells ⟨[.slice none 0 0]⟩ 24)).alloc (.cells ⟨[.int .i64 0, .slice none 0 0, .int .i64 0, .int .i64 0]⟩ 125)) (.stringIter T 0)
    simpa using this
  b0 := ((Blk.new w _ _).alloc _).alloc _
  hb := (((Below.refl _ _).alloc (Nat.le_refl _) _).alloc (by simp) _).alloc (by simp; omega) _
  rx := ⟨by omega, (Blk.new' (by simp)).alloc _, by simp, .nil _ _⟩
  hl := rfl
  ok := .zero
  bgo := .none _ _
  cmo := fun h => by cases h
  eq := rfl
/-- a refusal: what the last region asks, what comes of it -/
structure PBad (T : ByteArray) (w W : World) (c : Int) (q : Nat) : Prop where
  c2 : W.cell? ⟨w.heap.size + 1, 2, none⟩ = some (.int .i64 c)
  c3 : W.cell? ⟨w.heap.size + 1, 3, none⟩ = some (.int .i64 q)
  c0 : W.cell? ⟨w.heap.size, 0, none⟩ = some (.slice none 0 0)
  f0 : W.frozen? ⟨w.heap.size, 0, none⟩ = false
  b0 : Blk (W.setCell ⟨w.heap.size, 0, none⟩ (.slice none 0 0)) w.heap.size 24 [.slice none 0 0]
  hb : Below w.heap.size w (W.setCell ⟨w.heap.size, 0, none⟩ (.slice none 0 0))
theorem PA.bad {T : ByteArray} {w W : World} {p want q : Nat} {vt : Value} {c : Int} {l : List (Td × Value)} (h : PA T w W p) (hr : RX W (w.heap.size + 1 + 1 + 1) (w.heap.size + 1) want vt c q l) : PBad T w W c q :=
  ⟨hr.bx.cell 2, hr.bx.cell 3, h.b0.cell 0, h.b0.frozen 0, h.b0.set_ 0 _, h.hb.setCell (by show _ ≤ w.heap.size; omega) _⟩
/-- a word's step, ended well or not -/
theorem word_out {T : ByteArray} {w W W' : World} {p at_ : Nat} {r : Int × Rs} {e : Ending} (hA : PA T w W p) (h : RdPost W (w.heap.size + 1 + 1 + 1) (w.heap.size + 1) at_ r e W') :
    e = .returned (.tuple #[]) ∧ PA T w W' p ∧ (r.1 = 0 → ∃ vt l, RX W' (w.heap.size + 1 + 1 + 1) (w.heap.size + 1) r.2.want vt 0 0 l ∧ l.map (·.1) = r.2.ts) ∧ (r.1 ≠ 0 → PBad T w W' r.1 at_) := by
  obtain ⟨h1, h2, wt, vt, pl, l, h3, h4, h5⟩ := h
  refine ⟨h1, hA.bel h2, fun h0 => ?_, fun h0 => ?_⟩
  · obtain ⟨rfl, e2, rfl⟩ := h4 h0
    rw [h0] at h3
    exact ⟨vt, l, h3, e2⟩
  · obtain rfl := h5 h0
    exact (hA.bel h2).bad h3
namespace hbW
open nmW
set_option maxRecDepth 100000 in
set_option maxHeartbeats 4000000 in
theorem parse_k (T : ByteArray) (w : World) (hK : KwIs w) : Calls Tryd.prog 28 #[.string T] w (PSPost T w) := by
  have k1 := Lib.hid wordByte_k
  by_cases h96 : 4096 < T.size
  · have f1 : (4096 : Int) < T.size := by omega
    have hps : psC T = (20, 4096) := by unfold psC; rw [if_pos h96]
    have e1 : Blk (w.alloc (.cells ⟨[.slice none 0 0]⟩ 24)) w.heap.size 24 [.slice none 0 0] := Blk.new _ _ _
    have e2 : Below w.heap.size w (w.alloc (.cells ⟨[.slice none 0 0]⟩ 24)) := (Below.refl _ _).alloc (Nat.le_refl _) _
    replace hK := Lib.hid hK
    replace e1 := Lib.hid e1
    replace e2 := Lib.hid e2
    go_enter Tryd.func28, Tryd.ntmps28
    go_wp2
    exact bodyPost_cell3 rfl e1.out aggSc rfl rfl rfl rfl (.mk hps rfl e2.out)
  have f1 : ¬ (4096 : Int) < T.size := by omega
  have hT : T.size ≤ 4096 := by omega
  have hps : psC T = go T ⟨0, []⟩ (pcs T 0 none false) := by unfold psC; rw [if_neg h96]
  have hKs : ∀ W, Below w.heap.size w W → KwIs W := fun W hW => hK.stay hW
  replace hKs := Lib.hid hKs
  have hst := Lib.hid (PR.start T w)
  clear h96 hK
  go_enter Tryd.func28, Tryd.ntmps28
  go_wp2
  go_loopw [6, 7, 8, 9] (fun x6 x7 _ _ wr => PRel T w x6 x7 wr) (fun _ _ _ _ wr => T.size - wr.iterPos (w.heap.size + 1 + 1))
  case atStart => exact .mk (bg := none) (cm := false) rfl rfl hst.out
  case round =>
    obtain ⟨p, bg, cm, st, vt, l, hx6, hx7, hP⟩ := hrel
    subst hx7
    have hit := hP.hit
    by_cases hlt : p < T.size
    · have hnx : ∀ ty, (Instr.next (.pointer (some ⟨w.heap.size + 1 + 1, 0, none⟩)) true ty).run Tryd.prog wr = _ := fun ty => Lib.run_next_any_at wr (w.heap.size + 1 + 1) T p ty hit hlt
      have hdw := dec_word T p hlt
      have hcr := cm_rune hlt
      have hrc := rune_cases hlt
      obtain ⟨hk1, hk2⟩ := dec_hi hlt
      obtain ⟨hA, hR⟩ := hP.next (p + (Utf8.decode T p).2)
      have hm : wr.iterPos (w.heap.size + 1 + 1) = p := by simp only [World.iterPos, hit]
      generalize wr.iterAt (w.heap.size + 1 + 1) T (p + (Utf8.decode T p).2) = W at *
      generalize (Utf8.decode T p).1 = c at *
      generalize (Utf8.decode T p).2 = k at *
      have hmW : ∀ W', PA T w W' (p + k) → T.size - W'.iterPos (w.heap.size + 1 + 1) < T.size - wr.iterPos (w.heap.size + 1 + 1) := fun W' h => by
        rw [hm]
        simp only [World.iterPos, h.hit]
        omega
      replace hmW := Lib.hid hmW
      cases cm with
      | true =>
        obtain rfl := hP.cmo rfl
        have hx := hx6.trans (show bgV _ = Value.int .i64 (-1) from rfl)
        subst hx
        clear hx6
        have hP2 := Lib.hid (hA.pr (bg := none) (cm := decide (c ≠ 10)) hk2 hR hP.hl hP.ok (.none _ _) (fun _ => rfl) (by rw [hP.eq, hcr]))
        replace hA := Lib.hid hA
        by_cases h10 : c = 10
        · have e1 : ((c : Int) == 10) = true := by rw [beq_iff_eq]; omega
          rw [decide_eq_false (by omega)] at hP2
          replace h10 := Lib.hid h10
          clear hP hR hit hm hdw hcr hrc
          go_wp2
          go_roundw
          case rel => exact .mk (bg := none) (cm := false) rfl (by rw [bne, e1]; rfl) hP2.out
          case measure => exact hmW.out _ hA.out
        · have e1 : ((c : Int) == 10) = false := by rw [beq_eq_false_iff_ne]; omega
          rw [decide_eq_true (show c ≠ 10 from h10)] at hP2
          replace h10 := Lib.hid h10
          clear hP hR hit hm hdw hcr hrc
          go_wp2
          go_roundw
          case rel => exact .mk (bg := none) (cm := true) rfl (by rw [bne, e1]; rfl) hP2.out
          case measure => exact hmW.out _ hA.out
      | false =>
        --B
        have hwp : wordN (T[p]'hlt).toNat = wordN c := hdw.1.symm
        cases hwc : wordN c with
        | true =>
          rw [hwc] at hwp
          obtain rfl : k = 1 := hdw.2 hwp
          have hP2 := Lib.hid (hA.pr (bg := some (bg.getD p)) (cm := false) hk2 hR hP.hl hP.ok (hP.bgo.next hlt hwp) (fun h => by cases h) (by rw [hP.eq, pcs_word hlt bg hwp]))
          replace hA := Lib.hid hA
          replace hwp := Lib.hid hwp
          replace hwc := Lib.hid hwc
          clear hP hR hit hm hdw hcr hrc
          cases bg with
          | none =>
            have hx := hx6.trans (show bgV _ = Value.int .i64 (-1) from rfl)
            subst hx
            clear hx6
            go_wp2_with (go_at_call 43; refine (k1.out _ _).mono ?_; rw [hwc.out]; rintro e W0 ⟨rfl, hW0⟩; obtain rfl := hW0.symm)
            go_roundw
            case rel => exact .mk (bg := some p) (cm := false) rfl rfl hP2.out
            case measure => exact hmW.out _ hA.out
          | some s =>
            have hx := hx6.trans (show bgV _ = Value.int .i64 s from rfl)
            subst hx
            have q1 : ¬ (s : Int) < 0 := by omega
            clear hx6
            go_wp2_with (go_at_call 43; refine (k1.out _ _).mono ?_; rw [hwc.out]; rintro e W0 ⟨rfl, hW0⟩; obtain rfl := hW0.symm)
            go_roundw
            case rel => exact .mk (bg := some s) (cm := false) rfl rfl hP2.out
            case measure => exact hmW.out _ hA.out
        | false =>
          rw [hwc] at hwp
          have hwc0 := hwc
          have hcut := hP.eq.trans (congrArg (go T st) (pcs_non hlt bg hwp))
          have ok := hP.ok
          have hl0 := hP.hl
          have hbg := hP.bgo
          replace hwc := Lib.hid hwc
          cases bg with
          | none =>
            have hx := hx6.trans (show bgV _ = Value.int .i64 (-1) from rfl)
            subst hx
            have heq := Lib.hid hcut
            simp only [flush, List.nil_append] at heq
            have z2 : W.cell? ⟨w.heap.size + 1, 2, none⟩ = some (.int .i64 0) := hR.bx.cell 2
            have hA2 := Lib.hid hA
            have hR2 := Lib.hid hR
            have hl2 := Lib.hid hl0
            have ok2 := Lib.hid ok
            clear hx6 hP hA hR hit hm hdw hcr hcut ok hl0 hbg hwp
            rcases hrc hwc0 with ⟨hc4, hpe⟩ | ⟨hc4, hpe⟩ | ⟨⟨n1, n2, n3, n4, n5⟩, hmk⟩
            · replace hpe := Lib.hid hpe
              replace hrc := Lib.hid hrc
              rcases hc4 with rfl | rfl | rfl | rfl
              all_goals
                go_wp2_with first
                  | (go_at_call 43; refine (k1.out _ _).mono ?_; rw [hwc.out]; rintro e W0 ⟨rfl, hW0⟩; obtain rfl := hW0.symm)
                go_roundw
                case rel => exact .mk (bg := none) (cm := false) rfl rfl (hA2.out.pr (bg := none) (cm := false) hk2 hR2.out hl2.out ok2.out (.none _ _) (fun h => by cases h) (by rw [heq.out, hpe.out]))
                case measure => exact hmW.out _ hA2.out
            · replace hpe := Lib.hid hpe
              replace hrc := Lib.hid hrc
              subst hc4
              go_wp2_with first
                | (go_at_call 43; refine (k1.out _ _).mono ?_; rw [hwc.out]; rintro e W0 ⟨rfl, hW0⟩; obtain rfl := hW0.symm)
              go_roundw
              case rel => exact .mk (bg := none) (cm := true) rfl rfl (hA2.out.pr (bg := none) (cm := true) hk2 hR2.out hl2.out ok2.out (.none _ _) (fun _ => rfl) (by rw [heq.out, hpe.out]))
              case measure => exact hmW.out _ hA2.out
            · have e1 : ((c : Int) == 32) = false := by rw [beq_eq_false_iff_ne]; omega
              have e2 : ((c : Int) == 9) = false := by rw [beq_eq_false_iff_ne]; omega
              have e3 : ((c : Int) == 10) = false := by rw [beq_eq_false_iff_ne]; omega
              have e4 : ((c : Int) == 13) = false := by rw [beq_eq_false_iff_ne]; omega
              have e5 : ((c : Int) == 35) = false := by rw [beq_eq_false_iff_ne]; omega
              replace hrc := Lib.hid hrc
              rcases hmk st with ⟨hm0, hge⟩ | ⟨hm0, hge⟩
              · have hq : psC T = ((stepM st c).1, p) := by rw [hps, heq.out, hge]
                generalize hcd : (stepM st c).1 = cd at *
                have e6 : (cd == 0) = false := by rw [beq_eq_false_iff_ne]; exact hm0
                replace hq := Lib.hid hq
                replace hcd := Lib.hid hcd
                replace hm0 := Lib.hid hm0
                clear hge hmk
                go_wp2_with first
                  | (go_at_call 43; refine (k1.out _ _).mono ?_; rw [hwc.out]; rintro e W0 ⟨rfl, hW0⟩; obtain rfl := hW0.symm)
                  | (go_at_call 45; refine (mark_k hR2.out hl2.out c p ok2.out.w5).mono ?_; intro e W3 hW3; obtain ⟨rfl, hA3, h03, hb3⟩ := word_out hA2.out hW3; rw [hcd.out] at hb3; have hB := hb3 hm0.out; have y2 := hB.c2; have y3 := hB.c3; have y0 := hB.c0; have yf := hB.f0; replace hB := Lib.hid hB; clear hb3 h03 hA3 hW3)
                go_region
                all_goals
                  go_wp2
                  exact bodyPost_cell3 rfl (hB.out.b0.stay (Below.refl _ _).drew) aggSc rfl rfl rfl rfl (PSPost.mk hq.out rfl hB.out.hb.drew)
              · have ok3 := Lib.hid (stepM_ok ok2.out hm0)
                replace hge := Lib.hid hge
                replace hm0 := Lib.hid hm0
                clear hmk
                go_wp2_with first
                  | (go_at_call 43; refine (k1.out _ _).mono ?_; rw [hwc.out]; rintro e W0 ⟨rfl, hW0⟩; obtain rfl := hW0.symm)
                  | (go_at_call 45; refine (mark_k hR2.out hl2.out c p ok2.out.w5).mono ?_; intro e W3 hW3; obtain ⟨rfl, hA3, h03, hb3⟩ := word_out hA2.out hW3; obtain ⟨vt3, l3, hR3, hl3⟩ := h03 hm0.out; have y2 : W3.cell? ⟨w.heap.size + 1, 2, none⟩ = some (.int .i64 0) := hR3.bx.cell 2; replace hR3 := Lib.hid hR3; replace hl3 := Lib.hid hl3; replace hA3 := Lib.hid hA3; clear hb3 h03 hW3)
                go_roundw
                case rel => exact .mk (bg := none) (cm := false) rfl rfl (hA3.out.pr (bg := none) (cm := false) hk2 hR3.out hl3.out ok3.out (.none _ _) (fun h => by cases h) (by rw [heq.out, hge.out]))
                case measure => exact hmW.out _ hA3.out
          | some s =>
            have hx := hx6.trans (show bgV _ = Value.int .i64 s from rfl)
            subst hx
            obtain ⟨hs1, hs2⟩ := hbg s rfl
            have q0 : (0 : Int) ≤ (s : Int) := by omega
            have hsl : ∀ W', (Instr.slice 9 (.string T) (some (.int .i64 s)) (some (.int .i64 p)) none).run Tryd.prog W' = .ok (.string (T.extract s p)) W' := fun W' => by
              have := run_slice_string (P := Tryd.prog) W' 9 T .i64 .i64 s p Tryd.underlying9 (by omega) (by omega) (by omega)
              simpa using this
            have hXs : (T.extract s p).size = p - s := ext_size (by omega) (by omega)
            have hgw := go_word (T := T) (s := s) (p := p) st (pcs T p none false)
            generalize T.extract s p = X at hsl hXs hgw
            have kw := Lib.hid ((word_k hR hl0 ok ok.w5 X (by omega) (by omega) (hKs.out _ hA.hb) s).mono fun e W' h => word_out hA h)
            clear hx6 hP hA hR hit hm hdw hcr hl0 hbg hwp
            rcases hgw with ⟨hw0, hge⟩ | ⟨hw0, hge⟩
            · have hq : psC T = ((stepW st X).1, s) := by rw [hps, hcut, hge]
              generalize hcd : (stepW st X).1 = cd at *
              have e6 : (cd == 0) = false := by rw [beq_eq_false_iff_ne]; exact hw0
              replace hq := Lib.hid hq
              replace hw0 := Lib.hid hw0
              replace hrc := Lib.hid hrc
              clear hge hcut
              go_wp2_with first
                | (go_at_call 43; refine (k1.out _ _).mono ?_; rw [hwc.out]; rintro e W0 ⟨rfl, hW0⟩; obtain rfl := hW0.symm)
                | (go_at_call 44; refine kw.out.mono ?_; rintro e W2 ⟨rfl, hA2, h02, hb2⟩; have hB := hb2 hw0.out; have y2 := hB.c2; have y3 := hB.c3; have y0 := hB.c0; have yf := hB.f0; replace hB := Lib.hid hB; clear hb2 h02 hA2)
              go_region
              all_goals
                go_wp2
                exact bodyPost_cell3 rfl (hB.out.b0.stay (Below.refl _ _).drew) aggSc rfl rfl rfl rfl (PSPost.mk hq.out rfl hB.out.hb.drew)
            · have heq := Lib.hid (hcut.trans hge)
              have ok2 := Lib.hid (stepW_ok ok hw0)
              replace hw0 := Lib.hid hw0
              clear hge hcut ok
              rcases hrc hwc0 with ⟨hc4, hpe⟩ | ⟨hc4, hpe⟩ | ⟨⟨n1, n2, n3, n4, n5⟩, hmk⟩
              · replace hpe := Lib.hid hpe
                replace hrc := Lib.hid hrc
                rcases hc4 with rfl | rfl | rfl | rfl
                all_goals
                  go_wp2_with first
                    | (go_at_call 43; refine (k1.out _ _).mono ?_; rw [hwc.out]; rintro e W0 ⟨rfl, hW0⟩; obtain rfl := hW0.symm)
                    | (go_at_call 44; refine kw.out.mono ?_; rintro e W2 ⟨rfl, hA2, h02, hb2⟩; obtain ⟨vt2, l2, hR2, hl2⟩ := h02 hw0.out; have z2 : W2.cell? ⟨w.heap.size + 1, 2, none⟩ = some (.int .i64 0) := hR2.bx.cell 2; replace hR2 := Lib.hid hR2; replace hl2 := Lib.hid hl2; replace hA2 := Lib.hid hA2; clear hb2 h02)
                  go_roundw
                  case rel => exact .mk (bg := none) (cm := false) rfl rfl (hA2.out.pr (bg := none) (cm := false) hk2 hR2.out hl2.out ok2.out (.none _ _) (fun h => by cases h) (by rw [heq.out, hpe.out]))
                  case measure => exact hmW.out _ hA2.out
              · replace hpe := Lib.hid hpe
                replace hrc := Lib.hid hrc
                subst hc4
                go_wp2_with first
                  | (go_at_call 43; refine (k1.out _ _).mono ?_; rw [hwc.out]; rintro e W0 ⟨rfl, hW0⟩; obtain rfl := hW0.symm)
                  | (go_at_call 44; refine kw.out.mono ?_; rintro e W2 ⟨rfl, hA2, h02, hb2⟩; obtain ⟨vt2, l2, hR2, hl2⟩ := h02 hw0.out; have z2 : W2.cell? ⟨w.heap.size + 1, 2, none⟩ = some (.int .i64 0) := hR2.bx.cell 2; replace hR2 := Lib.hid hR2; replace hl2 := Lib.hid hl2; replace hA2 := Lib.hid hA2; clear hb2 h02)
                go_roundw
                case rel => exact .mk (bg := none) (cm := true) rfl rfl (hA2.out.pr (bg := none) (cm := true) hk2 hR2.out hl2.out ok2.out (.none _ _) (fun _ => rfl) (by rw [heq.out, hpe.out]))
                case measure => exact hmW.out _ hA2.out
              · have e1 : ((c : Int) == 32) = false := by rw [beq_eq_false_iff_ne]; omega
                have e2 : ((c : Int) == 9) = false := by rw [beq_eq_false_iff_ne]; omega
                have e3 : ((c : Int) == 10) = false := by rw [beq_eq_false_iff_ne]; omega
                have e4 : ((c : Int) == 13) = false := by rw [beq_eq_false_iff_ne]; omega
                have e5 : ((c : Int) == 35) = false := by rw [beq_eq_false_iff_ne]; omega
                replace hrc := Lib.hid hrc
                rcases hmk (stepW st X).2 with ⟨hm0, hge⟩ | ⟨hm0, hge⟩
                · have hq : psC T = ((stepM (stepW st X).2 c).1, p) := by rw [hps, heq.out, hge]
                  generalize hcd : (stepM (stepW st X).2 c).1 = cd at *
                  have e6 : (cd == 0) = false := by rw [beq_eq_false_iff_ne]; exact hm0
                  replace hq := Lib.hid hq
                  replace hcd := Lib.hid hcd
                  replace hm0 := Lib.hid hm0
                  clear hge hmk
                  go_wp2_with first
                    | (go_at_call 43; refine (k1.out _ _).mono ?_; rw [hwc.out]; rintro e W0 ⟨rfl, hW0⟩; obtain rfl := hW0.symm)
                    | (go_at_call 44; refine kw.out.mono ?_; rintro e W2 ⟨rfl, hA2, h02, hb2⟩; obtain ⟨vt2, l2, hR2, hl2⟩ := h02 hw0.out; have z2 : W2.cell? ⟨w.heap.size + 1, 2, none⟩ = some (.int .i64 0) := hR2.bx.cell 2; replace hR2 := Lib.hid hR2; replace hl2 := Lib.hid hl2; replace hA2 := Lib.hid hA2; clear hb2 h02)
                    | (go_at_call 45; refine (mark_k hR2.out hl2.out c p ok2.out.w5).mono ?_; intro e W3 hW3; obtain ⟨rfl, hA3, h03, hb3⟩ := word_out hA2.out hW3; rw [hcd.out] at hb3; have hB := hb3 hm0.out; have y2 := hB.c2; have y3 := hB.c3; have y0 := hB.c0; have yf := hB.f0; replace hB := Lib.hid hB; clear hb3 h03 hA3 hW3)
                  go_region
                  all_goals
                    go_wp2
                    exact bodyPost_cell3 rfl (hB.out.b0.stay (Below.refl _ _).drew) aggSc rfl rfl rfl rfl (PSPost.mk hq.out rfl hB.out.hb.drew)
                · have ok3 := Lib.hid (stepM_ok ok2.out hm0)
                  replace hge := Lib.hid hge
                  replace hm0 := Lib.hid hm0
                  clear hmk
                  go_wp2_with first
                    | (go_at_call 43; refine (k1.out _ _).mono ?_; rw [hwc.out]; rintro e W0 ⟨rfl, hW0⟩; obtain rfl := hW0.symm)
                    | (go_at_call 44; refine kw.out.mono ?_; rintro e W2 ⟨rfl, hA2, h02, hb2⟩; obtain ⟨vt2, l2, hR2, hl2⟩ := h02 hw0.out; have z2 : W2.cell? ⟨w.heap.size + 1, 2, none⟩ = some (.int .i64 0) := hR2.bx.cell 2; replace hR2 := Lib.hid hR2; replace hl2 := Lib.hid hl2; replace hA2 := Lib.hid hA2; clear hb2 h02)
                    | (go_at_call 45; refine (mark_k hR2.out hl2.out c p ok2.out.w5).mono ?_; intro e W3 hW3; obtain ⟨rfl, hA3, h03, hb3⟩ := word_out hA2.out hW3; obtain ⟨vt3, l3, hR3, hl3⟩ := h03 hm0.out; have y2 : W3.cell? ⟨w.heap.size + 1, 2, none⟩ = some (.int .i64 0) := hR3.bx.cell 2; replace hR3 := Lib.hid hR3; replace hl3 := Lib.hid hl3; replace hA3 := Lib.hid hA3; clear hb3 h03 hW3)
                  go_roundw
                  case rel => exact .mk (bg := none) (cm := false) rfl rfl (hA3.out.pr (bg := none) (cm := false) hk2 hR3.out hl3.out ok3.out (.none _ _) (fun h => by cases h) (by rw [heq.out, hge.out]))
                  case measure => exact hmW.out _ hA3.out
    · --E
      have hpp := hP.hp
      obtain rfl : p = T.size := by omega
      have hnx : ∀ ty, (Instr.next (.pointer (some ⟨w.heap.size + 1 + 1, 0, none⟩)) true ty).run Tryd.prog wr = _ := fun ty => Lib.run_next_end_at wr (w.heap.size + 1 + 1) T T.size ty hit hlt
      have heq := hP.eq
      rw [pcs_end (Nat.le_refl _)] at heq
      have hA : PA T w wr T.size := ⟨hP.hit, hP.b0, hP.hb⟩
      have hR := hP.rx
      have hl0 := hP.hl
      have ok := hP.ok
      have hbg := hP.bgo
      clear hP hit
      cases bg with
      | none =>
        have hx := hx6.trans (show bgV _ = Value.int .i64 (-1) from rfl)
        subst hx
        obtain ⟨st2, hst2⟩ : ∃ st2, st2 = st := ⟨_, rfl⟩
        subst hst2
        obtain ⟨W2, hW2⟩ : ∃ W2, W2 = wr := ⟨_, rfl⟩
        subst hW2
        obtain ⟨l2, hl2'⟩ : ∃ l2, l2 = l := ⟨_, rfl⟩
        subst hl2'
        have hA2 := hA
        have hR2 := hR
        have hl2 := hl0
        have z2 : W2.cell? ⟨w.heap.size + 1, 2, none⟩ = some (.int .i64 0) := hR2.bx.cell 2
        have z0 : W2.cell? ⟨w.heap.size + 1, 0, none⟩ = some (.int .i64 st2.want) := hR2.bx.cell 0
        obtain ⟨A2, ca2, hvt2⟩ := hR2.ty
        subst hvt2
        rw [show l2.length = st2.ts.length by rw [← hl2, List.length_map]] at hR2
        have z1 : W2.cell? ⟨w.heap.size + 1, 1, none⟩ = some (.slice A2 st2.ts.length ca2) := hR2.bx.cell 1
        have zb : W2.cell? ⟨w.heap.size, 0, none⟩ = some (.slice none 0 0) := hA2.b0.cell 0
        have zf : W2.frozen? ⟨w.heap.size, 0, none⟩ = false := hA2.b0.frozen 0
        replace hR2 := Lib.hid hR2
        replace hl2 := Lib.hid hl2
        replace hA2 := Lib.hid hA2
        replace heq := Lib.hid (show _ = endC T st2 from heq)
        clear hx6 hA hR hl0 ok hbg
        by_cases hw0 : st2.want = 0
        · have f2 : ((st2.want : Int) == 0) = true := by rw [beq_iff_eq]; omega
          by_cases hts : st2.ts = []
          · have hq := Lib.hid (show psC T = (23, T.size) by rw [hps, heq.out]; unfold endC; rw [if_neg (by simpa using hw0), if_pos hts])
            have f3 : ((st2.ts.length : Int) == 0) = true := by rw [hts]; rfl
            replace hts := Lib.hid hts
            replace hw0 := Lib.hid hw0
            go_wp2_with first
              | (fail)
              | (go_at_call 46; refine (refuse_k hR2.out 23 T.size).mono ?_; rintro e W3 ⟨rfl, hR3, hb3⟩; have hB := (hA2.out.bel hb3).bad hR3; have y2 := hB.c2; have y3 := hB.c3; have y0 := hB.c0; have yf := hB.f0; replace hB := Lib.hid hB; clear hR3 hb3)
            go_region
            all_goals
              go_wp2
              exact bodyPost_cell3 rfl (hB.out.b0.stay (Below.refl _ _).drew) aggSc rfl rfl rfl rfl (PSPost.mk hq.out rfl hB.out.hb.drew)
          · have hq := Lib.hid (show psC T = (0, 0) by rw [hps, heq.out]; unfold endC; rw [if_neg (by simpa using hw0), if_neg hts])
            have f3 : ((st2.ts.length : Int) == 0) = false := by rw [beq_eq_false_iff_ne]; intro e; exact hts (List.eq_nil_of_length_eq_zero (by omega))
            replace hts := Lib.hid hts
            replace hw0 := Lib.hid hw0
            go_wp2_with first
              | (fail)
            exact bodyPost_cell3 rfl (hA2.out.b0.set_ 0 _) aggSc rfl rfl rfl rfl (PSPost.mk hq.out rfl (hA2.out.hb.setCell (p := ⟨w.heap.size, 0, none⟩) (by simp) _))
        · have f2 : ((st2.want : Int) == 0) = false := by rw [beq_eq_false_iff_ne]; omega
          have hq := Lib.hid (show psC T = (21, T.size) by rw [hps, heq.out]; unfold endC; rw [if_pos hw0])
          replace hw0 := Lib.hid hw0
          go_wp2_with first
            | (fail)
            | (go_at_call 46; refine (refuse_k hR2.out 21 T.size).mono ?_; rintro e W3 ⟨rfl, hR3, hb3⟩; have hB := (hA2.out.bel hb3).bad hR3; have y2 := hB.c2; have y3 := hB.c3; have y0 := hB.c0; have yf := hB.f0; replace hB := Lib.hid hB; clear hR3 hb3)
          go_region
          all_goals
            go_wp2
            exact bodyPost_cell3 rfl (hB.out.b0.stay (Below.refl _ _).drew) aggSc rfl rfl rfl rfl (PSPost.mk hq.out rfl hB.out.hb.drew)
      | some s =>
        have hx := hx6.trans (show bgV _ = Value.int .i64 s from rfl)
        subst hx
        obtain ⟨hs1, hs2⟩ := hbg s rfl
        have q0 : (0 : Int) ≤ (s : Int) := by omega
        have hsl : ∀ W', (Instr.slice 9 (.string T) (some (.int .i64 s)) none none).run Tryd.prog W' = .ok (.string (T.extract s T.size)) W' := fun W' => by
          have := run_slice_string_from_if (P := Tryd.prog) W' 9 T .i64 s Tryd.underlying9
          rw [if_pos (by omega)] at this
          simpa using this
        have hXs : (T.extract s T.size).size = T.size - s := ext_size (by omega) (by omega)
        have hgw := go_word (T := T) (s := s) (p := T.size) st []
        rw [List.append_nil] at hgw
        generalize T.extract s T.size = X at hsl hXs hgw
        have kw := Lib.hid ((word_k hR hl0 ok ok.w5 X (by omega) (by omega) (hKs.out _ hA.hb) s).mono fun e W' h => word_out hA h)
        clear hx6 hA hR hl0 hbg ok
        rcases hgw with ⟨hw1, hge⟩ | ⟨hw1, hge⟩
        · have hq : psC T = ((stepW st X).1, s) := by rw [hps, heq, hge]
          generalize hcd : (stepW st X).1 = cd at *
          have e6 : (cd == 0) = false := by rw [beq_eq_false_iff_ne]; exact hw1
          replace hq := Lib.hid hq
          replace hw1 := Lib.hid hw1
          clear hge heq
          go_wp2_with first
            | (fail)
            | (go_at_call 44; refine kw.out.mono ?_; rintro e W2 ⟨rfl, hA2, h02, hb2⟩; have hB := hb2 hw1.out; have y2 := hB.c2; have y3 := hB.c3; have y0 := hB.c0; have yf := hB.f0; replace hB := Lib.hid hB; clear hb2 h02 hA2)
          go_region
          all_goals
            go_wp2
            exact bodyPost_cell3 rfl (hB.out.b0.stay (Below.refl _ _).drew) aggSc rfl rfl rfl rfl (PSPost.mk hq.out rfl hB.out.hb.drew)
        · replace heq := Lib.hid (show _ = endC T (stepW st X).2 from heq.trans hge)
          generalize (stepW st X).2 = st2 at *
          replace hw1 := Lib.hid hw1
          clear hge
          by_cases hw0 : st2.want = 0
          · have f2 : ((st2.want : Int) == 0) = true := by rw [beq_iff_eq]; omega
            by_cases hts : st2.ts = []
            · have hq := Lib.hid (show psC T = (23, T.size) by rw [hps, heq.out]; unfold endC; rw [if_neg (by simpa using hw0), if_pos hts])
              have f3 : ((st2.ts.length : Int) == 0) = true := by rw [hts]; rfl
              replace hts := Lib.hid hts
              replace hw0 := Lib.hid hw0
              go_wp2_with first
                | (fail)
                | (go_at_call 44; refine kw.out.mono ?_; rintro e W2 ⟨rfl, hA2, h02, hb2⟩; obtain ⟨vt2, l2, hR2, hl2⟩ := h02 hw1.out; have z2 : W2.cell? ⟨w.heap.size + 1, 2, none⟩ = some (.int .i64 0) := hR2.bx.cell 2; have z0 : W2.cell? ⟨w.heap.size + 1, 0, none⟩ = some (.int .i64 st2.want) := hR2.bx.cell 0; obtain ⟨A2, ca2, hvt2⟩ := hR2.ty; subst hvt2; rw [show l2.length = st2.ts.length by rw [← hl2, List.length_map]] at hR2; have z1 : W2.cell? ⟨w.heap.size + 1, 1, none⟩ = some (.slice A2 st2.ts.length ca2) := hR2.bx.cell 1; have zb : W2.cell? ⟨w.heap.size, 0, none⟩ = some (.slice none 0 0) := hA2.b0.cell 0; have zf : W2.frozen? ⟨w.heap.size, 0, none⟩ = false := hA2.b0.frozen 0; replace hR2 := Lib.hid hR2; replace hl2 := Lib.hid hl2; replace hA2 := Lib.hid hA2; clear hb2 h02)
                | (go_at_call 46; refine (refuse_k hR2.out 23 T.size).mono ?_; rintro e W3 ⟨rfl, hR3, hb3⟩; have hB := (hA2.out.bel hb3).bad hR3; have y2 := hB.c2; have y3 := hB.c3; have y0 := hB.c0; have yf := hB.f0; replace hB := Lib.hid hB; clear hR3 hb3)
              go_region
              all_goals
                go_wp2
                exact bodyPost_cell3 rfl (hB.out.b0.stay (Below.refl _ _).drew) aggSc rfl rfl rfl rfl (PSPost.mk hq.out rfl hB.out.hb.drew)
            · have hq := Lib.hid (show psC T = (0, 0) by rw [hps, heq.out]; unfold endC; rw [if_neg (by simpa using hw0), if_neg hts])
              have f3 : ((st2.ts.length : Int) == 0) = false := by rw [beq_eq_false_iff_ne]; intro e; exact hts (List.eq_nil_of_length_eq_zero (by omega))
              replace hts := Lib.hid hts
              replace hw0 := Lib.hid hw0
              go_wp2_with first
                | (fail)
                | (go_at_call 44; refine kw.out.mono ?_; rintro e W2 ⟨rfl, hA2, h02, hb2⟩; obtain ⟨vt2, l2, hR2, hl2⟩ := h02 hw1.out; have z2 : W2.cell? ⟨w.heap.size + 1, 2, none⟩ = some (.int .i64 0) := hR2.bx.cell 2; have z0 : W2.cell? ⟨w.heap.size + 1, 0, none⟩ = some (.int .i64 st2.want) := hR2.bx.cell 0; obtain ⟨A2, ca2, hvt2⟩ := hR2.ty; subst hvt2; rw [show l2.length = st2.ts.length by rw [← hl2, List.length_map]] at hR2; have z1 : W2.cell? ⟨w.heap.size + 1, 1, none⟩ = some (.slice A2 st2.ts.length ca2) := hR2.bx.cell 1; have zb : W2.cell? ⟨w.heap.size, 0, none⟩ = some (.slice none 0 0) := hA2.b0.cell 0; have zf : W2.frozen? ⟨w.heap.size, 0, none⟩ = false := hA2.b0.frozen 0; replace hR2 := Lib.hid hR2; replace hl2 := Lib.hid hl2; replace hA2 := Lib.hid hA2; clear hb2 h02)
              exact bodyPost_cell3 rfl (hA2.out.b0.set_ 0 _) aggSc rfl rfl rfl rfl (PSPost.mk hq.out rfl (hA2.out.hb.setCell (p := ⟨w.heap.size, 0, none⟩) (by simp) _))
          · have f2 : ((st2.want : Int) == 0) = false := by rw [beq_eq_false_iff_ne]; omega
            have hq := Lib.hid (show psC T = (21, T.size) by rw [hps, heq.out]; unfold endC; rw [if_pos hw0])
            replace hw0 := Lib.hid hw0
            go_wp2_with first
              | (fail)
              | (go_at_call 44; refine kw.out.mono ?_; rintro e W2 ⟨rfl, hA2, h02, hb2⟩; obtain ⟨vt2, l2, hR2, hl2⟩ := h02 hw1.out; have z2 : W2.cell? ⟨w.heap.size + 1, 2, none⟩ = some (.int .i64 0) := hR2.bx.cell 2; have z0 : W2.cell? ⟨w.heap.size + 1, 0, none⟩ = some (.int .i64 st2.want) := hR2.bx.cell 0; obtain ⟨A2, ca2, hvt2⟩ := hR2.ty; subst hvt2; rw [show l2.length = st2.ts.length by rw [← hl2, List.length_map]] at hR2; have z1 : W2.cell? ⟨w.heap.size + 1, 1, none⟩ = some (.slice A2 st2.ts.length ca2) := hR2.bx.cell 1; have zb : W2.cell? ⟨w.heap.size, 0, none⟩ = some (.slice none 0 0) := hA2.b0.cell 0; have zf : W2.frozen? ⟨w.heap.size, 0, none⟩ = false := hA2.b0.frozen 0; replace hR2 := Lib.hid hR2; replace hl2 := Lib.hid hl2; replace hA2 := Lib.hid hA2; clear hb2 h02)
              | (go_at_call 46; refine (refuse_k hR2.out 21 T.size).mono ?_; rintro e W3 ⟨rfl, hR3, hb3⟩; have hB := (hA2.out.bel hb3).bad hR3; have y2 := hB.c2; have y3 := hB.c3; have y0 := hB.c0; have yf := hB.f0; replace hB := Lib.hid hB; clear hR3 hb3)
            go_region
            all_goals
              go_wp2
              exact bodyPost_cell3 rfl (hB.out.b0.stay (Below.refl _ _).drew) aggSc rfl rfl rfl rfl (PSPost.mk hq.out rfl hB.out.hb.drew)
end hbW
end Go.Proofs.YtmadafejenjkcaaDoor
