/- The program's reader: an attribute, a word. -/
import Derived.Test.YtmadafejenjkcaaDoorH3
namespace Go.Proofs.YtmadafejenjkcaaDoor
open Go.RowKit Go.Deep
set_option linter.unusedVariables false
set_option linter.unusedSimpArgs false

theorem ts_eq (s : ByteArray) : (s.toList == ([116, 115] : List UInt8)) = decide (s = tTs) := by
  have := nmW.beq_bytes s tTs
  rwa [show tTs.toList = [116, 115] by rw [ByteArray.toList_eq]; rfl] at this
theorem type_eq (s : ByteArray) : (s.toList == ([116, 121, 112, 101] : List UInt8)) = decide (s = tType) := by
  have := nmW.beq_bytes s tType
  rwa [show tType.toList = [116, 121, 112, 101] by rw [ByteArray.toList_eq]; rfl] at this
namespace hbW
open nmW
set_option maxHeartbeats 1600000 in
theorem attr_k {w : World} {B g wt : Nat} {vt : Value} {l0 : List (Td × Value)} {t : Td} {u : Value} (h : RX w B g wt vt 0 0 (l0 ++ [(t, u)])) (hn : l0.length ≤ 15) (ht : t.attrs.length ≤ 8) (s : ByteArray) (hs0 : 0 < s.size) (hs : s.size ≤ 4096) (hK : KwIs w) (at_ : Nat) :
    Calls Tryd.prog 69 #[.pointer (some ⟨g, 0, none⟩), .string s, .int .i64 at_] w (RdPost w B g at_ (attrC t.attrs s, ⟨5, l0.map (·.1) ++ [⟨t.name, t.attrs ++ [s]⟩]⟩)) := by
  have k1 := Lib.hid (fun w B g want vt cd pl l => @refuse_k w B g want vt cd pl l)
  have k2 := Lib.hid isName_k
  have hp : (l0 ++ [(t, u)])[l0.length]? = some (t, u) := by simp
  obtain ⟨gk, cap, hvt, hgk, hgk2, hfz, _, x1⟩ := h.os.at_ hp
  have hL : (l0 ++ [(t, u)]).length = l0.length + 1 := by simp
  rw [hL] at hvt
  subst hvt
  generalize hn0 : l0.length = n0 at *
  have hfr := h.os.fr (t, u) (by simp)
  obtain ⟨A2, c2, hu⟩ := hfr.form
  simp only at hu x1 hfr
  subst hu
  have k3 : ∀ W, Below w.heap.size w W → Calls Tryd.prog 57 #[.slice A2 t.attrs.length c2, .string s] W (fun e w' => e = .returned (.int .i64 (placeI t.attrs s)) ∧ w' = W) := fun W hW =>
    placeOf_k A2 c2 (fun b => b < W.heap.size) t.attrs s (by omega) W ((hfr.stay hW).rd (fun b h _ => h.elim) (fun b _ h => h))
  have hst : ∀ W, Below w.heap.size w W → RX W B g wt (.slice (some ⟨gk, 0, none⟩) (n0 + 1) cap) 0 0 (l0 ++ [(t, .slice A2 t.attrs.length c2)]) ∧ Bel B g w W ∧ W.cell? ⟨gk, n0 * 2 + 1, none⟩ = some (.slice A2 t.attrs.length c2) ∧ OL W B NoB 9 1 (.slice A2 t.attrs.length c2) t.attrs.length (t.attrs.flatMap strD) := fun W hW =>
    ⟨h.stay hW, .of' hW h.bw, (hW.cell (p := ⟨gk, n0 * 2 + 1, none⟩) hgk2).trans x1, hfr.stay hW⟩
  have c1 : w.cell? ⟨g, 1, none⟩ = some (.slice (some ⟨gk, 0, none⟩) (n0 + 1) cap) := h.bx.cell 1
  have hn2 : n0 ≤ 1000 := by omega
  have hpos' : (0 : Int) < s.size := by omega
  obtain ⟨r, hr⟩ : ∃ r : Int × Rs, r = (attrC t.attrs s, ⟨5, l0.map (·.1) ++ [⟨t.name, t.attrs ++ [s]⟩]⟩) := ⟨_, rfl⟩
  rw [← hr]
  have hnm : r.1 = attrC t.attrs s := by rw [hr]
  have hr1 : r.2 = ⟨5, l0.map (·.1) ++ [⟨t.name, t.attrs ++ [s]⟩]⟩ := by rw [hr]
  have hB0 := h.bw
  have g5 : (0 : Int) ≤ (n0 : Int) := by omega
  have g6 : (n0 : Int) < (n0 : Int) + 1 := by omega
  have hh := Lib.hid h
  replace k3 := Lib.hid k3
  replace hst := Lib.hid hst
  replace hK := Lib.hid hK
  replace hr1 := Lib.hid hr1
  clear h hp hfr hfz hL hr
  by_cases hd : digN (s[0]'hs0).toNat = true
  · have hc : r.1 = 21 := by rw [hnm]; unfold attrC dig0; rw [dif_pos hs0, if_pos hd]
    simp only [digN, Bool.and_eq_true, decide_eq_true_eq] at hd
    have d1 : (48 : Int) ≤ ((s[0]'hs0).toNat : Int) := by omega
    have d2 : ((s[0]'hs0).toNat : Int) ≤ 57 := by omega
    replace hc := Lib.hid hc
    clear hnm
    go_enter Tryd.func69, Tryd.ntmps69
    go_wp2
    go_quiet (fail)
    go_wp2_with (go_at_call 46; refine (k1.out _ _ _ _ _ _ _ _ (hst.out _ (below_drewN (Below.refl _ _) _)).1 _ _).mono ?_; rintro e W ⟨rfl, hW⟩; replace hW := Lib.hid hW)
    first | refine bodyPost_ret (results_none rfl _ _ _) rfl ?_ | refine bodyPost_end (results_none rfl _ _ _) rfl ?_
    exact .bad hc.out (by decide) ((hst.out _ (below_drewN (Below.refl _ _) _)).2.1.trans hW.out.2) hW.out.1 (s := r.2)
  have hd0 : digN (s[0]'hs0).toNat = false := by simpa using hd
  have dd : ¬ (48 : Int) ≤ ((s[0]'hs0).toNat : Int) ∨ ((48 : Int) ≤ ((s[0]'hs0).toNat : Int) ∧ ¬ ((s[0]'hs0).toNat : Int) ≤ 57) := by
    have : ¬ (48 ≤ (s[0]'hs0).toNat ∧ (s[0]'hs0).toNat ≤ 57) := by
      intro h
      simp [digN] at hd0
      omega
    omega
  have hdg : dig0 s = false := by unfold dig0; rw [dif_pos hs0, hd0]
  clear hd hd0
  by_cases h8 : t.attrs.length = 8
  · have hc : r.1 = 24 := by rw [hnm]; unfold attrC; rw [hdg, if_pos h8]; rfl
    replace hc := Lib.hid hc
    have e8 : ((t.attrs.length : Int) == 8) = true := by rw [beq_iff_eq]; omega
    clear hnm
    rcases dd with d1 | ⟨d1, d2⟩
    all_goals
      go_enter Tryd.func69, Tryd.ntmps69
      go_wp2
      go_quiet (fail)
      go_wp2_with (go_at_call 46; refine (k1.out _ _ _ _ _ _ _ _ (hst.out _ (below_drewN (Below.refl _ _) _)).1 _ _).mono ?_; rintro e W ⟨rfl, hW⟩; replace hW := Lib.hid hW)
      first | refine bodyPost_ret (results_none rfl _ _ _) rfl ?_ | refine bodyPost_end (results_none rfl _ _ _) rfl ?_
      exact .bad hc.out (by decide) ((hst.out _ (below_drewN (Below.refl _ _) _)).2.1.trans hW.out.2) hW.out.1 (s := r.2)
  have e8 : ((t.attrs.length : Int) == 8) = false := by rw [beq_eq_false_iff_ne]; omega
  cases hi : isNm s with
  | false =>
    have hc : r.1 = 22 := by rw [hnm]; unfold attrC; rw [hdg, if_neg (show ¬ (false = true) from by decide), if_neg h8, hi]; rfl
    replace hc := Lib.hid hc
    replace hi := Lib.hid hi
    clear hnm
    rcases dd with d1 | ⟨d1, d2⟩
    all_goals
      go_enter Tryd.func69, Tryd.ntmps69
      go_wp2
      go_quiet (fail)
      go_wp2_with first
        | (go_at_call 55; refine (k2.out _ _ (hK.out.stay (below_drewN (Below.refl _ _) _)) (by omega)).mono ?_; rw [hi.out]; rintro e W ⟨rfl, hW⟩; have hWx : Below w.heap.size w W := (below_drewN (Below.refl _ _) _).trans (hW.mono (by simp)); replace hW := Lib.hid hWx; clear hWx)
        | (go_at_call 46; refine (k1.out _ _ _ _ _ _ _ _ (hst.out _ hW.out).1 _ _).mono ?_; rintro e W2 ⟨rfl, hW2⟩; replace hW2 := Lib.hid hW2)
      first | refine bodyPost_ret (results_none rfl _ _ _) rfl ?_ | refine bodyPost_end (results_none rfl _ _ _) rfl ?_
      exact .bad hc.out (by decide) ((hst.out _ hW.out).2.1.trans hW2.out.2) hW2.out.1 (s := r.2)
  | true =>
    by_cases hts : s = tTs
    · have hc : r.1 = 22 := by rw [hnm]; unfold attrC; rw [hdg, if_neg (show ¬ (false = true) from by decide), if_neg h8, if_pos (.inr hts)]
      have hu' : (s.toList == ([116, 115] : List UInt8)) = true := by rw [ts_eq]; exact decide_eq_true hts
      replace hc := Lib.hid hc
      replace hi := Lib.hid hi
      replace hts := Lib.hid hts
      clear hnm
      rcases dd with d1 | ⟨d1, d2⟩
      all_goals
        go_enter Tryd.func69, Tryd.ntmps69
        go_wp2
        go_quiet (fail)
        go_wp2_with first
          | (go_at_call 55; refine (k2.out _ _ (hK.out.stay (below_drewN (Below.refl _ _) _)) (by omega)).mono ?_; rw [hi.out]; rintro e W ⟨rfl, hW⟩; have hWx : Below w.heap.size w W := (below_drewN (Below.refl _ _) _).trans (hW.mono (by simp)); have q1 := (hst.out W hWx).2.2.1; replace hW := Lib.hid hWx; clear hWx)
          | (go_at_call 46; refine (k1.out _ _ _ _ _ _ _ _ (hst.out _ hW.out).1 _ _).mono ?_; rintro e W2 ⟨rfl, hW2⟩; replace hW2 := Lib.hid hW2)
        first | refine bodyPost_ret (results_none rfl _ _ _) rfl ?_ | refine bodyPost_end (results_none rfl _ _ _) rfl ?_
        exact .bad hc.out (by decide) ((hst.out _ hW.out).2.1.trans hW2.out.2) hW2.out.1 (s := r.2)
    · have hu' : (s.toList == ([116, 115] : List UInt8)) = false := by rw [ts_eq]; exact decide_eq_false hts
      generalize hp : placeI t.attrs s = p at k3
      cases hN : hasA t.attrs s with
      | true =>
        have hc : r.1 = 25 := by rw [hnm]; unfold attrC; rw [hdg, if_neg (show ¬ (false = true) from by decide), if_neg h8, if_neg (by rintro (e | e); (rw [hi] at e; cases e); exact hts e), hN]; rfl
        have hp0 : (0 : Int) ≤ p := by rw [← hp]; exact placeA_nn.2 hN
        replace hc := Lib.hid hc
        replace hi := Lib.hid hi
        replace hts := Lib.hid hts
        clear hnm hp hN
        rcases dd with d1 | ⟨d1, d2⟩
        all_goals
          go_enter Tryd.func69, Tryd.ntmps69
          go_wp2
          go_quiet (fail)
          go_wp2_with first
            | (go_at_call 55; refine (k2.out _ _ (hK.out.stay (below_drewN (Below.refl _ _) _)) (by omega)).mono ?_; rw [hi.out]; rintro e W ⟨rfl, hW⟩; have hWx : Below w.heap.size w W := (below_drewN (Below.refl _ _) _).trans (hW.mono (by simp)); have q1 := (hst.out W hWx).2.2.1; replace hW := Lib.hid hWx; clear hWx)
            | (go_at_call 57; refine (k3.out _ hW.out).mono ?_; rintro e W1 ⟨rfl, hW1⟩; obtain rfl := hW1.symm)
            | (go_at_call 46; refine (k1.out _ _ _ _ _ _ _ _ (hst.out _ hW.out).1 _ _).mono ?_; rintro e W2 ⟨rfl, hW2⟩; replace hW2 := Lib.hid hW2)
          first | refine bodyPost_ret (results_none rfl _ _ _) rfl ?_ | refine bodyPost_end (results_none rfl _ _ _) rfl ?_
          exact .bad hc.out (by decide) ((hst.out _ hW.out).2.1.trans hW2.out.2) hW2.out.1 (s := r.2)
      | false =>
        have hc : r.1 = 0 := by rw [hnm]; unfold attrC; rw [hdg, if_neg (show ¬ (false = true) from by decide), if_neg h8, if_neg (by rintro (e | e); (rw [hi] at e; cases e); exact hts e), hN]; rfl
        have hp0 : ¬ (0 : Int) ≤ p := by rw [← hp]; intro e; rw [placeA_nn.1 e] at hN; cases hN
        replace hc := Lib.hid hc
        replace hi := Lib.hid hi
        replace hts := Lib.hid hts
        clear hnm hp hN
        rcases dd with d1 | ⟨d1, d2⟩
        all_goals
          go_enter Tryd.func69, Tryd.ntmps69
          go_wp2
          go_quiet (fail)
          go_wp2_with first
            | (go_at_call 55; refine (k2.out _ _ (hK.out.stay (below_drewN (Below.refl _ _) _)) (by omega)).mono ?_; rw [hi.out]; rintro e W ⟨rfl, hW⟩; have hWx : Below w.heap.size w W := (below_drewN (Below.refl _ _) _).trans (hW.mono (by simp)); have q1 := (hst.out W hWx).2.2.1; replace hW := Lib.hid hWx; clear hWx)
            | (go_at_call 57; refine (k3.out _ hW.out).mono ?_; rintro e W1 ⟨rfl, hW1⟩; obtain rfl := hW1.symm)
            | (at_builtin; refine wpList_app rfl (.tmp 22) (.tmp 24) _ rfl (m := 1) (news := strD s) elStr ((hst.out _ hW.out).2.2.2.alloc (.cells ⟨[.string s]⟩ 9)) rfl rfl (Src.lit (show RdL _ _ [.string s] (strD s) from ⟨.v _ rfl, trivial⟩)) rfl (by omega) (by omega) (by have := (hst.out _ hW.out).1.bw; simp; omega) ?_; intro v' w1 hO1 hg1 ha1; obtain ⟨B3, d3, rfl⟩ := hO1.form; have hU := (hst.out _ hW.out).1.atUp hn0 (hst.out _ hW.out).2.1 hg1 hO1 ha1; have u0 := hU.c0; have u1 := hU.c1; have u2 := hU.f0; have u3 := hU.f1; have u4 := hU.ne; replace hU := Lib.hid hU; clear hO1 hg1 ha1)
          first | refine bodyPost_ret (results_none rfl _ _ _) rfl ?_ | refine bodyPost_end (results_none rfl _ _ _) rfl ?_
          exact .good hc.out (by rw [hr1.out]) (by rw [hr1.out]; simp) hU.out.end_.2 hU.out.end_.1

set_option maxHeartbeats 1600000 in
theorem word_k {w : World} {B g : Nat} {st : Rs} {vt : Value} {l : List (Td × Value)} (h : RX w B g st.want vt 0 0 l) (hl : l.map (·.1) = st.ts) (hok : RsOk st) (hw5 : st.want ≤ 5) (s : ByteArray) (hs0 : 0 < s.size) (hs : s.size ≤ 4096) (hK : KwIs w) (at_ : Nat) :
    Calls Tryd.prog 44 #[.pointer (some ⟨g, 0, none⟩), .string s, .int .i64 at_] w (RdPost w B g at_ (stepW st s)) := by
  have k1 := Lib.hid (fun w B g want vt cd pl l => @refuse_k w B g want vt cd pl l)
  obtain ⟨wt, ts⟩ := st
  simp only at h hl hw5
  obtain ⟨A, ca, rfl⟩ := h.ty
  have hts : ts.length = l.length := by rw [← hl, List.length_map]
  have hn16 := hok.n16
  simp only at hn16
  have c0 : w.cell? ⟨g, 0, none⟩ = some (.int .i64 wt) := h.bx.cell 0
  have c1 : w.cell? ⟨g, 1, none⟩ = some (.slice A l.length ca) := h.bx.cell 1
  have f0 : w.frozen? ⟨g, 0, none⟩ = false := h.bx.frozen 0
  have cs : wt = 0 ∨ wt = 1 ∨ (wt = 3 ∨ wt = 4) ∨ (wt = 2 ∨ wt = 5) := by omega
  rcases cs with rfl | rfl | hw | hw
  · by_cases ht : s = tType
    · have e1 : (s.toList == ([116, 121, 112, 101] : List UInt8)) = true := by rw [type_eq]; exact decide_eq_true ht
      by_cases h16 : l.length = 16
      · have e2 : ((l.length : Int) == 16) = true := by rw [beq_iff_eq]; omega
        have hr : stepW ⟨0, ts⟩ s = (23, ⟨0, ts⟩) := by simp [stepW, ht, hts, h16]
        rw [hr]
        have hd1 : ∀ W, RX W B g 0 (.slice A l.length ca) 23 at_ l ∧ Bel B g w W → W.cell? ⟨g, 0, none⟩ = some (.int .i64 (0 : Nat)) ∧ W.frozen? ⟨g, 0, none⟩ = false ∧ (RX (W.setCell ⟨g, 0, none⟩ (.int .i64 (1 : Nat))) B g 1 (.slice A l.length ca) 23 at_ l ∧ Bel B g w (W.setCell ⟨g, 0, none⟩ (.int .i64 (1 : Nat)))) := fun W hW => ⟨hW.1.bx.cell 0, hW.1.bx.frozen 0, hW.1.setW 1, hW.2.setG 0 _⟩
        have hh := Lib.hid h
        replace hd1 := Lib.hid hd1
        replace ht := Lib.hid ht
        clear h hok hl hr h16 hts hn16
        go_enter Tryd.func44, Tryd.ntmps44
        go_wp2_with (go_at_call 46; refine (k1.out _ _ _ _ _ _ _ _ hh.out _ _).mono ?_; rintro e W ⟨rfl, hW⟩; obtain ⟨u0, u1, hW2⟩ := hd1.out W hW; replace hW2 := Lib.hid hW2; clear hW)
        first | refine bodyPost_ret (results_none rfl _ _ _) rfl ?_ | refine bodyPost_end (results_none rfl _ _ _) rfl ?_
        exact .bad (c := 23) rfl (by decide) hW2.out.2 hW2.out.1 (s := ⟨0, []⟩)
      · have e2 : ((l.length : Int) == 16) = false := by rw [beq_eq_false_iff_ne]; omega
        have hr : stepW ⟨0, ts⟩ s = (0, ⟨1, ts⟩) := by simp [stepW, ht, hts, h16]
        rw [hr]
        have hP : RdPost w B g at_ (0, ⟨1, ts⟩) (.returned (.tuple #[])) (w.setCell ⟨g, 0, none⟩ (.int .i64 (1 : Nat))) := .good rfl rfl hl ((Bel.refl B g w).setG 0 _) (h.setW 1)
        replace hP := Lib.hid hP
        replace ht := Lib.hid ht
        clear h hok hl hr h16 hts hn16
        go_enter Tryd.func44, Tryd.ntmps44
        go_wp2
        first | refine bodyPost_ret (results_none rfl _ _ _) rfl ?_ | refine bodyPost_end (results_none rfl _ _ _) rfl ?_
        exact hP.out
    · have e1 : (s.toList == ([116, 121, 112, 101] : List UInt8)) = false := by rw [type_eq]; exact decide_eq_false ht
      have hr : stepW ⟨0, ts⟩ s = (21, ⟨0, ts⟩) := by simp [stepW, ht]
      rw [hr]
      have hd1 : ∀ W, RX W B g 0 (.slice A l.length ca) 21 at_ l ∧ Bel B g w W → W.cell? ⟨g, 0, none⟩ = some (.int .i64 (0 : Nat)) ∧ W.frozen? ⟨g, 0, none⟩ = false ∧ (RX (W.setCell ⟨g, 0, none⟩ (.int .i64 (1 : Nat))) B g 1 (.slice A l.length ca) 21 at_ l ∧ Bel B g w (W.setCell ⟨g, 0, none⟩ (.int .i64 (1 : Nat)))) := fun W hW => ⟨hW.1.bx.cell 0, hW.1.bx.frozen 0, hW.1.setW 1, hW.2.setG 0 _⟩
      have hh := Lib.hid h
      replace hd1 := Lib.hid hd1
      replace ht := Lib.hid ht
      clear h hok hl hr hts hn16
      go_enter Tryd.func44, Tryd.ntmps44
      go_wp2_with (go_at_call 46; refine (k1.out _ _ _ _ _ _ _ _ hh.out _ _).mono ?_; rintro e W ⟨rfl, hW⟩; obtain ⟨u0, u1, hW2⟩ := hd1.out W hW; replace hW2 := Lib.hid hW2; clear hW)
      first | refine bodyPost_ret (results_none rfl _ _ _) rfl ?_ | refine bodyPost_end (results_none rfl _ _ _) rfl ?_
      exact .bad (c := 21) rfl (by decide) hW2.out.2 hW2.out.1 (s := ⟨0, []⟩)
  · have hr : stepW ⟨1, ts⟩ s = (nameC ts s, ⟨2, ts ++ [⟨s, []⟩]⟩) := by simp [stepW]
    rw [hr, ← hl]
    have hk := Lib.hid (name_k h (by have := hok.n15 rfl; simp only at this; omega) s hs0 hs hK at_)
    clear h hok hl hr hts hn16
    go_enter Tryd.func44, Tryd.ntmps44
    go_wp2_with (go_at_call 68; refine hk.out.mono ?_; intro e W hW; obtain rfl := hW.1; replace hW := Lib.hid hW)
    first | refine bodyPost_ret (results_none rfl _ _ _) rfl ?_ | refine bodyPost_end (results_none rfl _ _ _) rfl ?_
    exact hW.out
  · have h0 : wt ≠ 0 := by omega
    have h1 : wt ≠ 1 := by omega
    obtain ⟨T0, t, hT⟩ := snoc_of (hok.ne h0 h1)
    simp only at hT
    subst hT
    have hlne : l ≠ [] := fun e => by rw [e] at hl; simp at hl
    obtain ⟨l0, p, rfl⟩ := snoc_of hlne
    obtain ⟨t', u⟩ := p
    rw [List.map_append] at hl
    obtain ⟨hl0, hl1⟩ := List.append_inj' hl rfl
    simp only [List.map_cons, List.map_nil, List.cons.injEq, and_true] at hl1
    subst hl1
    subst hl0
    have hr : stepW ⟨wt, l0.map (·.1) ++ [t']⟩ s = (attrC t'.attrs s, ⟨5, l0.map (·.1) ++ [⟨t'.name, t'.attrs ++ [s]⟩]⟩) := by
      unfold stepW
      rw [if_neg h0, if_neg h1, if_pos hw, lastA_snoc, addA_snoc]
    rw [hr]
    have hk := Lib.hid (attr_k h (by simp at hn16; omega) (hok.a8 t' (by simp)) s hs0 hs hK at_)
    clear h hok hr hts hn16 hl hlne
    rcases hw with rfl | rfl
    all_goals
      go_enter Tryd.func44, Tryd.ntmps44
      go_wp2_with (go_at_call 69; refine hk.out.mono ?_; intro e W hW; obtain rfl := hW.1; replace hW := Lib.hid hW)
      first | refine bodyPost_ret (results_none rfl _ _ _) rfl ?_ | refine bodyPost_end (results_none rfl _ _ _) rfl ?_
      exact hW.out
  · have hr : stepW ⟨wt, ts⟩ s = (21, ⟨wt, ts⟩) := by
      unfold stepW
      rw [if_neg (show ¬ wt = 0 by omega), if_neg (show ¬ wt = 1 by omega), if_neg (show ¬ (wt = 3 ∨ wt = 4) by omega)]
    rw [hr]
    have hh := Lib.hid h
    clear h hok hl hr hts hn16
    rcases hw with rfl | rfl
    all_goals
      go_enter Tryd.func44, Tryd.ntmps44
      go_wp2_with (go_at_call 46; refine (k1.out _ _ _ _ _ _ _ _ hh.out _ _).mono ?_; rintro e W ⟨rfl, hW⟩; replace hW := Lib.hid hW)
      first | refine bodyPost_ret (results_none rfl _ _ _) rfl ?_ | refine bodyPost_end (results_none rfl _ _ _) rfl ?_
      exact .bad (c := 21) rfl (by decide) hW.out.2 hW.out.1 (s := ⟨0, []⟩)
end hbW
end Go.Proofs.YtmadafejenjkcaaDoor
