/- The program's reader: a type's name, an attribute, a word. -/
import Derived.Test.YtmadafejenjkcaaDoorH2
namespace Go.Proofs.YtmadafejenjkcaaDoor
open Go.RowKit Go.Deep
set_option linter.unusedVariables false
set_option linter.unusedSimpArgs false

theorem KwIs.bel {w w' : World} {B g : Nat} (h : KwIs w) (hb : Bel B g w w') (hB : 0 < g) (hg : g < B) : KwIs w' := by
  intro i k hk
  rw [World.cell?_of_block (w := w) (hb.block _ (by show 0 < B; omega) (by show 0 ≠ g; omega))]
  exact h i k hk
theorem RX.ty {w : World} {B g want : Nat} {vt : Value} {cd pl : Int} {l : List (Td × Value)} (h : RX w B g want vt cd pl l) : ∃ A c, vt = .slice A l.length c := h.os.kr.form
/-- one more type: what the walk asks, what comes of it -/
structure NmUp (w W1 : World) (B g : Nat) (vt v' : Value) (l : List (Td × Value)) (s : ByteArray) : Prop where
  c0 : W1.cell? ⟨g, 0, none⟩ = some (.int .i64 1)
  c1 : W1.cell? ⟨g, 1, none⟩ = some vt
  f0 : W1.frozen? ⟨g, 0, none⟩ = false
  f1 : W1.frozen? ⟨g, 1, none⟩ = false
  end_ : RX ((W1.setCell ⟨g, 1, none⟩ v').setCell ⟨g, 0, none⟩ (.int .i64 (2 : Nat))) B g 2 v' 0 0 (l ++ [(⟨s, []⟩, .slice none 0 0)]) ∧ Bel B g w ((W1.setCell ⟨g, 1, none⟩ v').setCell ⟨g, 0, none⟩ (.int .i64 (2 : Nat)))
theorem RX.nmUp {w w2 W1 : World} {B g : Nat} {vt v' : Value} {l : List (Td × Value)} {s : ByteArray} {o : Obj} (h : RX w2 B g 1 vt 0 0 l) (hb : Bel B g w w2) (hg : (w2.alloc o).grownBy W1 vt.ownBlock) (hO : OL W1 B NoB 34 2 v' (l.length + 1) (l.flatMap tcD ++ tcD (⟨s, []⟩, .slice none 0 0))) : NmUp w W1 B g vt v' l s := by
  have h2 := h.stay ((Below.refl _ _).alloc (Nat.le_refl _) o)
  have hgB := h.gB
  have hx : Blk W1 g 125 [.int .i64 (1 : Nat), vt, .int .i64 0, .int .i64 0] := h2.bx.grown hg (fun e => by have := (h2.os.kr.lt _ e.symm).1; omega)
  have hs : OSc W1 B v' (l ++ [(⟨s, []⟩, .slice none 0 0)]) := h2.os.snoc hg hO (.nil _ _ _ _ _) (fun _ _ => .inl rfl)
  refine ⟨hx.cell 0, hx.cell 1, hx.frozen 0, hx.frozen 1, ((h2.putT hg hs).setW 2), ?_⟩
  exact (((hb.trans (.of' ((Below.refl _ _).alloc (Nat.le_refl _) o) h.bw)).grown hg h2.bw (fun q hq => (h2.os.kr.lt q hq).1)).setG 1 _).setG 0 _
/-- one more attribute -/
structure AtUp (w W1 : World) (B g gk n0 wt cap : Nat) (u u' : Value) (l0 : List (Td × Value)) (t : Td) (s : ByteArray) : Prop where
  c0 : W1.cell? ⟨g, 0, none⟩ = some (.int .i64 wt)
  f0 : W1.frozen? ⟨g, 0, none⟩ = false
  c1 : W1.cell? ⟨gk, n0 * 2 + 1, none⟩ = some u
  f1 : W1.frozen? ⟨gk, n0 * 2 + 1, none⟩ = false
  ne : gk ≠ g
  end_ : RX ((W1.setCell ⟨gk, n0 * 2 + 1, none⟩ u').setCell ⟨g, 0, none⟩ (.int .i64 (5 : Nat))) B g 5 (.slice (some ⟨gk, 0, none⟩) (n0 + 1) cap) 0 0 (l0 ++ [(⟨t.name, t.attrs ++ [s]⟩, u')]) ∧ Bel B g w ((W1.setCell ⟨gk, n0 * 2 + 1, none⟩ u').setCell ⟨g, 0, none⟩ (.int .i64 (5 : Nat)))
theorem RX.atUp {w w2 W1 : World} {B g gk n0 wt cap : Nat} {u u' : Value} {l0 : List (Td × Value)} {t : Td} {s : ByteArray} {o : Obj} (h : RX w2 B g wt (.slice (some ⟨gk, 0, none⟩) (n0 + 1) cap) 0 0 (l0 ++ [(t, u)])) (hn : l0.length = n0) (hb : Bel B g w w2) (hg : (w2.alloc o).grownBy W1 u.ownBlock)
    (hO : OL W1 B NoB 9 1 u' (t.attrs.length + 1) (t.attrs.flatMap strD ++ strD s)) (ha : u'.ownBlock = u.ownBlock ∨ u'.ownBlock = some (w2.alloc o).heap.size) : AtUp w W1 B g gk n0 wt cap u u' l0 t s := by
  have h2 := h.stay ((Below.refl _ _).alloc (Nat.le_refl _) o)
  have hgB := h.gB
  have hp : (l0 ++ [(t, u)])[n0]? = some (t, u) := by subst hn; simp
  have hfr := h2.os.fr (t, u) (by simp)
  have hgk := (h2.os.kr.lt gk rfl).1
  have hx : Blk W1 g 125 [.int .i64 wt, .slice (some ⟨gk, 0, none⟩) (n0 + 1) cap, .int .i64 0, .int .i64 0] := h2.bx.grown hg (fun e => by have := (hfr.lt _ e.symm).1; omega)
  have hl1 : (l0 ++ [(t, u)]).length = n0 + 1 := by simp [hn]
  have hkr : OL W1 B NoB 34 2 (.slice (some ⟨gk, 0, none⟩) (n0 + 1) cap) (l0 ++ [(t, u)]).length ((l0 ++ [(t, u)]).flatMap tcD) := h2.os.kr.kept hg (h2.os.kr.ne hfr (by decide)) (fun _ hb => hb.elim)
  have h3 : RX (w2.alloc o) B g wt (.slice (some ⟨gk, 0, none⟩) (l0 ++ [(t, u)]).length cap) 0 0 (l0 ++ [(t, u)]) := by rw [hl1]; exact h2
  have hP := h3.putA (as' := t.attrs ++ [s]) hp hg (by simpa using hO) ha
  rw [hl1] at hP
  have hset : (l0 ++ [(t, u)]).set n0 (⟨t.name, t.attrs ++ [s]⟩, u') = l0 ++ [(⟨t.name, t.attrs ++ [s]⟩, u')] := by subst hn; simp
  rw [hset] at hP
  obtain ⟨gk', cap', e, _, _, hfz, h4⟩ := hkr.row (by omega)
  injection e with e1 _ _
  injection e1 with e1
  injection e1 with e1 _
  subst e1
  obtain ⟨x, hx1, hr1⟩ := h4 (n0 * 2 + 1) _ (flatMap_get (f := tcD) (m := 2) (fun _ => rfl) hp rfl)
  rw [hr1.v_inv] at hx1
  refine ⟨hx.cell 0, hx.frozen 0, hx1, hfz _, by omega, hP.setW 5, ?_⟩
  exact (((hb.trans (.of' ((Below.refl _ _).alloc (Nat.le_refl _) o) h.bw)).grown hg h2.bw (fun q hq => (hfr.lt q hq).1)).setB (p := ⟨gk, n0 * 2 + 1, none⟩) hgk _).setG 0 _

namespace hbW
open nmW
set_option maxHeartbeats 1600000 in
theorem name_k {w : World} {B g : Nat} {vt : Value} {l : List (Td × Value)} (h : RX w B g 1 vt 0 0 l) (hn : l.length ≤ 15) (s : ByteArray) (hs0 : 0 < s.size) (hs : s.size ≤ 4096) (hK : KwIs w) (at_ : Nat) :
    Calls Tryd.prog 68 #[.pointer (some ⟨g, 0, none⟩), .string s, .int .i64 at_] w (RdPost w B g at_ (nameC (l.map (·.1)) s, ⟨2, l.map (·.1) ++ [⟨s, []⟩]⟩)) := by
  have k1 := Lib.hid (fun w B g want vt cd pl l => @refuse_k w B g want vt cd pl l)
  have k2 := Lib.hid isName_k
  obtain ⟨A, ca, rfl⟩ := h.ty
  have k3 : ∀ W, Below w.heap.size w W → Calls Tryd.prog 56 #[.agg #[.slice A l.length ca], .string s] W (fun e w' => e = .returned (.int .i64 (placeI ((l.map (·.1)).map (·.name)) s)) ∧ Below W.heap.size W w') := fun W hW => by
    have := typeOf_k A ca (fun b => b < W.heap.size) (l.map (·.1)) s (by simp; omega) W (fun _ h => h) (by rw [List.length_map]; exact (h.stay hW).os.rd fun b _ h => h)
    rw [List.length_map] at this
    exact this
  replace k3 := Lib.hid k3
  have hst : ∀ W, Below w.heap.size w W → RX W B g 1 (.slice A l.length ca) 0 0 l ∧ Bel B g w W := fun W hW => ⟨h.stay hW, .of' hW h.bw⟩
  have hcs : ∀ W, Below w.heap.size w W → W.cell? ⟨g, 1, none⟩ = some (.slice A l.length ca) ∧ W.cell? ⟨g, 0, none⟩ = some (.int .i64 1) := fun W hW => ⟨(h.stay hW).bx.cell 1, (h.stay hW).bx.cell 0⟩
  replace hst := Lib.hid hst
  replace hcs := Lib.hid hcs
  replace hK := Lib.hid hK
  have hn2 : l.length ≤ 1000 := by omega
  have hpos' : (0 : Int) < s.size := by omega
  obtain ⟨r, hr⟩ : ∃ r : Int × Rs, r = (nameC (l.map (·.1)) s, ⟨2, l.map (·.1) ++ [⟨s, []⟩]⟩) := ⟨_, rfl⟩
  rw [← hr]
  have hnm : r.1 = nameC (l.map (·.1)) s := by rw [hr]
  have hB0 := h.bw
  have hh := Lib.hid h
  clear h
  by_cases hd : digN (s[0]'hs0).toNat = true
  · have hc : r.1 = 21 := by rw [hnm]; unfold nameC dig0; rw [dif_pos hs0, if_pos hd]
    simp only [digN, Bool.and_eq_true, decide_eq_true_eq] at hd
    have d1 : (48 : Int) ≤ ((s[0]'hs0).toNat : Int) := by omega
    have d2 : ((s[0]'hs0).toNat : Int) ≤ 57 := by omega
    replace hc := Lib.hid hc
    clear hr hnm
    go_enter Tryd.func68, Tryd.ntmps68
    go_wp2_with (go_at_call 46; refine (k1.out _ _ _ _ _ _ _ _ hh.out _ _).mono ?_; rintro e W ⟨rfl, hW⟩; replace hW := Lib.hid hW)
    first | refine bodyPost_ret (results_none rfl _ _ _) rfl ?_ | refine bodyPost_end (results_none rfl _ _ _) rfl ?_
    exact .bad hc.out (by decide) hW.out.2 hW.out.1 (s := r.2)
  have hd0 : digN (s[0]'hs0).toNat = false := by simpa using hd
  have dd : ¬ (48 : Int) ≤ ((s[0]'hs0).toNat : Int) ∨ ((48 : Int) ≤ ((s[0]'hs0).toNat : Int) ∧ ¬ ((s[0]'hs0).toNat : Int) ≤ 57) := by
    have : ¬ (48 ≤ (s[0]'hs0).toNat ∧ (s[0]'hs0).toNat ≤ 57) := by
      intro h
      simp [digN] at hd0
      omega
    omega
  have hdg : dig0 s = false := by unfold dig0; rw [dif_pos hs0, hd0]
  clear hd hd0
  cases hi : isNm s with
  | false =>
    have hc : r.1 = 22 := by rw [hnm]; unfold nameC; rw [hdg, hi]; rfl
    replace hc := Lib.hid hc
    replace hi := Lib.hid hi
    clear hr hnm
    rcases dd with d1 | ⟨d1, d2⟩
    all_goals
      go_enter Tryd.func68, Tryd.ntmps68
      go_wp2_with first
        | (go_at_call 55; refine (k2.out _ _ hK.out (by omega)).mono ?_; rw [hi.out]; rintro e W ⟨rfl, hW⟩; replace hW := Lib.hid hW)
        | (go_at_call 46; refine (k1.out _ _ _ _ _ _ _ _ (hst.out _ hW.out).1 _ _).mono ?_; rintro e W2 ⟨rfl, hW2⟩; replace hW2 := Lib.hid hW2)
      first | refine bodyPost_ret (results_none rfl _ _ _) rfl ?_ | refine bodyPost_end (results_none rfl _ _ _) rfl ?_
      exact .bad hc.out (by decide) ((hst.out _ hW.out).2.trans hW2.out.2) hW2.out.1 (s := r.2)
  | true =>
    generalize hp : placeI ((l.map (·.1)).map (·.name)) s = p at k3
    cases hN : hasN (l.map (·.1)) s with
    | true =>
      have hc : r.1 = 25 := by rw [hnm]; unfold nameC; rw [hdg, hi, hN]; rfl
      have hp0 : (0 : Int) ≤ p := by rw [← hp]; exact placeI_nn.2 hN
      replace hc := Lib.hid hc
      replace hi := Lib.hid hi
      clear hr hnm hp hN
      rcases dd with d1 | ⟨d1, d2⟩
      all_goals
        go_enter Tryd.func68, Tryd.ntmps68
        go_wp2_with first
          | (go_at_call 55; refine (k2.out _ _ hK.out (by omega)).mono ?_; rw [hi.out]; rintro e W ⟨rfl, hW⟩; have q1 := (hcs.out _ hW).1; replace hW := Lib.hid hW)
          | (go_at_call 56; refine (k3.out _ hW.out).mono ?_; rintro e W1 ⟨rfl, hW1⟩; replace hW1 := Lib.hid (hW.out.trans (hW1.mono hW.out.size)))
          | (go_at_call 46; refine (k1.out _ _ _ _ _ _ _ _ (hst.out _ hW1.out).1 _ _).mono ?_; rintro e W2 ⟨rfl, hW2⟩; replace hW2 := Lib.hid hW2)
        first | refine bodyPost_ret (results_none rfl _ _ _) rfl ?_ | refine bodyPost_end (results_none rfl _ _ _) rfl ?_
        exact .bad hc.out (by decide) ((hst.out _ hW1.out).2.trans hW2.out.2) hW2.out.1 (s := r.2)
    | false =>
      have hc : r.1 = 0 := by rw [hnm]; unfold nameC; rw [hdg, hi, hN]; rfl
      have hp0 : ¬ (0 : Int) ≤ p := by rw [← hp]; intro e; rw [placeI_nn.1 e] at hN; cases hN
      have hr1 : r.2 = ⟨2, l.map (·.1) ++ [⟨s, []⟩]⟩ := by rw [hr]
      replace hc := Lib.hid hc
      replace hi := Lib.hid hi
      replace hr1 := Lib.hid hr1
      clear hr hnm hp hN
      rcases dd with d1 | ⟨d1, d2⟩
      all_goals
        go_enter Tryd.func68, Tryd.ntmps68
        go_wp2_with first
          | (go_at_call 55; refine (k2.out _ _ hK.out (by omega)).mono ?_; rw [hi.out]; rintro e W ⟨rfl, hW⟩; have q1 := (hcs.out _ hW).1; replace hW := Lib.hid hW)
          | (go_at_call 56; refine (k3.out _ hW.out).mono ?_; rintro e W1 ⟨rfl, hW1⟩; replace hW1 := Lib.hid (hW.out.trans (hW1.mono hW.out.size)); have q2 := (hcs.out _ hW1.out).1)
          | (at_builtin; refine wpList_app rfl (.tmp 10) (.tmp 13) _ rfl (m := 1) (news := tcD (⟨s, []⟩, .slice none 0 0)) elTd ((hst.out _ hW1.out).1.os.kr.alloc (.cells ⟨[.string s, .slice none 0 0]⟩ 34)) rfl rfl (Src.lit (show RdL W1 _ [.string s, .slice none 0 0] (tcD (⟨s, []⟩, .slice none 0 0)) from ⟨.v _ rfl, .v _ rfl, trivial⟩)) rfl (by omega) (by omega) (by have := (hst.out _ hW1.out).1.bw; simp; omega) ?_; intro v' w1 hO1 hg1 ha1; obtain ⟨B3, d3, rfl⟩ := hO1.form; have hU := (hst.out _ hW1.out).1.nmUp (hst.out _ hW1.out).2 hg1 hO1; have u0 := hU.c0; have u1 := hU.c1; have u2 := hU.f0; have u3 := hU.f1; replace hU := Lib.hid hU; clear hO1 hg1 ha1)
        first | refine bodyPost_ret (results_none rfl _ _ _) rfl ?_ | refine bodyPost_end (results_none rfl _ _ _) rfl ?_
        exact .good hc.out (by rw [hr1.out]) (by rw [hr1.out]; simp) hU.out.end_.2 hU.out.end_.1
end hbW
end Go.Proofs.YtmadafejenjkcaaDoor
