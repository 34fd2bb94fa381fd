/- The document's ParseSchema answers the plain code and place. -/
import Derived.Test.YtmadafejenjkcaaDoorHb
import Derived.Test.YtmadafejenjkcaaDoorH5
namespace Go.Proofs.YtmadafejenjkcaaDoor
open Go.RowKit Go.Deep
set_option linter.unusedVariables false
set_option linter.unusedSimpArgs false

/-- the schema so far: its box, its rows -/
structure QS (w1 wr : World) (v : Value) (l : List (Td × Value)) : Prop where
  hb : Below w1.heap.size w1 wr
  bs : Blk wr w1.heap.size 24 [v]
  os : OSc wr (w1.heap.size + 1) v l
theorem QS.start (w1 : World) : QS w1 (w1.alloc (.cells ⟨[.slice none 0 0]⟩ 24)) (.slice none 0 0) [] := ⟨(Below.refl _ _).alloc (Nat.le_refl _) _, Blk.new _ _ _, .nil _ _⟩
theorem QS.stay {w1 wr w2 : World} {v : Value} {l : List (Td × Value)} (h : QS w1 wr v l) (hb : Below wr.heap.size wr w2) : QS w1 w2 v l := ⟨h.hb.trans (hb.mono h.hb.size), h.bs.stay hb, h.os.stay hb⟩
theorem QS.snoc {w1 wr W2 W4 : World} {v v' u : Value} {l : List (Td × Value)} {t : Td} {o1 o2 : Obj} (h : QS w1 wr v l) (hb : Below wr.heap.size wr W2) (hu : OL W2 wr.heap.size NoB 9 1 u t.attrs.length (t.attrs.flatMap strD)) (hg : ((W2.alloc o1).alloc o2).grownBy W4 v.ownBlock)
    (hO : OL W4 (w1.heap.size + 1) NoB 34 2 v' (l.length + 1) (l.flatMap tcD ++ tcD (t, u))) :
    W4.cell? ⟨w1.heap.size, 0, none⟩ = some v ∧ W4.frozen? ⟨w1.heap.size, 0, none⟩ = false ∧ QS w1 (W4.setCell ⟨w1.heap.size, 0, none⟩ v') v' (l ++ [(t, u)]) := by
  have h3 := ((h.stay hb).stay ((Below.refl _ _).alloc (Nat.le_refl _) o1)).stay ((Below.refl _ _).alloc (Nat.le_refl _) o2)
  have hu3 := (hu.alloc o1).alloc o2
  have hr : ∀ q, v.ownBlock = some q → w1.heap.size < q := fun q hq => (h3.os.kr.lt q hq).1
  have t0 := h3.bs.grown hg (fun e => by have := hr _ e.symm; omega)
  have hne : ∀ p ∈ l, u.ownBlock = none ∨ u.ownBlock ≠ p.2.ownBlock := fun p hp => by
    cases hq : u.ownBlock with
    | none => exact .inl rfl
    | some q =>
      refine .inr fun he => ?_
      have h5 := (hu.lt q hq).1
      have h6 := ((h.os.fr p hp).lt q he.symm).2
      omega
  have hs := h.hb.size
  have hos := h3.os.snoc hg hO (hu3.base (B' := w1.heap.size + 1) (by have := h.bs.lt; omega)) hne
  exact ⟨t0.cell 0, t0.frozen 0, (h3.hb.grown hg h3.hb.size (fun q hq => by have := hr q hq; omega)).setCell (by show w1.heap.size ≤ w1.heap.size; omega) _, t0.set_ 0 v', hos.far (by show w1.heap.size < _; omega)⟩
def QRel (T : ByteArray) (L : List Pc) (w1 : World) (x : Value) (wr : World) : Prop :=
  ∃ (i : Nat) (v : Value) (l : List (Td × Value)), x = .int .i64 i ∧ i ≤ L.length ∧ l.length ≤ 16 ∧ QS w1 wr v l ∧ go T ⟨0, []⟩ L = go T ⟨0, l.map (·.1)⟩ (L.drop i)
theorem QRel.mk {T : ByteArray} {L : List Pc} {w1 wr : World} {x : Value} (i : Nat) (v : Value) (l : List (Td × Value)) (h1 : x = .int .i64 i) (h2 : i ≤ L.length) (h3 : l.length ≤ 16) (h4 : QS w1 wr v l) (h5 : go T ⟨0, []⟩ L = go T ⟨0, l.map (·.1)⟩ (L.drop i)) : QRel T L w1 x wr := ⟨i, v, l, h1, h2, h3, h4, h5⟩
namespace hbW
open nmW
set_option maxRecDepth 100000 in
set_option maxHeartbeats 4000000 in
theorem rparse_k (T : ByteArray) (w : World) (hK : KwIs w) : Calls Tryd.prog 30 #[.string T] w (PSPost T w) := by
  by_cases h96 : 4096 < T.size
  · have f1 : (4096 : Int) < T.size := by omega
    have hps : psC T = (20, 4096) := by unfold psC; rw [if_pos h96]
    have e1 : Blk (w.alloc (.cells ⟨[.slice none 0 0]⟩ 24)) w.heap.size 24 [.slice none 0 0] := Blk.new _ _ _
    have e2 : Below w.heap.size w (w.alloc (.cells ⟨[.slice none 0 0]⟩ 24)) := (Below.refl _ _).alloc (Nat.le_refl _) _
    replace hK := Lib.hid hK
    replace e1 := Lib.hid e1
    replace e2 := Lib.hid e2
    go_enter Tryd.func30, Tryd.ntmps30
    go_wp2
    exact bodyPost_cell3 rfl e1.out aggSc rfl rfl rfl rfl (.mk hps rfl e2.out)
  have f1 : ¬ (4096 : Int) < T.size := by omega
  have hT : T.size ≤ 4096 := by omega
  have hps : psC T = go T ⟨0, []⟩ (pcs T 0 none false) := by unfold psC; rw [if_neg h96]
  have hLl := pcs_len (T := T) T.size 0 none false (by omega) (by omega) (fun _ => rfl)
  have hLo := pcs_ok (T := T) T.size 0 none false (by omega) (by omega) (.none _ _) (fun _ => rfl)
  simp only [if_true, Nat.add_zero, Nat.sub_zero] at hLl
  have k1 := Lib.hid (cut_k T hT (w.alloc (.cells ⟨[.slice none 0 0]⟩ 24)))
  have hKs : ∀ W, Below w.heap.size w W → KwIs W := fun W hW => hK.stay hW
  replace hKs := Lib.hid hKs
  unfold CutPost at k1
  generalize pcs T 0 none false = L at *
  clear h96 hK
  go_enter Tryd.func30, Tryd.ntmps30
  go_upto_region 4 with (go_at_call 49; refine k1.out.mono ?_; rintro e w1 ⟨v0, rfl, hO1, hB1⟩; obtain ⟨A, c, rfl⟩ := hO1.form)
  have hB : Below w.heap.size w w1 := ((Below.refl _ _).alloc (Nat.le_refl _) _).trans (hB1.mono (by simp))
  have hb0 : Blk w1 w.heap.size 24 [.slice none 0 0] := (Blk.new w _ _).under hB1 (by simp)
  have r1 : Rd w1 (fun b => b < w1.heap.size) (.slice A L.length c) (.sl L.length (L.flatMap pcD)) := hO1.rd (fun b h _ => h.elim) (fun b _ h => h)
  have hK1 := hKs.out w1 hB
  have k2 : ∀ (wr : World) (i : Nat) (v : Value) (l : List (Td × Value)) (A2 : Option Addr) (c2 : Nat), v = .slice A2 l.length c2 → QS w1 wr v l → i < L.length → l.length ≤ 16 → Calls Tryd.prog 50 #[.string T, .slice A L.length c, .int .i64 i, .slice A2 l.length c2] wr (DfPost T L (l.map (·.1)) i wr) := fun wr i v l A2 c2 hv h hi hl => by
    subst hv
    have := definition_k T A A2 c c2 (fun b => b < w1.heap.size) (fun b => b < wr.heap.size) L (l.map (·.1)) (by omega) hLo (by rw [List.length_map]; exact hl) i hi wr (hK1.stay h.hb) (fun b hb => by have := h.hb.size; omega) (fun b hb => hb) (r1.under h.hb (fun b hb => hb)) (by rw [List.length_map]; exact h.os.rd fun b _ hb => hb)
    rw [List.length_map] at this
    exact this
  have k3 : ∀ (W : World) (k : Nat), Below w1.heap.size w1 W → Calls Tryd.prog 51 #[.string T, .slice A L.length c, .int .i64 k] W fun e w' => e = .returned (.int .i64 (plA T L k)) ∧ w' = W := fun W k hW => placeAt_k T A c (fun b => b < w1.heap.size) L (by omega) k W (r1.under hW (fun b hb => hb))
  replace k2 := Lib.hid k2
  replace k3 := Lib.hid k3
  have hb0l := hb0.lt
  replace hb0 := Lib.hid hb0
  replace hB := Lib.hid hB
  replace hLo := Lib.hid hLo
  have hst := Lib.hid (QS.start w1)
  clear r1 hK1 hO1 hB1 k1
  go_wp2
  go_loopw [7, 8, 9, 10] (fun x _ _ _ wr => QRel T L w1 x wr) (fun x _ _ _ _ => L.length - (intOf x).toNat)
  case atStart => exact .mk 0 _ [] rfl (Nat.zero_le _) (by simp) hst.out rfl
  case round =>
    obtain ⟨i, v, l, hx, hiL, hl16, hQ, hgo⟩ := hrel
    subst hx
    obtain ⟨A2, c2, hv⟩ := hQ.os.kr.form
    have x0 : wr.cell? ⟨w1.heap.size, 0, none⟩ = some v := hQ.bs.cell 0
    have g0 : (0 : Int) ≤ (i : Int) := by omega
    by_cases hi : i < L.length
    · have g1 : (i : Int) < L.length := by omega
      have kd := Lib.hid (k2.out wr i v l A2 c2 hv hQ hi hl16)
      subst hv
      replace hQ := Lib.hid hQ
      replace hgo := Lib.hid hgo
      go_upto_region 8 with (go_at_call 50; refine kd.out.mono ?_; rintro e W2 ⟨t, u, k, cd, rfl, hB2, hu, hgood, hbad⟩; obtain ⟨A3, c3, rfl⟩ := hu.form; replace hB2 := Lib.hid hB2; replace hu := Lib.hid hu; replace hgood := Lib.hid hgood; replace hbad := Lib.hid hbad)
      have hB2w : Below w1.heap.size w1 (W2.alloc (.cells ⟨[.string t.name, .slice A3 t.attrs.length c3]⟩ 34)) := ((hQ.out.stay hB2.out).stay ((Below.refl _ _).alloc (Nat.le_refl _) _)).hb
      by_cases hc : cd = 0
      · subst hc
        obtain ⟨hik, hkL, ht8, hl15, he⟩ := hgood.out rfl
        rw [List.length_map] at hl15
        have hup : ∀ (v' : Value) (W4 : World), ((W2.alloc (.cells ⟨[.string t.name, .slice A3 t.attrs.length c3]⟩ 34)).alloc (.cells ⟨[.string t.name, .slice A3 t.attrs.length c3]⟩ 34)).grownBy W4 (Value.slice A2 l.length c2).ownBlock → OL W4 (w1.heap.size + 1) NoB 34 2 v' (l.length + 1) (l.flatMap tcD ++ tcD (t, .slice A3 t.attrs.length c3)) →
            W4.cell? ⟨w1.heap.size, 0, none⟩ = some (.slice A2 l.length c2) ∧ W4.frozen? ⟨w1.heap.size, 0, none⟩ = false ∧ QS w1 (W4.setCell ⟨w1.heap.size, 0, none⟩ v') v' (l ++ [(t, .slice A3 t.attrs.length c3)]) := fun v' W4 hg hO => hQ.out.snoc hB2.out hu.out hg hO
        have hol := (((hQ.out.stay hB2.out).os.kr.alloc (.cells ⟨[.string t.name, .slice A3 t.attrs.length c3]⟩ 34)).alloc (.cells ⟨[.string t.name, .slice A3 t.attrs.length c3]⟩ 34))
        have y8 : Blk (W2.alloc (.cells ⟨[.string t.name, .slice A3 t.attrs.length c3]⟩ 34)) W2.heap.size 34 [.string t.name, .slice A3 t.attrs.length c3] := Blk.new _ _ _
        have x2 : (W2.alloc (.cells ⟨[.string t.name, .slice A3 t.attrs.length c3]⟩ 34)).cell? ⟨w1.heap.size, 0, none⟩ = some (.slice A2 l.length c2) := ((hQ.out.stay hB2.out).bs.alloc _).cell 0
        have hlt2 : w1.heap.size + 1 ≤ (W2.alloc (.cells ⟨[.string t.name, .slice A3 t.attrs.length c3]⟩ 34)).heap.size := by
          have := (hQ.out.stay hB2.out).bs.lt
          simp
          omega
        clear hB2w
        generalize W2.alloc (.cells ⟨[.string t.name, .slice A3 t.attrs.length c3]⟩ 34) = W5 at *
        replace hup := Lib.hid hup
        replace hol := Lib.hid hol
        replace he := Lib.hid he
        replace y8 := Lib.hid y8
        go_wp2_with first
          | (refine at_op (.load 34 (.tmp 8)) rfl ?_; refine wpList_load_blk rfl 34 (.tmp 8) rfl y8.out aggTd rfl ?_)
          | (at_builtin; refine wpList_app rfl (.tmp 40) (.tmp 42) _ rfl (m := 1) (news := tcD (t, .slice A3 t.attrs.length c3)) elTd hol.out rfl rfl (Src.lit (show RdL W5 _ [.string t.name, .slice A3 t.attrs.length c3] (tcD (t, .slice A3 t.attrs.length c3)) from ⟨.v _ rfl, .v _ rfl, trivial⟩)) rfl (by omega) (by omega) (by simp; omega) ?_; intro v' W4 hO4 hg4 ha4; obtain ⟨B4, d4, rfl⟩ := hO4.form; obtain ⟨t0, t1, t2⟩ := hup.out _ _ hg4 hO4; replace t2 := Lib.hid t2; clear hO4 hg4 ha4)
        go_roundw
        case rel => exact .mk k _ (l ++ [(t, .slice A3 t.attrs.length c3)]) rfl hkL (by simp; omega) t2.out (by rw [hgo.out, he.out, List.map_append]; rfl)
        case measure => simp [intOf]; omega
      · have f2 : (cd == 0) = false := by rw [beq_eq_false_iff_ne]; exact hc
        have hq : psC T = (cd, plA T L k) := by rw [hps, hgo.out, hbad.out hc]
        have y0 := hb0.out.under hB2w hb0l
        have y1 : (W2.alloc (.cells ⟨[.string t.name, .slice A3 t.attrs.length c3]⟩ 34)).cell? ⟨w.heap.size, 0, none⟩ = some (.slice none 0 0) := y0.cell 0
        have y2 : (W2.alloc (.cells ⟨[.string t.name, .slice A3 t.attrs.length c3]⟩ 34)).frozen? ⟨w.heap.size, 0, none⟩ = false := y0.frozen 0
        have hBz : Below w.heap.size w (W2.alloc (.cells ⟨[.string t.name, .slice A3 t.attrs.length c3]⟩ 34)) := hB.out.trans (hB2w.mono hB.out.size)
        have ka := Lib.hid (k3.out _ k hB2w)
        generalize W2.alloc (.cells ⟨[.string t.name, .slice A3 t.attrs.length c3]⟩ 34) = W5 at *
        have hfin := Lib.hid (And.intro (y0.set_ 0 (.slice none 0 0)) (hBz.setCell (p := ⟨w.heap.size, 0, none⟩) (Nat.le_refl _) (.slice none 0 0)))
        replace hq := Lib.hid hq
        clear y0 hBz hB2w hc
        go_wp2_with (go_at_call 51; refine ka.out.mono ?_; rintro e W6 ⟨rfl, hW6⟩; obtain rfl := hW6.symm)
        exact bodyPost_cell3 rfl hfin.out.1 aggSc rfl rfl rfl rfl (PSPost.mk hq.out rfl hfin.out.2)
    · subst hv
      obtain rfl : i = L.length := by omega
      rw [List.drop_length] at hgo
      have y0 := hb0.out.under hQ.hb hb0l
      have y1 : wr.cell? ⟨w.heap.size, 0, none⟩ = some (.slice none 0 0) := y0.cell 0
      have y2 : wr.frozen? ⟨w.heap.size, 0, none⟩ = false := y0.frozen 0
      have hBz : Below w.heap.size w wr := hB.out.trans (hQ.hb.mono hB.out.size)
      have hf1 := Lib.hid (And.intro (y0.set_ 0 (.slice none 0 0)) (hBz.setCell (p := ⟨w.heap.size, 0, none⟩) (Nat.le_refl _) (.slice none 0 0)))
      have hf2 := Lib.hid (And.intro (y0.set_ 0 (.slice A2 l.length c2)) (hBz.setCell (p := ⟨w.heap.size, 0, none⟩) (Nat.le_refl _) (.slice A2 l.length c2)))
      have hps2 := hps.trans hgo
      have g3 : ¬ (L.length : Int) < L.length := by omega
      clear hgo hQ y0 hBz
      by_cases hl0 : l = []
      · have hq : psC T = (23, T.size) := by rw [hps2, hl0]; rfl
        have f3 : ((l.length : Int) == 0) = true := by rw [hl0]; rfl
        replace hl0 := Lib.hid hl0
        replace hq := Lib.hid hq
        clear hps2
        go_wp2
        exact bodyPost_cell3 rfl hf1.out.1 aggSc rfl rfl rfl rfl (PSPost.mk hq.out rfl hf1.out.2)
      · have hq : psC T = (0, 0) := by
          rw [hps2]
          show endC T _ = _
          unfold endC
          rw [if_neg (by simp), if_neg (by simpa using hl0)]
        have f3 : ((l.length : Int) == 0) = false := by rw [beq_eq_false_iff_ne]; intro e; exact hl0 (List.eq_nil_of_length_eq_zero (by omega))
        replace hl0 := Lib.hid hl0
        replace hq := Lib.hid hq
        clear hps2
        go_wp2
        exact bodyPost_cell3 rfl hf2.out.1 aggSc rfl rfl rfl rfl (PSPost.mk hq.out rfl hf2.out.2)
end hbW
end Go.Proofs.YtmadafejenjkcaaDoor
