/- CascadeExtends: the law's own walk. -/
import Derived.Test.YtfnejelbacpheaaDoorEx6
import Derived.Test.YtfnejelbacpheaaDoorEx9
import Derived.Test.YtfnejelbacpheaaDoorExa
namespace Go.Proofs.YtfnejelbacpheaaDoor
open Go.RowKit Go.Deep Go.Maps
set_option linter.unusedVariables false

theorem ExtIs.sz {S : List Td} {rs : List Ru} {T : List Td} {c a : Int} (h : ExtIs S rs T c a) (hS : SzT S) (hR : SzR rs) : SzT T := by
  have hn : SzT [] := ⟨Nat.zero_le _, fun t h => by simp at h⟩
  rcases h with ⟨_, rfl, _⟩ | ⟨_, _, rfl, _⟩ | ⟨_, _, _, k, _, _, _, rfl, _⟩ | ⟨h1, _, h3, _, rfl, _⟩
  · exact hn
  · exact hn
  · exact hn
  · exact (SK_sz hS (by have := scC_len h1; omega) hR _ (Nat.le_refl _) (by omega)).1

theorem ExtPost.opn {S : List Td} {rs : List Ru} {w w' : World} {e : Ending} (h : ExtPost S rs w e w') :
    ∃ (U : Option Addr) (cu : Nat) (T : List Td) (code at_ : Int), e = .returned (.tuple #[.agg #[.slice U T.length cu], .int .i64 code, .int .i64 at_]) ∧ ExtIs S rs T code at_ ∧ Rd w' (fun b => w.heap.size ≤ b ∧ b < w'.heap.size) (.slice U T.length cu) (.sl T.length (T.flatMap tdD)) ∧ Below w.heap.size w w' := by
  obtain ⟨v, T, code, at_, h1, h2, h3, h4⟩ := h
  obtain ⟨U, cu, rfl, _, _⟩ := h3.sl_inv
  exact ⟨U, cu, T, code, at_, h1, h2, h3, h4⟩

/-- the state behind the copies: the box of the schema, the box of its copy at H, the copied rules -/
structure LS (w wr : World) (H : Nat) (vs vts vtr : Value) (S : List Td) (n : Nat) (R : List Ru) (X : Nat → Prop) : Prop where
  hb : Below w.heap.size w wr
  b2 : Blk wr w.heap.size 24 [vs]
  b5 : Blk wr H 24 [vts]
  rts : Rd wr (fun b => w.heap.size < b ∧ b < H) vts (.sl S.length (S.flatMap tdD))
  otr : OL wr (H + 1) (fun b => H < b ∧ ¬ X b) 35 3 vtr n (R.flatMap ruD)
  hH : w.heap.size < H
theorem LS.stay {w wr w2 : World} {H n : Nat} {vs vts vtr : Value} {S : List Td} {R : List Ru} {X : Nat → Prop} (h : LS w wr H vs vts vtr S n R X) (hb : Below wr.heap.size wr w2) : LS w w2 H vs vts vtr S n R X :=
  ⟨h.hb.trans (hb.mono h.hb.size), h.b2.stay hb, h.b5.stay hb, h.rts.stay hb, h.otr.stay hb, h.hH⟩

theorem set3 (x : Ru) (d0 d1 d2 : D) (hx : ruD x = [d0, d1, d2]) : ∀ (l : List Ru) (k : Nat), (((l.flatMap ruD).set (k * 3) d0).set (k * 3 + 1) d1).set (k * 3 + 2) d2 = (l.set k x).flatMap ruD := by
  intro l
  induction l with
  | nil => intro k; rfl
  | cons a l ih =>
    intro k
    cases k with
    | zero => simp [hx]; simp [ruD]
    | succ k =>
      have e : ∀ (j : Nat), (k + 1) * 3 + j = (k * 3 + j) + 1 + 1 + 1 := fun j => by omega
      rw [show (k + 1) * 3 = k * 3 + 1 + 1 + 1 by omega, show k * 3 + 1 + 1 + 1 + 1 = (k * 3 + 1) + 1 + 1 + 1 by omega, show k * 3 + 1 + 1 + 1 + 2 = (k * 3 + 2) + 1 + 1 + 1 by omega]
      rw [List.set_cons_succ, List.flatMap_cons, List.flatMap_cons, ← ih k]
      simp [ruD]

/-- the second half's state: the first half's, the two answers' boxes, the turned copy -/
structure LT (w wr : World) (H g7 g10 B9 : Nat) (vs vts vtr v7 v10 vt : Value) (S : List Td) (n : Nat) (R rs : List Ru) : Prop where
  hL : LS w wr H vs vts vtr S n R (fun b => b = g7 ∨ b = g10)
  b7 : Blk wr g7 24 [v7]
  b10 : Blk wr g10 24 [v10]
  rt : Rd wr (fun b => B9 ≤ b) vt (.sl n (rs.flatMap ruD))

/-- the k-th rule is written over -/
theorem LT.put {w wr : World} {H g7 g10 B9 n g k c6 : Nat} {vs vts v7 v10 vt : Value} {S : List Td} {R rs : List Ru} (h : LT w wr H g7 g10 B9 vs vts (.slice (some ⟨g, 0, none⟩) n c6) v7 v10 vt S n R rs)
    (x : Ru) (va : Value) (hva : Rd wr (fun b => B9 ≤ b) va (.sl x.attrs.length (x.attrs.flatMap strD))) (hg : H < g) (hg7 : g < g7) (hg10 : g7 < g10) (hB : g10 < B9) :
    LT w (((wr.setCell ⟨g, k * 3, none⟩ (.string x.query)).setCell ⟨g, k * 3 + 1, none⟩ (.string x.into)).setCell ⟨g, k * 3 + 2, none⟩ va) H g7 g10 B9 vs vts (.slice (some ⟨g, 0, none⟩) n c6) v7 v10 vt S n (R.set k x) rs := by
  obtain ⟨⟨hb, b2, b5, rts, otr, hH⟩, b7, b10, rt⟩ := h
  have e1 := (hva.setCell (p := ⟨g, k * 3, none⟩) (by show ¬ B9 ≤ g; omega) (.string x.query)).setCell (p := ⟨g, k * 3 + 1, none⟩) (by show ¬ B9 ≤ g; omega) (.string x.into)
  have hO := ((otr.set (j := k * 3) (u := .string x.query) (d := .v (.string x.query)) (.v _ rfl)).set (j := k * 3 + 1) (u := .string x.into) (d := .v (.string x.into)) (.v _ rfl)).set (j := k * 3 + 2) (u := va) (d := .sl x.attrs.length (x.attrs.flatMap strD)) (e1.mono fun b h _ => ⟨⟨by omega, by omega⟩, by omega⟩)
  rw [set3 x _ _ _ rfl] at hO
  refine ⟨⟨((hb.setCell (by show _ ≤ g; omega) _).setCell (by show _ ≤ g; omega) _).setCell (by show _ ≤ g; omega) _, ((b2.far (by show _ ≠ g; omega) _).far (by show _ ≠ g; omega) _).far (by show _ ≠ g; omega) _, ((b5.far (by show _ ≠ g; omega) _).far (by show _ ≠ g; omega) _).far (by show _ ≠ g; omega) _, ?_, hO, hH⟩,
    ((b7.far (by show _ ≠ g; omega) _).far (by show _ ≠ g; omega) _).far (by show _ ≠ g; omega) _, ((b10.far (by show _ ≠ g; omega) _).far (by show _ ≠ g; omega) _).far (by show _ ≠ g; omega) _, ?_⟩
  · exact ((rts.setCell (p := ⟨g, k * 3, none⟩) (by show ¬ (_ < g ∧ g < H); omega) _).setCell (p := ⟨g, k * 3 + 1, none⟩) (by show ¬ (_ < g ∧ g < H); omega) _).setCell (p := ⟨g, k * 3 + 2, none⟩) (by show ¬ (_ < g ∧ g < H); omega) _
  · exact ((rt.setCell (p := ⟨g, k * 3, none⟩) (by show ¬ B9 ≤ g; omega) _).setCell (p := ⟨g, k * 3 + 1, none⟩) (by show ¬ B9 ≤ g; omega) _).setCell (p := ⟨g, k * 3 + 2, none⟩) (by show ¬ B9 ≤ g; omega) _

namespace exW
set_option maxHeartbeats 800000 in
theorem law (A A2 : Option Addr) (c c2 : Nat) (S : List Td) (rs : List Ru) (hS : SzT S) (hR : SzR rs) (w : World) (hK : KwIs w)
    (r : Rd w (fun b => b < w.heap.size) (.slice A S.length c) (.sl S.length (S.flatMap tdD))) (r2 : Rd w (fun b => b < w.heap.size) (.slice A2 rs.length c2) (.sl rs.length (rs.flatMap ruD))) :
    Calls Tryd.prog 3 #[.agg #[.slice A S.length c], .slice A2 rs.length c2] w fun e w' => e = .returned (.bool true) ∧ Below w.heap.size w w' := by
  have hS1 := hS.1
  have hR1 := hR.1
  have kt : ∀ W, Below w.heap.size w W → Blk W w.heap.size 24 [.slice A S.length c] → Calls Tryd.prog 4 #[.agg #[.slice A S.length c]] W fun e W' => ∃ U cu, e = .returned (.agg #[.slice U S.length cu]) ∧ w.heap.size < W'.heap.size ∧
      Below w.heap.size w W' ∧ Blk W' w.heap.size 24 [.slice A S.length c] ∧ Rd W' (fun b => w.heap.size < b ∧ b < W'.heap.size) (.slice U S.length cu) (.sl S.length (S.flatMap tdD)) := fun W hW hB =>
    (nmW.twinSchema_k A c _ S hS W (fun b h => Nat.lt_of_lt_of_le h hW.size) (r.under hW (fun _ h => h))).mono fun e W' ⟨v, h1, h2, h3⟩ => by
      obtain ⟨U, cu, rfl⟩ := h2.form
      have := hB.lt
      have := h3.size
      exact ⟨U, cu, h1, by omega, hW.trans (h3.mono hW.size), hB.stay h3, h2.rd (fun b h h' => ⟨by omega, h'⟩) (fun b h h' => ⟨by omega, h'⟩)⟩
  have ktr : ∀ W, Below w.heap.size w W → Calls Tryd.prog 5 #[.slice A2 rs.length c2] W fun e W' => ∃ U cu, e = .returned (.slice U rs.length cu) ∧ Below W.heap.size W W' ∧
      OL W' W.heap.size (fun b => W.heap.size ≤ b ∧ b < W'.heap.size) 35 3 (.slice U rs.length cu) rs.length (rs.flatMap ruD) := fun W hW =>
    (nmW.twinRules_k A2 c2 _ rs hR W (fun b h => Nat.lt_of_lt_of_le h hW.size) (r2.under hW (fun _ h => h))).mono fun e W' ⟨v, h1, h2, h3⟩ => by
      obtain ⟨U, cu, rfl⟩ := h2.form
      exact ⟨U, cu, h1, h3, h2.monoLt fun b h h' => ⟨h, h'⟩⟩
  have ke : ∀ (W : World) (H : Nat) (U V : Option Addr) (cu cv : Nat) (R : List Ru) (X : Nat → Prop), SzR R → R.length = rs.length → LS w W H (.slice A S.length c) (.slice U S.length cu) (.slice V rs.length cv) S rs.length R X →
      Calls Tryd.prog 6 #[.agg #[.slice U S.length cu], .slice V rs.length cv] W (ExtPost S R W) := fun W H U V cu cv R X hR' hn hL => by
    rw [← hn]
    exact nmW.extend_k U V cu cv (fun b => b < W.heap.size) (fun b => b < W.heap.size) S R hS hR' W (hK.stay hL.hb) (fun _ h => h) (fun _ h => h) (hL.rts.mono fun b _ h => h) (by rw [hn]; exact hL.otr.rd (fun _ _ h => h) (fun _ _ h => h))
  have kre1 : ∀ (W : World), Below w.heap.size w W → Calls Tryd.prog 7 #[.agg #[.slice A S.length c], .slice A2 rs.length c2] W (ExtPost S rs W) := fun W hW =>
    nmW.rExtend_k A A2 c c2 _ _ S rs hS hR W (hK.stay hW) (fun b h => Nat.lt_of_lt_of_le h hW.size) (fun b h => Nat.lt_of_lt_of_le h hW.size) (r.under hW (fun _ h => h)) (r2.under hW (fun _ h => h))
  have kre2 : ∀ (W : World) (V : Option Addr) (cv : Nat) (R : List Ru), SzR R → R.length = rs.length → Below w.heap.size w W → Rd W (fun b => b < W.heap.size) (.slice V rs.length cv) (.sl rs.length (R.flatMap ruD)) →
      Calls Tryd.prog 7 #[.agg #[.slice A S.length c], .slice V rs.length cv] W (ExtPost S R W) := fun W V cv R hR' hn hW hr => by
    rw [← hn] at hr ⊢
    exact nmW.rExtend_k A V c cv _ _ S R hS hR' W (hK.stay hW) (fun b h => Nat.lt_of_lt_of_le h hW.size) (fun _ h => h) (r.under hW (fun _ h => h)) hr
  have ks : ∀ (W : World) (U V : Option Addr) (cu cv : Nat) (T : List Td), SzT T → Rd W (fun b => b < W.heap.size) (.slice U T.length cu) (.sl T.length (T.flatMap tdD)) → Rd W (fun b => b < W.heap.size) (.slice V T.length cv) (.sl T.length (T.flatMap tdD)) →
      Calls Tryd.prog 8 #[.agg #[.slice U T.length cu], .agg #[.slice V T.length cv]] W fun e w' => e = .returned (.bool true) ∧ Below W.heap.size W w' := fun W U V cu cv T hT h1 h2 =>
    nmW.sameSchema_k U V cu cv _ _ T hT W (fun _ h => h) (fun _ h => h) h1 h2
  have kh : ∀ (W : World) (V : Option Addr) (cv : Nat), Below w.heap.size w W → Rd W (fun b => b < W.heap.size) (.slice V rs.length cv) (.sl rs.length (rs.flatMap ruD)) →
      Calls Tryd.prog 9 #[.slice A2 rs.length c2, .slice V rs.length cv] W fun e w' => e = .returned (.bool true) ∧ Below W.heap.size W w' := fun W V cv hW h2 =>
    nmW.sameRules_k A2 V c2 cv _ _ rs hR W (r2.under hW (fun _ h => h)) h2
  replace ke := Lib.hid ke
  replace kre1 := Lib.hid kre1
  replace kre2 := Lib.hid kre2
  replace ks := Lib.hid ks
  replace kh := Lib.hid kh
  have h0 : Below w.heap.size w (w.alloc (.cells #[.slice A S.length c] 24)) := (Below.refl _ _).alloc (Nat.le_refl _) _
  have h00 : Blk (w.alloc (.cells #[.slice A S.length c] 24)) w.heap.size 24 [.slice A S.length c] := Blk.new _ _ _
  replace kt := Lib.hid kt
  replace ktr := Lib.hid ktr
  replace hS := Lib.hid hS
  replace hR := Lib.hid hR
  replace hK := Lib.hid hK
  replace r := Lib.hid r
  replace r2 := Lib.hid r2
  replace h0 := Lib.hid h0
  replace h00 := Lib.hid h00
  go_enter Tryd.func3, Tryd.ntmps3
  go_upto_region 2 with (go_at_call 4; refine (kt.out _ h0.out h00.out).mono ?_; rintro e W1 ⟨U5, c5, rfl, hH, hb1, hB1, hR1'⟩)
  have hb1a : Below w.heap.size w (W1.alloc (.cells #[.slice U5 S.length c5] 24)) := hb1.alloc hb1.size _
  have hsz1 : (W1.alloc (.cells #[.slice U5 S.length c5] 24)).heap.size = W1.heap.size + 1 := by simp
  have kl2 := (ktr.out _ hb1a).mono (R' := fun e W2 => ∃ U cu, e = .returned (.slice U rs.length cu) ∧ W1.heap.size + 1 ≤ W2.heap.size ∧ LS w W2 W1.heap.size (.slice A S.length c) (.slice U5 S.length c5) (.slice U rs.length cu) S rs.length rs (fun b => W2.heap.size ≤ b)) fun e W2 ⟨U, cu, h1, h2, h3⟩ => by
    rw [hsz1] at h3
    have := h2.size
    refine ⟨U, cu, h1, by omega, hb1a.trans (h2.mono (by omega)), (hB1.alloc _).stay h2, (Blk.new _ _ _).stay h2, (hR1'.alloc _).stay h2, h3.monoLt fun b h h' => ⟨by omega, by omega⟩, hH⟩
  replace kl2 := Lib.hid kl2
  clear hb1 hB1 hR1' hb1a
  go_upto_region 3 with (go_at_call 5; refine kl2.out.mono ?_; rintro e W2 ⟨U6, c6, rfl, hs2, hL2⟩)
  generalize W1.heap.size = H at *
  have x5 : W2.cell? ⟨H, 0, none⟩ = some (.slice U5 S.length c5) := hL2.b5.cell 0
  have hrow2 : ∀ q, (Value.slice U6 rs.length c6).ownBlock = some q → H < q ∧ q < W2.heap.size := fun q hq => by have := hL2.otr.lt q hq; omega
  replace hrow2 := Lib.hid hrow2
  replace hL2 := Lib.hid hL2
  go_upto_region 5 with (first
    | (go_at_call 6; refine (ke.out _ _ _ _ _ _ _ _ hR.out rfl hL2.out).mono ?_; intro e W3 h; obtain ⟨U7, c7, T, code, at_, rfl, hx7, r7, hb3⟩ := h.opn; have hL3 := hL2.out.stay hb3; have hs3 := hb3.size; have z0 : W3.cell? ⟨w.heap.size, 0, none⟩ = some (.slice A S.length c) := hL3.b2.cell 0; have hl3 : w.heap.size < W3.heap.size := hL3.b2.lt; have hn3 : ¬ w.heap.size = W3.heap.size := (by omega); have hL3a := hL3.stay ((Below.refl _ _).alloc (Nat.le_refl _) (.cells #[.slice U7 T.length c7] 24)); have r7a := r7.alloc (.cells #[.slice U7 T.length c7] 24); have b7a : Blk (W3.alloc (.cells #[.slice U7 T.length c7] 24)) W3.heap.size 24 [.slice U7 T.length c7] := Blk.new _ _ _; replace hL3a := Lib.hid hL3a; replace r7a := Lib.hid r7a; replace b7a := Lib.hid b7a; clear r7 hb3 hL3)
    | (go_at_call 7; refine (kre1.out _ hL3a.out.hb).mono ?_; intro e W4 h; obtain ⟨U10, c10, T', code', at', rfl, hx10, r10, hb4⟩ := h.opn; obtain ⟨e1, e2, e3⟩ := hx10.uniq hx7; subst e1 e2 e3; have hL4 := hL3a.out.stay hb4; have r7b := r7a.out.stay hb4; have b7b := b7a.out.stay hb4; have hs4 := hb4.size; have x7 : W4.cell? ⟨W3.heap.size, 0, none⟩ = some (.slice U7 T.length c7) := b7b.cell 0; have hl7 : W3.heap.size < W4.heap.size := b7b.lt; have hn7 : ¬ W3.heap.size = W4.heap.size := (by omega); replace hL4 := Lib.hid hL4; replace r7b := Lib.hid r7b; replace b7b := Lib.hid b7b; replace r10 := Lib.hid r10; clear hb4))
  have hTz := hx7.sz hS.out hR.out
  replace hTz := Lib.hid hTz
  replace hx7 := Lib.hid hx7
  generalize hW5 : W4.alloc (.cells #[.slice U10 T.length c10] 24) = W5
  have hb5 : Below W4.heap.size W4 W5 := by rw [← hW5]; exact (Below.refl _ _).alloc (Nat.le_refl _) _
  have b10 : Blk W5 W4.heap.size 24 [.slice U10 T.length c10] := by rw [← hW5]; exact Blk.new _ _ _
  have hL5 := hL4.out.stay hb5
  have b7 := b7b.out.stay hb5
  have s7 := (r7b.out.stay hb5).mono (G := fun b => b < W5.heap.size) fun b _ h => h
  have s10 := (r10.out.stay hb5).mono (G := fun b => b < W5.heap.size) fun b _ h => h
  have hs5 := b10.lt
  have y7 : W5.cell? ⟨W3.heap.size, 0, none⟩ = some (.slice U7 T.length c7) := b7.cell 0
  have y10 : W5.cell? ⟨W4.heap.size, 0, none⟩ = some (.slice U10 T.length c10) := b10.cell 0
  replace hL5 := Lib.hid hL5
  replace b7 := Lib.hid b7
  replace b10 := Lib.hid b10
  replace s7 := Lib.hid s7
  replace s10 := Lib.hid s10
  clear hW5 hb5 hL4 r7b b7b r10 x7 z0 x5 hL2 hL3a r7a b7a
  have tok1 : True := trivial
  go_upto_region 10 with (first
    | (go_at_call 8; have _t := tok1; clear tok1; refine (ks.out W5 _ _ _ _ _ hTz.out s7.out s10.out).mono ?_; rintro e W6 ⟨rfl, hb6⟩; have hL6 := hL5.out.stay hb6; have z6 : W6.cell? ⟨w.heap.size, 0, none⟩ = some (.slice A S.length c) := hL6.b2.cell 0; have x6 : W6.cell? ⟨H, 0, none⟩ = some (.slice U5 S.length c5) := hL6.b5.cell 0; have a1 := r.out.under hL6.hb (fun _ h => h); have a2 := a1.mono (G := fun b => b < W6.heap.size) (fun b _ h => h); have a3 := hL6.rts.mono (G := fun b => b < W6.heap.size) (fun b _ h => h); clear a1; replace a2 := Lib.hid a2; replace a3 := Lib.hid a3; replace hL6 := Lib.hid hL6; replace hb6 := Lib.hid hb6)
    | (go_at_call 8; refine (ks.out W6 _ _ _ _ _ hS.out a2.out a3.out).mono ?_; rintro e W7 ⟨rfl, hb7⟩; have hL7 := hL6.out.stay hb7; have a4 := hL7.otr.rd (G := fun b => b < W7.heap.size) (fun _ _ h => h) (fun _ _ h => h); replace a4 := Lib.hid a4; replace hL7 := Lib.hid hL7; replace hb7 := Lib.hid hb7)
    | (go_at_call 9; refine (kh.out W7 _ _ hL7.out.hb a4.out).mono ?_; rintro e W8 ⟨rfl, hb8⟩))
  have hL8 := hL7.out.stay hb8
  have hbb : Below W5.heap.size W5 W8 := (hb6.out.trans (hb7.out.mono hb6.out.size)).trans (hb8.mono (Nat.le_trans hb6.out.size hb7.out.size))
  have b78 := b7.out.stay hbb
  have b108 := b10.out.stay hbb
  have hrow : ∀ q, (Value.slice U6 rs.length c6).ownBlock = some q → H < q ∧ q < W2.heap.size := hrow2.out
  have hs8 := hbb.size
  generalize W3.heap.size = g7 at *
  generalize W4.heap.size = g10 at *
  have kt9 := (ktr.out W8 hL8.hb).mono (R' := fun e W' => ∃ U cu, e = .returned (.slice U rs.length cu) ∧ LT w W' H g7 g10 W8.heap.size (.slice A S.length c) (.slice U5 S.length c5) (.slice U6 rs.length c6) (.slice U7 T.length c7) (.slice U10 T.length c10) (.slice U rs.length cu) S rs.length rs rs) fun e W' ⟨U, cu, h1, h2, h3⟩ => by
    have h4 := hL8.stay h2
    refine ⟨U, cu, h1, ⟨h4.hb, h4.b2, h4.b5, h4.rts, h4.otr.mono fun b h => ⟨h.1, fun h' => h.2 (by show _ ≤ b; omega)⟩, h4.hH⟩, b78.stay h2, b108.stay h2, h3.rd (fun b h _ => h.1) (fun b h _ => h)⟩
  replace kt9 := Lib.hid kt9
  generalize hB9 : W8.heap.size = B9 at *
  replace hrow := Lib.hid hrow
  clear hL8 hbb b78 b108 hL7 hL6 hL5 b7 b10 s7 s10 hb6 hb7 hb8 z6 x6 a2 a3 a4 y7 y10 hB9 hTz hx7
  go_wp2_with (go_at_call 5; refine kt9.out.mono ?_; rintro e W9 ⟨U9, c9, rfl, hT9⟩)
  go_loopw [17] (fun x wr => ∃ (k : Nat) (R : List Ru), k ≤ rs.length ∧ x = .int .i64 k ∧ R.length = rs.length ∧ SzR R ∧ LT w wr H g7 g10 B9 (.slice A S.length c) (.slice U5 S.length c5) (.slice U6 rs.length c6) (.slice U7 T.length c7) (.slice U10 T.length c10) (.slice U9 rs.length c9) S rs.length R rs) (fun x _ => rs.length - (intOf x).toNat)
  case atStart => exact ⟨0, rs, Nat.zero_le _, rfl, rfl, hR.out, hT9⟩
  case round =>
    clear hT9
    obtain ⟨k, R, hk, rfl, hRn, hRz, hT⟩ := hrel
    by_cases hlt : k < rs.length
    · obtain ⟨x, hx⟩ := getx (l := rs) (i := rs.length - 1 - k) (by omega)
      obtain ⟨bt, ot, rfl, hbt, hv, hsl⟩ := hT.rt.rowv (m := 3) (fun _ => rfl) hx (by omega)
      obtain ⟨A3, c3, a2, r3⟩ := hsl 2 _ _ rfl
      have a0 : wr.cell? ⟨bt, ot + (rs.length - 1 - k) * 3, none⟩ = some (.string x.query) := hv 0 _ rfl
      have a1 : wr.cell? ⟨bt, ot + (rs.length - 1 - k) * 3 + 1, none⟩ = some (.string x.into) := hv 1 _ rfl
      obtain ⟨g, cap, eU, hgB, hgl, hfr, hcl⟩ := hT.hL.otr.row (by omega)
      injection eU with e1 _ e2
      subst e1 e2
      have hgr := hrow.out g rfl
      have hput := hT.put (k := k) x (.slice A3 x.attrs.length c3) r3 (by omega) (by omega) (by omega) (by omega)
      have hszx : SzR (R.set k x) := ⟨by simp; omega, fun y hy => by
        rcases List.mem_or_eq_of_mem_set hy with h | h
        · exact hRz.2 y h
        · rw [h]; exact hR.out.2 x (List.mem_of_getElem? hx)⟩
      obtain ⟨y, hy⟩ := getx (l := R) (i := k) (by omega)
      have hd : ∀ j, j < 3 → ∃ u, wr.cell? ⟨g, k * 3 + j, none⟩ = some u := fun j hj => by
        obtain ⟨d, hd⟩ := getx (l := ruD y) (i := j) (by show j < 3; exact hj)
        obtain ⟨u, hu, _⟩ := hcl (k * 3 + j) d (flatMap_get (f := ruD) (m := 3) (fun _ => rfl) hy hd)
        exact ⟨u, hu⟩
      obtain ⟨w0, hw0⟩ := hd 0 (by omega)
      obtain ⟨w1, hw1⟩ := hd 1 (by omega)
      obtain ⟨w2, hw2⟩ := hd 2 (by omega)
      rw [Nat.add_zero] at hw0
      have f0 := hfr (k * 3)
      have f1 := hfr (k * 3 + 1)
      have f2 := hfr (k * 3 + 2)
      replace hput := Lib.hid hput
      replace hszx := Lib.hid hszx
      have g0 : (0 : Int) ≤ (k : Int) := by omega
      have g1 : (k : Int) < rs.length := by omega
      clear hT hv hsl r3 hx hfr hcl hd hy hRz
      go_wp2
      go_roundw
      case rel => exact ⟨k + 1, R.set k x, by omega, by go_num, by simpa using hRn, hszx.out, hput.out⟩
      case measure => simp [intOf]; omega
    · obtain ⟨W10, hW10⟩ : ∃ W10 : World, W10 = wr := ⟨_, rfl⟩
      subst hW10
      obtain ⟨hL, b7, b10, rt⟩ := hT
      have x5 : W10.cell? ⟨H, 0, none⟩ = some (.slice U5 S.length c5) := hL.b5.cell 0
      have hl7 := b7.lt
      have hl10 := b10.lt
      have hHh := hL.hH
      have hHl := hL.b5.lt
      replace hL := Lib.hid hL
      replace b7 := Lib.hid b7
      replace b10 := Lib.hid b10
      clear rt
      go_upto_region 16 with (go_at_call 6; refine (ke.out _ _ _ _ _ _ _ _ hRz hRn hL.out).mono ?_; intro e W11 h; obtain ⟨V7, d7, T2, code2, at2, rfl, hx7, r7, hb11⟩ := h.opn; have q7 := b7.out.stay hb11; have y7 : W11.cell? ⟨g7, 0, none⟩ = some (.slice U7 T.length c7) := q7.cell 0; have f7 : W11.frozen? ⟨g7, 0, none⟩ = false := q7.frozen 0; have hL11 := hL.out.stay hb11; have q10 := b10.out.stay hb11; have hs11 := hb11.size; replace hL11 := Lib.hid hL11; replace q7 := Lib.hid q7; replace q10 := Lib.hid q10; clear hb11)
      have hTz := hx7.sz hS.out hRz
      generalize hW12 : W11.setCell ⟨g7, 0, none⟩ (.slice V7 T2.length d7) = W12
      have hb12 : Below w.heap.size w W12 := by rw [← hW12]; exact hL11.out.hb.setCell (by show _ ≤ g7; omega) _
      have z12 : W12.cell? ⟨w.heap.size, 0, none⟩ = some (.slice A S.length c) := by rw [← hW12]; exact (hL11.out.b2.far (p := ⟨g7, 0, none⟩) (by show _ ≠ g7; omega) _).cell 0
      have p7 : Blk W12 g7 24 [.slice V7 T2.length d7] := by rw [← hW12]; exact q7.out.set_ 0 _
      have p10 : Blk W12 g10 24 [.slice U10 T.length c10] := by rw [← hW12]; exact q10.out.far (p := ⟨g7, 0, none⟩) (by show _ ≠ g7; omega) _
      have s7 : Rd W12 (fun b => W10.heap.size ≤ b ∧ b < W12.heap.size) (.slice V7 T2.length d7) (.sl T2.length (T2.flatMap tdD)) := by rw [← hW12]; exact (r7.setCell (p := ⟨g7, 0, none⟩) (by show ¬ (_ ≤ g7 ∧ _); omega) _).mono fun b h h' => ⟨h.1, h'⟩
      have str : Rd W12 (fun b => b < W12.heap.size) (.slice U6 rs.length c6) (.sl rs.length (R.flatMap ruD)) := by
        rw [← hW12]
        exact ((hL11.out.otr.rd' (G := fun b => b ≠ g7 ∧ b < W11.heap.size) (fun b h h' => ⟨fun e => h.2 (.inl e), h'⟩) (fun b hq _ h' => ⟨fun e => by have := hrow.out b hq; omega, h'⟩)).setCell (p := ⟨g7, 0, none⟩) (fun h => h.1 rfl) _).mono fun b _ h => h
      replace hb12 := Lib.hid hb12
      replace p7 := Lib.hid p7
      replace p10 := Lib.hid p10
      replace s7 := Lib.hid s7
      replace str := Lib.hid str
      replace hTz := Lib.hid hTz
      replace hx7 := Lib.hid hx7
      clear hL11 q7 q10 r7 y7 f7 x5 hL b7 b10 hW12
      go_upto_region 17 with (go_at_call 7; refine (kre2.out _ _ _ _ hRz hRn hb12.out str.out).mono ?_; intro e W13 h; obtain ⟨V10, d10, T3, code3, at3, rfl, hx10, r10, hb13⟩ := h.opn; obtain ⟨e1, e2, e3⟩ := hx10.uniq hx7.out; subst e1 e2 e3; have q7 := p7.out.stay hb13; have q10 := p10.out.stay hb13; have y10 : W13.cell? ⟨g10, 0, none⟩ = some (.slice U10 T.length c10) := q10.cell 0; have f10 : W13.frozen? ⟨g10, 0, none⟩ = false := q10.frozen 0; have t7 := s7.out.stay hb13; have hs12 := p10.out.lt; have hb13' := hb12.out.trans (hb13.mono hb12.out.size); replace q7 := Lib.hid q7; replace q10 := Lib.hid q10; replace t7 := Lib.hid t7; replace hb13' := Lib.hid hb13'; clear hb13)
      generalize hW14 : W13.setCell ⟨g10, 0, none⟩ (.slice V10 T2.length d10) = W14
      have hb14 : Below w.heap.size w W14 := by rw [← hW14]; exact hb13'.out.setCell (by show _ ≤ g10; omega) _
      have y7 : W14.cell? ⟨g7, 0, none⟩ = some (.slice V7 T2.length d7) := by rw [← hW14]; exact (q7.out.far (p := ⟨g10, 0, none⟩) (by show _ ≠ g10; omega) _).cell 0
      have y10' : W14.cell? ⟨g10, 0, none⟩ = some (.slice V10 T2.length d10) := by rw [← hW14]; exact (q10.out.set_ 0 _).cell 0
      have u7 : Rd W14 (fun b => b < W14.heap.size) (.slice V7 T2.length d7) (.sl T2.length (T2.flatMap tdD)) := by rw [← hW14]; exact (t7.out.setCell (p := ⟨g10, 0, none⟩) (by show ¬ (_ ≤ g10 ∧ _); omega) _).mono fun b _ h => h
      have u10 : Rd W14 (fun b => b < W14.heap.size) (.slice V10 T2.length d10) (.sl T2.length (T2.flatMap tdD)) := by rw [← hW14]; exact (r10.setCell (p := ⟨g10, 0, none⟩) (by show ¬ (_ ≤ g10 ∧ _); omega) _).mono fun b _ h => h
      replace hb14 := Lib.hid hb14
      replace u7 := Lib.hid u7
      replace u10 := Lib.hid u10
      clear q7 q10 t7 r10 y10 f10 hb13' hW14
      go_wp2_with (go_at_call 8; refine (ks.out W14 _ _ _ _ _ hTz.out u7.out u10.out).mono ?_; rintro e W15 ⟨rfl, hb15⟩)
      go_ret
      exact ⟨rfl, hb14.out.trans (hb15.mono hb14.out.size)⟩
end exW
end Go.Proofs.YtfnejelbacpheaaDoor
