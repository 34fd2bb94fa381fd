/- The document's with. -/
import Derived.Test.YtfnejelbacpheaaDoorEx5
namespace Go.Proofs.YtfnejelbacpheaaDoor
open Go.RowKit Go.Deep Go.Maps
set_option linter.unusedVariables false

def WB (w W : World) (v q i a : Value) : Prop := Below w.heap.size w W ∧ Blk W w.heap.size 24 [v] ∧ Blk W (w.heap.size + 1) 35 [q, i, a] ∧ Blk W (w.heap.size + 1 + 1) 24 [.slice none 0 0]
theorem WB.stay {w W W2 : World} {v q i a : Value} (h : WB w W v q i a) (hb : Below W.heap.size W W2) : WB w W2 v q i a := ⟨h.1.trans (hb.mono h.1.size), h.2.1.stay hb, h.2.2.1.stay hb, h.2.2.2.stay hb⟩
namespace nmW
set_option maxHeartbeats 800000 in
theorem with_k (A A3 : Option Addr) (c c3 : Nat) (F G : Nat → Prop) (S : List Td) (r : Ru) (hS : SzT S) (hS2 : S.length ≤ 1000000) (hR : SzR1 r) (w : World) (hF : ∀ b, F b → b < w.heap.size) (hG : ∀ b, G b → b < w.heap.size)
    (rs : Rd w F (.slice A S.length c) (.sl S.length (S.flatMap tdD))) (ra : Rd w G (.slice A3 r.attrs.length c3) (.sl r.attrs.length (r.attrs.flatMap strD))) :
    Calls Tryd.prog 16 #[.agg #[.slice A S.length c], .agg #[.string r.query, .string r.into, .slice A3 r.attrs.length c3]] w fun e w' => ∃ v, e = .returned (.agg #[v]) ∧
      OL w' w.heap.size (fun b => w.heap.size ≤ b) 39 2 v (addR S r).length ((addR S r).flatMap tdD) ∧ Below w.heap.size w w' := by
  have h0 : WB w (((w.alloc (.cells #[.slice A S.length c] 24)).alloc (.cells #[.string r.query, .string r.into, .slice A3 r.attrs.length c3] 35)).alloc (.cells #[.slice none 0 0] 24)) (.slice A S.length c) (.string r.query) (.string r.into) (.slice A3 r.attrs.length c3) :=
    ⟨(((Below.refl _ _).alloc (Nat.le_refl _) _).alloc (by simp) _).alloc (by simp; omega) _, ((Blk.new _ _ _).alloc _).alloc _, (Blk.new' (by simp)).alloc _, Blk.new' (by simp)⟩
  have kt : ∀ W, WB w W (.slice A S.length c) (.string r.query) (.string r.into) (.slice A3 r.attrs.length c3) → Calls Tryd.prog 4 #[.agg #[.slice A S.length c]] W fun e W' => ∃ U cu, e = .returned (.agg #[.slice U S.length cu]) ∧
      OL W' (w.heap.size + 1 + 1 + 1) (fun b => w.heap.size + 1 + 1 + 1 ≤ b ∧ b < W'.heap.size) 39 2 (.slice U S.length cu) S.length (S.flatMap tdD) ∧ WB w W' (.slice A S.length c) (.string r.query) (.string r.into) (.slice A3 r.attrs.length c3) := fun W hW =>
    (twinSchema_k A c F S hS W (fun b h => Nat.lt_of_lt_of_le (hF b h) hW.1.size) (rs.under hW.1 hF)).mono fun e W' ⟨v, h1, h2, h3⟩ => by
      obtain ⟨U, cu, rfl⟩ := h2.form
      have := hW.2.2.2.lt
      exact ⟨U, cu, h1, (h2.base (by omega)).monoLt fun b h h' => ⟨by omega, h'⟩, hW.stay h3⟩
  have kn : ∀ W, Below w.heap.size w W → Calls Tryd.prog 10 #[.slice A3 r.attrs.length c3] W fun e W' => ∃ U cu, e = .returned (.slice U r.attrs.length cu) ∧
      OL W' W.heap.size (fun _ => False) 9 1 (.slice U r.attrs.length cu) r.attrs.length (r.attrs.flatMap strD) ∧ Below W.heap.size W W' := fun W hW =>
    (twinStrings_k A3 c3 G r.attrs hR.2.1 W (ra.under hW hG)).mono fun e W' ⟨v, h1, h2, h3⟩ => by
      obtain ⟨U, cu, rfl⟩ := h2.form
      exact ⟨U, cu, h1, h2, h3⟩
  replace kt := Lib.hid kt
  replace kn := Lib.hid kn
  by_cases he : r.into = ByteArray.empty
  · have h1 := e_true he
    have hr : addR S r = S := addR_e he
    rw [hr]
    replace h0 := Lib.hid h0
    clear hS hR hF hG rs ra he hr
    go_enter Tryd.func16, Tryd.ntmps16
    go_wp2_with (go_at_call 4; refine (kt.out _ h0.out).mono ?_; rintro e W ⟨U, cu, rfl, hO, hW⟩; have hsz := hW.2.2.2.lt; have hs1 : w.heap.size + 1 < W.heap.size := (by omega); have hn1 : ¬ w.heap.size + 1 = W.heap.size := (by omega); have hn2 : ¬ w.heap.size + 1 + 1 = W.heap.size := (by omega); have i0 : W.cell? ⟨w.heap.size + 1, 1, none⟩ = some (.string r.into) := hW.2.2.1.cell 1; have p0 : W.cell? ⟨w.heap.size + 1 + 1, 0, none⟩ = some (.slice none 0 0) := hW.2.2.2.cell 0; have f0 : W.frozen? ⟨w.heap.size + 1 + 1, 0, none⟩ = false := hW.2.2.2.frozen 0; replace hW := Lib.hid hW; replace hO := Lib.hid hO)
    have b1 : Blk ((W.setCell ⟨w.heap.size + 1 + 1, 0, none⟩ (.slice U S.length cu)).alloc (.cells #[.slice U S.length cu] 24)) (w.heap.size + 1 + 1) 24 [.slice U S.length cu] := (hW.out.2.2.2.set_ 0 _).alloc _
    have b2 : OL ((W.setCell ⟨w.heap.size + 1 + 1, 0, none⟩ (.slice U S.length cu)).alloc (.cells #[.slice U S.length cu] 24)) w.heap.size (fun b => w.heap.size ≤ b) 39 2 (.slice U S.length cu) S.length (S.flatMap tdD) :=
      (((hO.out.setCell (p := ⟨w.heap.size + 1 + 1, 0, none⟩) (fun h => absurd (hO.out.lt _ h).1 (by show ¬ (_ ≤ w.heap.size + 1 + 1); omega)) (by show ¬ (_ ≤ w.heap.size + 1 + 1 ∧ _); omega) _).alloc _).base (by omega)).mono fun b h => by omega
    have b3 : Below w.heap.size w ((W.setCell ⟨w.heap.size + 1 + 1, 0, none⟩ (.slice U S.length cu)).alloc (.cells #[.slice U S.length cu] 24)) := (hW.out.1.setCell (p := ⟨w.heap.size + 1 + 1, 0, none⟩) (by simp; omega) _).alloc (by simp; omega) _
    exact bodyPost_cell1 rfl b1 aggSc rfl rfl ⟨_, rfl, b2, b3⟩
  · have h1 := e_false he
    have hr : addR S r = S ++ [⟨r.into, r.attrs⟩] := addR_n he
    have hfm : (S ++ [(⟨r.into, r.attrs⟩ : Td)]).flatMap tdD = S.flatMap tdD ++ tdD ⟨r.into, r.attrs⟩ := by simp
    have hln : (S ++ [(⟨r.into, r.attrs⟩ : Td)]).length = S.length + 1 := by simp
    rw [hr, hfm, hln]
    replace h0 := Lib.hid h0
    clear hS hR hF hG rs ra he hr
    go_enter Tryd.func16, Tryd.ntmps16
    go_wp2_with (first
      | (go_at_call 4; refine (kt.out _ h0.out).mono ?_; rintro e W ⟨U, cu, rfl, hO, hW⟩; have hsz := hW.2.2.2.lt; have hs1 : w.heap.size + 1 < W.heap.size := (by omega); have hn1 : ¬ w.heap.size + 1 = W.heap.size := (by omega); have hn2 : ¬ w.heap.size + 1 + 1 = W.heap.size := (by omega); have i0 : W.cell? ⟨w.heap.size + 1, 1, none⟩ = some (.string r.into) := hW.2.2.1.cell 1; have i1 : W.cell? ⟨w.heap.size + 1, 2, none⟩ = some (.slice A3 r.attrs.length c3) := hW.2.2.1.cell 2; have hW1 := hW.stay ((Below.refl _ _).alloc (Nat.le_refl _) (.cells #[.slice U S.length cu] 24)); have hlt := hO.lt; have hO1 := (hO.alloc (.cells #[.slice U S.length cu] 24)).mono (G := fun b => w.heap.size + 1 + 1 + 1 ≤ b ∧ b ≠ W.heap.size) (fun b h => ⟨h.1, (by omega)⟩); replace hlt := Lib.hid hlt; have hU : Blk (W.alloc (.cells #[.slice U S.length cu] 24)) W.heap.size 24 [.slice U S.length cu] := Blk.new _ _ _; replace hW1 := Lib.hid hW1; replace hO1 := Lib.hid hO1; replace hU := Lib.hid hU; clear hO hW)
      | (go_at_call 10; refine (kn.out _ hW1.out.1).mono ?_; rintro e W2 ⟨U2, cu2, rfl, hO2, hW2⟩; have j0 : W2.cell? ⟨w.heap.size + 1, 1, none⟩ = some (.string r.into) := (hW1.out.stay hW2).2.2.1.cell 1; have u0 : W2.cell? ⟨W.heap.size, 0, none⟩ = some (.slice U S.length cu) := (hU.out.stay hW2).cell 0; have hs2 := hW2.size; have hL : RdL W2 (fun b => (w.heap.size + 1 + 1 + 1 ≤ b ∧ b ≠ W.heap.size) ∧ some b ≠ (Value.slice U S.length cu).ownBlock) [.string r.into, .slice U2 r.attrs.length cu2] (tdD ⟨r.into, r.attrs⟩) := ⟨.v _ rfl, hO2.rd' (fun _ h _ => h.elim) (fun b he hB hlt' => ⟨⟨(by simp at hB; omega), (by simp at hB; omega)⟩, fun hu => (by have := (hlt.out b hu.symm).2; simp at hB; omega)⟩), trivial⟩; replace hL := Lib.hid hL; replace hW2 := Lib.hid hW2)
      | (at_builtin; refine wpList_app rfl (.tmp 17) (.tmp 22) _ rfl (m := 1) (news := tdD ⟨r.into, r.attrs⟩) elTd ((hO1.out.stay hW2.out).alloc _) rfl rfl (Src.lit hL.out) rfl (by omega) (by omega) (by simp at hs2 ⊢; omega) ?_; intro v' w3 hO3 hg3 ha3; obtain ⟨U3, cu3, rfl⟩ := hO3.form; have hrow : ∀ q, (Value.slice U S.length cu).ownBlock = some q → w.heap.size + 1 + 1 + 1 ≤ q ∧ q < W.heap.size := hlt.out; have t5 := ((hU.out.stay hW2.out).alloc (.cells #[.string r.into, .slice U2 r.attrs.length cu2] 39)).grown hg3 (fun h => (by have := hrow _ h.symm; omega)); have tW := ((hW1.out.stay hW2.out).stay ((Below.refl _ _).alloc (Nat.le_refl _) (.cells #[.string r.into, .slice U2 r.attrs.length cu2] 39))); have t4 := tW.2.2.2.grown hg3 (fun h => (by have := hrow _ h.symm; omega)); have tB := tW.1.grown hg3 tW.1.size (fun q hq => (by have := hrow _ hq; omega)); have x0 : w3.cell? ⟨W.heap.size, 0, none⟩ = some (.slice U S.length cu) := t5.cell 0; have x1 : w3.frozen? ⟨W.heap.size, 0, none⟩ = false := t5.frozen 0; have y0 : w3.cell? ⟨w.heap.size + 1 + 1, 0, none⟩ = some (.slice none 0 0) := t4.cell 0; have y1 : w3.frozen? ⟨w.heap.size + 1 + 1, 0, none⟩ = false := t4.frozen 0; replace t5 := Lib.hid t5; replace tW := Lib.hid tW; replace t4 := Lib.hid t4; replace tB := Lib.hid tB))
    have hne5 : (Value.slice U3 (S.length + 1) cu3).ownBlock ≠ some W.heap.size := fun h => by
      rcases ha3 with e | e
      · rw [e] at h
        have := hrow _ h
        omega
      · rw [e] at h
        injection h with h
        simp at h hs2
        omega
    have b1 := (t4.out.far (p := ⟨W.heap.size, 0, none⟩) (by show _ ≠ W.heap.size; omega) (.slice U3 (S.length + 1) cu3)).set_ 0 (.slice U3 (S.length + 1) cu3)
    have b2 := (((hO3.setCell (p := ⟨W.heap.size, 0, none⟩) hne5 (fun h => h.2 rfl) (.slice U3 (S.length + 1) cu3)).setCell (p := ⟨w.heap.size + 1 + 1, 0, none⟩) (fun h => absurd (hO3.lt _ h).1 (by show ¬ (_ ≤ w.heap.size + 1 + 1); omega)) (by show ¬ (_ ≤ w.heap.size + 1 + 1 ∧ _); omega) (.slice U3 (S.length + 1) cu3)).base (B' := w.heap.size) (by omega)).mono (G := fun b => w.heap.size ≤ b) fun b h => by omega
    have b3 := (tB.out.setCell (p := ⟨W.heap.size, 0, none⟩) (by show _ ≤ W.heap.size; omega) (.slice U3 (S.length + 1) cu3)).setCell (p := ⟨w.heap.size + 1 + 1, 0, none⟩) (by simp; omega) (.slice U3 (S.length + 1) cu3)
    exact bodyPost_cell1 rfl b1 aggSc rfl rfl ⟨_, rfl, b2, b3⟩
end nmW
end Go.Proofs.YtfnejelbacpheaaDoor
