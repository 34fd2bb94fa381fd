/- growing.add. -/
import Derived.Test.YtfnejelbacpheaaDoorEx
namespace Go.Proofs.YtfnejelbacpheaaDoor
open Go.RowKit Go.Deep Go.Maps
set_option linter.unusedVariables false
namespace nmW
set_option maxHeartbeats 800000 in
theorem add_k (B0 B g m : Nat) (v : Value) (S : List Td) (nm : ByteArray) (A : Option Addr) (c : Nat) (F : Nat → Prop) (l : List ByteArray) (hl : l.length ≤ 1048576) (hn : nm.size ≤ 1048576) (hS : S.length ≤ 1000000) (w : World) (hBw : B ≤ w.heap.size) (hF : ∀ b, F b → b < B0)
    (h : GS B0 B w g m v S) (r : Rd w F (.slice A l.length c) (.sl l.length (l.flatMap strD))) :
    Calls Tryd.prog 21 #[.pointer (some ⟨g, 0, none⟩), .string nm, .slice A l.length c] w fun e w' => e = .returned (.int .i64 S.length) ∧ (∃ v', GS B0 B w' g m v' (S ++ [⟨nm, l⟩])) ∧ Below B0 w w' := by
  have k1 := Lib.hid clone_k
  obtain ⟨hb, hm, ho, q0, q1, q2, q3⟩ := h
  obtain ⟨U, cu, rfl⟩ := ho.form
  have c0 : w.cell? ⟨g, 0, none⟩ = some (.slice U S.length cu) := hb.cell 0
  have c1 : w.cell? ⟨g, 1, none⟩ = some (.map (some m)) := hb.cell 1
  have hwf : (Lit.int .i64 (S.length : Int)).wf = true := WalkArith.wf_i64 (by omega)
  have hgm : g ≠ m := fun e => by
    subst e
    obtain ⟨D, ⟨es, ck, h1, _⟩, _⟩ := hm
    unfold Blk at hb
    rw [hb] at h1
    injection h1 with h1
    cases h1
  have hrow : ∀ q, (Value.slice U S.length cu).ownBlock = some q → B ≤ q := fun q hq => (ho.lt q hq).1
  replace hb := Lib.hid hb
  replace ho := Lib.hid ho
  go_enter Tryd.func21, Tryd.ntmps21
  go_wp2_with (at_mapUpdate; refine wpList_put rfl (.tmp 17) (.tmp 18) (.tmp 19) rfl rfl hm (by omega) rfl rfl hn hwf ?_; intro w1 hm1 hg1)
  have hb1 := hb.out.grown hg1 (by simpa using hgm)
  have ho1 := ho.out.kept hg1 (.inr (fun h => by have := hrow _ h; omega)) (fun b h1 h2 => by injection h2 with h2; omega)
  have hB1 : Below B0 w w1 := (Below.refl _ _).grown hg1 (by omega) (fun q hq => by injection hq with hq; omega)
  have r1 := r.under hB1 hF
  have hbd : Blk w1.drew g 47 [.slice U S.length cu, .map (some m)] := hb1
  have hod := ho1.drew
  have hmd : MapIs w1.drew m (S.length + 1) (S.map (·.name) ++ [nm]) := hm1
  have hBd : Below B0 w w1.drew := hB1.drew
  have hsz : B ≤ w1.drew.heap.size := Nat.le_trans hBw hg1.size
  have rd := r1.drew
  have d0 : w1.drew.cell? ⟨g, 0, none⟩ = some (.slice U S.length cu) := hbd.cell 0
  have d00 : w1.cell? ⟨g, 0, none⟩ = some (.slice U S.length cu) := hbd.cell 0
  have hfm : (S ++ [(⟨nm, l⟩ : Td)]).flatMap tdD = S.flatMap tdD ++ tdD ⟨nm, l⟩ := by simp
  have hnm : (S ++ [(⟨nm, l⟩ : Td)]).map (·.name) = S.map (·.name) ++ [nm] := by simp
  have hln : (S ++ [(⟨nm, l⟩ : Td)]).length = S.length + 1 := by simp
  replace hbd := Lib.hid hbd
  replace hod := Lib.hid hod
  replace hmd := Lib.hid hmd
  replace hBd := Lib.hid hBd
  replace rd := Lib.hid rd
  replace hfm := Lib.hid hfm
  replace hnm := Lib.hid hnm
  replace hln := Lib.hid hln
  replace hrow := Lib.hid hrow
  clear hb1 ho1 hm1 hB1 r1 r hm hb ho c0 c1
  go_upto_region 3 with fail
  go_region_law (first
    | (refine step_app (by rfl) (.tmp 25) (.tmp 30) _ (by rfl) (m := 1) (news := tdD ⟨nm, l⟩) elTd (by exact (hod.out.stay hW.out).alloc _) (by rfl) (by rfl) (by exact Src.lit hL.out) rfl (by omega) (by omega) (by exact Nat.le_trans hsW (by simp)) ?_; intro v' w3 hO3 hg3 ha3; obtain ⟨B2, d2, rfl⟩ := hO3.form; have t0 := ((hbd.out.stay hW.out).alloc _).grown hg3 (fun h => by have := hrow.out _ h.symm; omega); have t1 : w3.cell? ⟨g, 0, none⟩ = some (.slice U S.length cu) := t0.cell 0; have t2 : w3.frozen? ⟨g, 0, none⟩ = false := t0.frozen 0)
    | (go_simp; go_at_call 25; refine (k1.out _ _ _ _ hl _ rd.out).mono ?_; rintro e W ⟨u, rfl, hO2, hW⟩; obtain ⟨B1, d1, rfl⟩ := hO2.form; have hL : RdL W (fun b => B ≤ b ∧ some b ≠ (Value.slice U S.length cu).ownBlock) [.string nm, .slice B1 l.length d1] (tdD ⟨nm, l⟩) := ⟨.v _ rfl, hO2.rd' (fun _ h _ => h.elim) (fun b he hB hlt => ⟨by omega, fun hu => by have := (hod.out.lt b hu.symm).2; omega⟩), trivial⟩; have e0 : W.cell? ⟨g, 0, none⟩ = some (.slice U S.length cu) := (hbd.out.stay hW).cell 0; have hgW : g < W.heap.size := World.block_lt_of_cell? W _ e0; have hgN : ¬ g = W.heap.size := (by omega); have hsW : B ≤ W.heap.size := Nat.le_trans hsz hW.size; replace hL := Lib.hid hL; replace hW := Lib.hid hW))
  all_goals
    have hg : some g ≠ (Value.slice U S.length cu).ownBlock := fun h => by have := hrow.out _ h.symm; omega
    have hm3 : some m ≠ (Value.slice U S.length cu).ownBlock := fun h => by have := hrow.out _ h.symm; omega
    have hBW : Below B0 w W := hBd.out.trans (hW.out.mono (by omega))
    have hfin : GS B0 B (w3.setCell ⟨g, 0, none⟩ (.slice B2 (S.length + 1) d2)) g m (.slice B2 (S.length + 1) d2) (S ++ [⟨nm, l⟩]) := by
      refine ⟨t0.set_ 0 _, ?_, ?_, q0, q1, q2, q3⟩
      · rw [hnm.out, hln.out]
        exact (((hmd.out.stay hW.out).stay ((Below.refl _ _).alloc (Nat.le_refl _) _)).kept hg3 hm3).setCell (fun h => hgm h.symm) _
      · rw [hfm.out, hln.out]
        exact hO3.setCell (fun h => absurd (hO3.lt _ h).1 (by show ¬ B ≤ g; omega)) (by show ¬ B ≤ g; omega) _
    have hB3 : Below B0 w (w3.setCell ⟨g, 0, none⟩ (.slice B2 (S.length + 1) d2)) :=
      ((hBW.alloc (by omega) _).grown hg3 (by simp; omega) (fun q hq => by have := hrow.out _ hq; omega)).setCell q0 _
    replace hfin := Lib.hid hfin
    replace hB3 := Lib.hid hB3
    go_wp2_with fail
    go_ret
    exact ⟨rfl, ⟨_, hfin.out⟩, hB3.out⟩
end nmW
end Go.Proofs.YtfnejelbacpheaaDoor
