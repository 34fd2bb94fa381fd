/- Copies of lists of names and of schemas. -/
import Derived.Test.YtfnejelbacpheaaDoorSc4
import Derived.Deep.RegionLaw
import Derived.Deep.DeepCutAuto
namespace Go.Proofs.YtfnejelbacpheaaDoor
open Go.RowKit Go.Deep
set_option linter.unusedVariables false

theorem strD_pl (x : ByteArray) : PlainL (strD x) := by intro d h; simp [strD] at h; exact ⟨_, h⟩
theorem strD_len (l : List ByteArray) : (l.flatMap strD).length = l.length * 1 := flatMap_length (f := strD) (m := 1) (fun _ => rfl) _

theorem Src.drew {w : World} {A : Option Addr} {news : List D} {G : Nat → Prop} (h : Src w A news G) : Src w.drew A news G := fun hne =>
  let ⟨b, off, e, hc⟩ := h hne
  ⟨b, off, e, fun k d hd => let ⟨u, h1, h2⟩ := hc k d hd; ⟨u, h1, h2.drew⟩⟩
theorem OL.base {w : World} {B B' : Nat} {F : Nat → Prop} {e size n : Nat} {v : Value} {ds : List D} (h : OL w B F e size v n ds) (hB : B' ≤ B) : OL w B' F e size v n ds := by
  obtain ⟨cells, ⟨h1, h2⟩, h3⟩ := h
  exact ⟨cells, ⟨h1, h2.imp id (fun ⟨g, cap, cur, e, hb, r⟩ => ⟨g, cap, cur, e, Nat.le_trans hB hb, r⟩)⟩, h3⟩
theorem undrew {w w' : World} {row : Option Nat} (h : w.drew.grownBy w' row) : w.grownBy w' row := ⟨h.os, h.tape, h.output, h.size, h.block⟩

theorem aggSc : AggT Tryd.prog 24 1 := ⟨_, Tryd.underlying24, rfl, by kernel_rfl⟩
section
variable {P : Program} {w : World} {g t : Nat} {cs : List Value}
theorem bodyPost_cell1 {fn : Func} {R : Ending → World → Prop} {a : Act} {p ty : Nat} (hr : fn.results = #[.cell p ty]) (h : Blk w g t cs) (T : AggT P ty cs.length)
    (hp : a.tmps.getD p undef = .pointer (some ⟨g, 0, none⟩)) (hd : a.defers = []) (hR : R (.returned (.agg ⟨cs⟩)) w) : bodyPost P fn R .ret a w := by
  refine bodyPost_ret (v := .agg ⟨cs⟩) ?_ hd hR
  simp only [Array.getD_eq_getD_getElem?] at hp
  simp [results, hr, hp, asAddr, run_loadVar_blk h T]
theorem bodyPost_cell3 {fn : Func} {R : Ending → World → Prop} {a : Act} {p q r ty : Nat} {v v2 : Value} (hr : fn.results = #[.cell p ty, .tmp q, .tmp r]) (h : Blk w g t cs) (T : AggT P ty cs.length)
    (hp : a.tmps.getD p undef = .pointer (some ⟨g, 0, none⟩)) (hq : a.tmps.getD q undef = v) (hq2 : a.tmps.getD r undef = v2) (hd : a.defers = []) (hR : R (.returned (.tuple #[.agg ⟨cs⟩, v, v2])) w) : bodyPost P fn R .ret a w := by
  refine bodyPost_ret (v := .tuple #[.agg ⟨cs⟩, v, v2]) ?_ hd hR
  simp only [Array.getD_eq_getD_getElem?] at hp hq hq2
  simp [results, hr, hp, hq, hq2, asAddr, run_loadVar_blk h T]
end

namespace nmW
set_option maxHeartbeats 400000 in
theorem twinStrings_k (A : Option Addr) (c : Nat) (F : Nat → Prop) (l : List ByteArray) (hl : l.length ≤ 1048576) (w : World) (r : Rd w F (.slice A l.length c) (.sl l.length (l.flatMap strD))) :
    Calls Tryd.prog 10 #[.slice A l.length c] w fun e w' => ∃ v, e = .returned v ∧ OL w' w.heap.size (fun _ => False) 9 1 v l.length (l.flatMap strD) ∧ Below w.heap.size w w' := by
  have hl1 := strD_len l
  go_enter Tryd.func10, Tryd.ntmps10
  go_wp2_with (at_builtin
               refine wpList_app rfl (.tmp 4) (.tmp 5) _ rfl (m := l.length) (news := l.flatMap strD) elStr (OL.nil w w.heap.size (fun _ => False) 9 1) rfl rfl (Rd.srcq (PlainL.flatMap strD_pl l) r) hl1 (by omega) (by omega) (Nat.le_refl _) ?_
               intro v1 w1 hO1 hg1 ha1
               have hb1 : Below w.heap.size w w1 := (Below.refl _ _).grown hg1 (Nat.le_refl _) (by simp [Value.ownBlock]))
  go_ret
  exact ⟨_, rfl, by simpa using hO1, hb1⟩

/-- a schema's copy that is being made -/
def TC (w wr : World) (v u : Value) (k : Nat) (ds : List D) : Prop :=
  Below w.heap.size w wr ∧ Blk wr w.heap.size 24 [v] ∧ Blk wr (w.heap.size + 1) 24 [.slice none 0 0] ∧ Blk wr (w.heap.size + 1 + 1) 24 [u] ∧ OL wr (w.heap.size + 1 + 1 + 1) (fun b => w.heap.size + 1 + 1 + 1 ≤ b) 39 2 u k ds
theorem TC.stay {w wr w2 : World} {v u : Value} {k : Nat} {ds : List D} (h : TC w wr v u k ds) (hb : Below wr.heap.size wr w2) : TC w w2 v u k ds :=
  ⟨h.1.trans (hb.mono h.1.size), h.2.1.stay hb, h.2.2.1.stay hb, h.2.2.2.1.stay hb, h.2.2.2.2.stay hb⟩

set_option maxHeartbeats 800000 in
theorem twinSchema_k (A : Option Addr) (c : Nat) (F : Nat → Prop) (l : List Td) (hl : SzT l) (w : World) (hF : ∀ b, F b → b < w.heap.size) (r : Rd w F (.slice A l.length c) (.sl l.length (l.flatMap tdD))) :
    Calls Tryd.prog 4 #[.agg #[.slice A l.length c]] w fun e w' => ∃ v, e = .returned (.agg #[v]) ∧ OL w' w.heap.size (fun b => w.heap.size ≤ b) 39 2 v l.length (l.flatMap tdD) ∧ Below w.heap.size w w' := by
  have k1 := Lib.hid twinStrings_k
  obtain ⟨hl1, hl2⟩ := hl
  replace hl2 := Lib.hid hl2
  replace hF := Lib.hid hF
  replace r := Lib.hid r
  go_enter Tryd.func4, Tryd.ntmps4
  go_wp2
  go_loopw [4, 5] (fun x _ wr => ∃ (j : Nat) (u : Value), j ≤ l.length ∧ x = .int .i64 j ∧ TC w wr (.slice A l.length c) u j ((l.take j).flatMap tdD)) (fun x _ _ => l.length - (intOf x).toNat)
  case atStart =>
    refine ⟨0, .slice none 0 0, Nat.zero_le _, rfl, ?_, ?_, ?_, ?_, .nil _ _ _ _ _⟩
    · exact (((Below.refl _ _).alloc (Nat.le_refl _) _).alloc (by simp) _).alloc (by simp; omega) _
    · exact ((Blk.new _ _ _).alloc _).alloc _
    · exact (Blk.new' (by simp)).alloc _
    · exact Blk.new' (by simp)
  case round =>
    obtain ⟨j, u, hj, rfl, hT⟩ := hrel
    have z0 : wr.cell? ⟨w.heap.size, 0, none⟩ = some (.slice A l.length c) := hT.2.1.cell 0
    have o0 : wr.cell? ⟨w.heap.size + 1 + 1, 0, none⟩ = some u := hT.2.2.2.1.cell 0
    by_cases hlt : j < l.length
    · obtain ⟨t, ht⟩ := getx hlt
      obtain ⟨hs1, hs2, hs3⟩ := hl2.out t (List.mem_of_getElem? ht)
      obtain ⟨b, off, rfl, hFb, hv, hsl⟩ := r.out.rowv (m := 2) (fun _ => rfl) ht (by omega)
      have hfB := hF.out b hFb
      obtain ⟨A2, c2, a1, r2⟩ := hsl 1 _ _ rfl
      replace a1 : wr.cell? ⟨b, off + j * 2 + 1, none⟩ = some (.slice A2 t.attrs.length c2) := (hT.1.cell (p := ⟨b, off + j * 2 + 1, none⟩) hfB).trans a1
      have v0 : w.cell? ⟨b, off + j * 2, none⟩ = some (.string t.name) := hv 0 _ rfl
      have g0 : (0 : Int) ≤ (j : Int) := by omega
      have g1 : (j : Int) < l.length := by omega
      have r3 := r2.under hT.1 hF.out
      replace r2 := Lib.hid r2
      replace r3 := Lib.hid r3
      replace ht := Lib.hid ht
      replace hs3 := Lib.hid hs3
      have hT' := Lib.hid hT
      replace v0 := Lib.hid v0
      clear hv hsl hT
      go_upto_region 6 with (go_at_call 10; refine (k1.out _ _ _ _ hs2 _ r3.out).mono ?_; rintro e W ⟨v1, rfl, hO1, hW⟩; obtain ⟨B1, d1, rfl⟩ := hO1.form)
      have hTW := hT'.out.stay hW
      have hL : RdL W (fun b => w.heap.size + 1 + 1 + 1 ≤ b ∧ some b ≠ u.ownBlock) [.string t.name, .slice B1 t.attrs.length d1] (tdD t) := ⟨.v _ rfl, hO1.rd' (fun _ h _ => h.elim) (fun b he hB hlt => ⟨by have := hT'.out.2.2.2.1.lt; omega, fun hu => by have := (hT'.out.2.2.2.2.lt b hu.symm).2; omega⟩), trivial⟩
      have hfm : (l.take (j + 1)).flatMap tdD = (l.take j).flatMap tdD ++ tdD t := by rw [List.take_add_one, ht.out]; simp
      have q0 : W.cell? ⟨b, off + j * 2, none⟩ = some (.string t.name) := (hTW.1.cell (p := ⟨b, off + j * 2, none⟩) hfB).trans v0.out
      have z1 : W.cell? ⟨w.heap.size, 0, none⟩ = some (.slice (some ⟨b, off, none⟩) l.length c) := hTW.2.1.cell 0
      have o1 : W.cell? ⟨w.heap.size + 1 + 1, 0, none⟩ = some u := hTW.2.2.2.1.cell 0
      have hB := hTW.2.2.2.1.lt
      clear hO1 hW z0 o0 a1
      replace hTW := Lib.hid hTW
      replace hL := Lib.hid hL
      replace hfm := Lib.hid hfm
      have hne : ∀ q, q < w.heap.size + 1 + 1 + 1 → some q ≠ u.ownBlock := fun q hq he => by have := (hTW.out.2.2.2.2.lt q he.symm).1; omega
      replace hne := Lib.hid hne
      go_region_law ((refine step_app (by rfl) (.tmp 21) (.tmp 30) _ (by rfl) (m := 1) (news := tdD t) elTd (by exact (hTW.out.2.2.2.2.alloc _).drew) (by rfl) (by rfl) (by exact (Src.lit hL.out).drew) rfl (by omega) (by omega) (by simp; omega) ?_; intro v' w1 hO1 hg1 ha1; obtain ⟨B2, d2, rfl⟩ := hO1.form; have hg := undrew hg1; have t0 := (hTW.out.2.2.2.1.alloc _).grown hg (hne.out _ (by omega)); have t1 : w1.cell? ⟨w.heap.size + 1 + 1, 0, none⟩ = some u := t0.cell 0; have t2 : w1.frozen? ⟨w.heap.size + 1 + 1, 0, none⟩ = false := t0.frozen 0))
      all_goals
        have hT3 : TC w (w1.setCell ⟨w.heap.size + 1 + 1, 0, none⟩ (.slice B2 (j + 1) d2)) (.slice (some ⟨b, off, none⟩) l.length c) (.slice B2 (j + 1) d2) (j + 1) ((l.take (j + 1)).flatMap tdD) := by
          rw [hfm.out]
          have hrow : ∀ q, u.ownBlock = some q → w.heap.size ≤ q := fun q hq => by have := (hTW.out.2.2.2.2.lt q hq).1; omega
          refine ⟨((hTW.out.1.alloc hTW.out.1.size _).grown hg (by simp; omega) hrow).setCell (by simp; omega) _, ((hTW.out.2.1.alloc _).grown hg (hne.out _ (by omega))).far (by simp; omega) _, ((hTW.out.2.2.1.alloc _).grown hg (hne.out _ (by omega))).far (by simp) _, t0.set_ 0 _, hO1.setCell (fun h => ?_) (by simp) _⟩
          exact absurd (hO1.lt _ h).1 (by show ¬ (_ ≤ w.heap.size + 1 + 1); omega)
        go_wp2_with fail
        go_roundw
        case rel => exact ⟨j + 1, _, by omega, by go_num, hT3⟩
        case measure => simp [intOf]; omega
    · obtain rfl : j = l.length := by omega
      rw [List.take_length] at hT
      obtain ⟨h1, h2, h3, h4, h5⟩ := hT
      have hsz := h4.lt
      obtain ⟨U, cu, rfl⟩ := h5.form
      have p0 : wr.cell? ⟨w.heap.size + 1, 0, none⟩ = some (.slice none 0 0) := h3.cell 0
      have f0 : wr.frozen? ⟨w.heap.size + 1, 0, none⟩ = false := h3.frozen 0
      have e1 : Blk (wr.setCell ⟨w.heap.size + 1, 0, none⟩ (.slice U l.length cu)) (w.heap.size + 1) 24 [.slice U l.length cu] := h3.set_ 0 _
      have e2 : OL (wr.setCell ⟨w.heap.size + 1, 0, none⟩ (.slice U l.length cu)) w.heap.size (fun b => w.heap.size ≤ b) 39 2 (.slice U l.length cu) l.length (l.flatMap tdD) :=
        ((h5.setCell (p := ⟨w.heap.size + 1, 0, none⟩) (fun h => absurd (h5.lt _ h).1 (by show ¬ (_ ≤ w.heap.size + 1); omega)) (by show ¬ (_ ≤ w.heap.size + 1); omega) _).base (by omega)).mono fun b h => by omega
      have e3 := h1.setCell (p := ⟨w.heap.size + 1, 0, none⟩) (by simp) (.slice U l.length cu)
      replace e1 := Lib.hid e1
      replace e2 := Lib.hid e2
      replace e3 := Lib.hid e3
      clear h1 h2 h3 h4 h5
      go_wp2
      exact bodyPost_cell1 rfl e1.out aggSc rfl rfl ⟨_, rfl, e2.out, e3.out⟩
end nmW
end Go.Proofs.YtfnejelbacpheaaDoor
