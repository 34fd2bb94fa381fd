/- The document's answer for changed schemas: the table of a schema that has not been changed. -/
import Derived.Test.YtmadafejenjkcaaDoorV4
namespace Go.Proofs.YtmadafejenjkcaaDoor
open Go.RowKit Go.Deep
set_option linter.unusedVariables false

theorem fstF_len (l : List ByteArray) : (fstF l).length = l.length := by simp [fstF]
theorem fstK_len (S : List Td) : (fstK S).length = S.length := by simp [fstK]
theorem fstF_next {l : List ByteArray} {k : Nat} {a : ByteArray} (h : l[k]? = some a) : ((fstF l).take (k + 1)).flatMap fdD = ((fstF l).take k).flatMap fdD ++ fdD ⟨a, k, 0⟩ := by
  rw [List.take_add_one, fstF, List.getElem?_mapIdx, h]; simp
theorem fstK_next {S : List Td} {k : Nat} {t : Td} (h : S[k]? = some t) : ((fstK S).take (k + 1)).flatMap kdD = ((fstK S).take k).flatMap kdD ++ kdD ⟨t.name, k, fstF t.attrs⟩ := by
  rw [List.take_add_one, fstK, List.getElem?_mapIdx, h]; simp
theorem OL.now {w w' : World} {B e size n : Nat} {v : Value} {ds : List D} {F : Nat → Prop} (h : OL w B F e size v n ds) (hF : ∀ b, F b → b < w'.heap.size) : OL w B (fun b => b < w'.heap.size) e size v n ds := h.mono hF

/-- the box of a kind whose attributes are being put together -/
structure IB (wo wr : World) (T : Nat) (nm : ByteArray) (fr : Int) (u : Value) (E : Nat) (k : Nat) (ds : List D) : Prop where
  hb : Below wo.heap.size wo wr
  bx : Blk wr wo.heap.size T [.string nm, .int .i64 fr, u]
  ol : OL wr (wo.heap.size + 1) (fun _ => False) E 3 u k ds
theorem IB.stay {wo wr w2 : World} {T E k : Nat} {nm : ByteArray} {fr : Int} {u : Value} {ds : List D} (h : IB wo wr T nm fr u E k ds) (hb : Below wr.heap.size wr w2) : IB wo w2 T nm fr u E k ds :=
  ⟨h.hb.trans (hb.mono h.hb.size), h.bx.stay hb, h.ol.stay hb⟩
/-- one more: the row grew, the box is set -/
theorem IB.put {wo wr w1 : World} {T E k m : Nat} {nm : ByteArray} {fr : Int} {u v : Value} {ds ds' : List D} {row : Option Nat} (h : IB wo wr T nm fr u E k ds) (hg : wr.grownBy w1 row) (hr : ∀ q, row = some q → wo.heap.size + 1 ≤ q) (hO : OL w1 (wo.heap.size + 1) (fun _ => False) E 3 v m ds') :
    IB wo (w1.setCell ⟨wo.heap.size, 2, none⟩ v) T nm fr v E m ds' := by
  refine ⟨(h.hb.grown hg h.hb.size (fun q hq => by have := hr q hq; omega)).setCell (Nat.le_refl _) _, (h.bx.grown hg (fun e => by have := hr _ e.symm; omega)).set_ 2 v, hO.setCell (fun e => by have := (hO.lt _ e).1; simp at this; omega) (fun h => h) _⟩

/-- a schema handed in by value and its box -/
structure SX (w wr : World) (vs : Value) : Prop where
  hb : Below w.heap.size w wr
  bx : Blk wr w.heap.size 24 [vs]
theorem SX.grown {w wr w1 : World} {vs : Value} {row : Option Nat} (h : SX w wr vs) (hg : wr.grownBy w1 row) (hr : ∀ q, row = some q → w.heap.size < q) : SX w w1 vs :=
  ⟨h.hb.grown hg h.hb.size (fun q hq => by have := hr q hq; omega), h.bx.grown hg (fun e => by have := hr _ e.symm; omega)⟩
theorem SX.stay {w wr w2 : World} {vs : Value} (h : SX w wr vs) (hb : Below wr.heap.size wr w2) : SX w w2 vs := ⟨h.hb.trans (hb.mono h.hb.size), h.bx.stay hb⟩

namespace evW
open nmW
set_option maxRecDepth 100000 in
set_option maxHeartbeats 2000000 in
theorem first_k (A : Option Addr) (c : Nat) (F : Nat → Prop) (S : List Td) (hS : SzT S) (w : World) (hF : ∀ b, F b → b < w.heap.size) (r : Rd w F (.slice A S.length c) (.sl S.length (S.flatMap tdD))) :
    Calls Tryd.prog 39 #[.agg #[.slice A S.length c]] w fun e w' => ∃ v, e = .returned v ∧ OL w' w.heap.size (fun b => b < w'.heap.size) 75 3 v S.length ((fstK S).flatMap kdD) ∧ Below w.heap.size w w' := by
  obtain ⟨hl1, hl2⟩ := hS
  replace hl2 := Lib.hid hl2
  replace hF := Lib.hid hF
  replace r := Lib.hid r
  go_enter Tryd.func39, Tryd.ntmps39
  go_wp2
  go_loopw [3, 4] (fun v x wr => ∃ (j : Nat) (s3 : Value), s3 = v ∧ j ≤ S.length ∧ x = .int .i64 j ∧ OL wr (w.heap.size + 1) (fun b => b < wr.heap.size) 75 3 s3 j (((fstK S).take j).flatMap kdD) ∧ SX w wr (.slice A S.length c)) (fun _ x _ => S.length - (intOf x).toNat)
  case atStart => exact ⟨0, _, rfl, Nat.zero_le _, rfl, .nil _ _ _ _ _, (Below.refl _ _).alloc (Nat.le_refl _) _, Blk.new _ _ _⟩
  case round =>
    obtain ⟨j, s3, rfl, hj, rfl, hO, hX⟩ := hrel
    have z0 : wr.cell? ⟨w.heap.size, 0, none⟩ = some (.slice A S.length c) := hX.bx.cell 0
    by_cases hlt : j < S.length
    · obtain ⟨t, ht⟩ := getx hlt
      obtain ⟨hs1, hs2, hs3⟩ := hl2.out t (List.mem_of_getElem? ht)
      obtain ⟨b, off, rfl, hFb, hv, hsl⟩ := r.out.rowv (m := 2) (fun _ => rfl) ht (by omega)
      have hfB := hF.out b hFb
      obtain ⟨A2, c2, a1, r2⟩ := hsl 1 _ _ rfl
      have kc : ∀ W, SX w W (.slice (some ⟨b, off, none⟩) S.length c) → W.cell? ⟨b, off + j * 2 + 1, none⟩ = some (.slice A2 t.attrs.length c2) ∧ W.cell? ⟨w.heap.size, 0, none⟩ = some (.slice (some ⟨b, off, none⟩) S.length c) ∧ Rd W F (.slice A2 t.attrs.length c2) (.sl t.attrs.length (t.attrs.flatMap strD)) := fun W hW =>
        ⟨(hW.hb.cell (p := ⟨b, off + j * 2 + 1, none⟩) hfB).trans a1, hW.bx.cell 0, r2.under hW.hb hF.out⟩
      have v0 : wr.cell? ⟨b, off + j * 2, none⟩ = some (.string t.name) := (hX.hb.cell (p := ⟨b, off + j * 2, none⟩) hfB).trans (hv 0 _ rfl)
      have g0 : (0 : Int) ≤ (j : Int) := by omega
      have g1 : (j : Int) < S.length := by omega
      have hfm := fstK_next ht
      obtain ⟨wo, hwo⟩ : ∃ wo : World, wo = wr := ⟨_, rfl⟩
      subst hwo
      have hw0 := hX.bx.lt
      replace kc := Lib.hid kc
      replace hfm := Lib.hid hfm
      replace hO := Lib.hid hO
      replace hX := Lib.hid hX
      clear hv hsl r2 a1 ht
      go_wp2
      go_loopw [6] (fun y wr => ∃ (k : Nat) (u : Value), k ≤ t.attrs.length ∧ y = .int .i64 k ∧ IB wo wr 75 t.name j u 77 k (((fstF t.attrs).take k).flatMap fdD)) (fun y _ => t.attrs.length - (intOf y).toNat)
      case atStart => exact ⟨0, .slice none 0 0, Nat.zero_le _, rfl, (Below.refl _ _).alloc (Nat.le_refl _) _, Blk.new _ _ _, .nil _ _ _ _ _⟩
      case round =>
        obtain ⟨k, u, hk, rfl, hI⟩ := hrel
        have hXr := hX.out.stay hI.hb
        obtain ⟨a1, z1, r3⟩ := kc.out wr hXr
        have i2 : wr.cell? ⟨wo.heap.size, 2, none⟩ = some u := hI.bx.cell 2
        clear z0 v0
        by_cases hlk : k < t.attrs.length
        · obtain ⟨a, ha⟩ := getx hlk
          obtain ⟨b2, off2, rfl, hFb2, ha2⟩ := r3.at_ ha
          have q0 : wr.cell? ⟨b2, off2 + k, none⟩ = some (.string a) := ha2
          have g2 : (0 : Int) ≤ (k : Int) := by omega
          have g3 : (k : Int) < t.attrs.length := by omega
          have hfk := fstF_next ha
          have hz := hI.bx.lt
          replace hfk := Lib.hid hfk
          have hI' := Lib.hid hI
          clear ha2 r3 ha hXr hI
          go_upto_region 9 with fail
          go_region_law ((refine step_app (by rfl) (.tmp 34) (.tmp 46) _ (by rfl) (m := 1) (news := fdD ⟨a, k, 0⟩) elFd (by exact (hI'.out.ol.alloc (.cells ⟨fdV ⟨a, k, 0⟩⟩ 77)).drew) (by rfl) (by rfl) (by exact (Src.lit (fdD_rd wr _ ⟨a, k, 0⟩)).drew) rfl (by omega) (by omega) (by simp; omega) ?_; intro v' w1 hO1 hg1 ha1; obtain ⟨B3, d3, rfl⟩ := hO1.form; have hg := undrew hg1; have hB := hI'.out.stay ((Below.refl _ _).alloc (Nat.le_refl _) (.cells ⟨fdV ⟨a, k, 0⟩⟩ 77)); have t0 := hB.bx.grown hg (fun e => by have := (hI'.out.ol.lt _ e.symm).1; omega); have t1 : w1.cell? ⟨wo.heap.size, 2, none⟩ = some u := t0.cell 2; have t2 : w1.frozen? ⟨wo.heap.size, 2, none⟩ = false := t0.frozen 2))
          all_goals
            have hI3 := hB.put hg (fun q hq => (hI'.out.ol.lt q hq).1) hO1
            rw [← hfk.out] at hI3
            go_wp2_with fail
            go_roundw
            case rel => exact ⟨k + 1, _, by omega, by go_num, hI3⟩
            case measure => simp [intOf]; omega
        · have hkn : k = t.attrs.length := by omega
          subst hkn
          have htk : (fstF t.attrs).take t.attrs.length = fstF t.attrs := List.take_of_length_le (by simp [fstF])
          rw [htk] at hI
          obtain ⟨U, cu, rfl⟩ := hI.ol.form
          have i0 : wr.cell? ⟨wo.heap.size, 0, none⟩ = some (.string t.name) := hI.bx.cell 0
          have i1 : wr.cell? ⟨wo.heap.size, 1, none⟩ = some (.int .i64 j) := hI.bx.cell 1
          have hz := hI.bx.lt
          have hO2 := (hO.out.stay hI.hb).mono (G := fun b => b < wr.heap.size) (fun b h => by omega)
          have hlow : ∀ q, s3.ownBlock = some q → q < wo.heap.size := fun q hq => (hO.out.lt q hq).2
          have hRL : RdL wr (fun b => b < wr.heap.size ∧ some b ≠ s3.ownBlock) [.string t.name, .int .i64 j, .slice U t.attrs.length cu] (kdD ⟨t.name, j, fstF t.attrs⟩) := by
            refine ⟨.v _ rfl, .v _ rfl, ?_, trivial⟩
            show Rd _ _ _ (.sl (fstF t.attrs).length _)
            rw [fstF_len]
            exact hI.ol.rd' (fun _ h _ => h.elim) (fun b hb h1 h2 => ⟨h2, fun e => by have := hlow b e.symm; omega⟩)
          replace hRL := Lib.hid hRL
          have hI' := Lib.hid hI
          clear hI r3 htk
          go_wp2_with (at_builtin; refine wpList_app rfl (.tmp 49) (.tmp 51) _ rfl (m := 1) (news := kdD ⟨t.name, j, fstF t.attrs⟩) elKd (hO2.alloc (.cells ⟨[.string t.name, .int .i64 j, .slice U t.attrs.length cu]⟩ 75)) rfl rfl (Src.lit hRL.out) rfl (by omega) (by omega) (by simp; omega) ?_; intro v' w1 hO1 hg1 ha1)
          go_roundw
          case rel =>
            refine ⟨j + 1, _, rfl, by omega, by go_num, ?_, ((hXr.stay ((Below.refl _ _).alloc (Nat.le_refl _) _)).grown hg1 (fun q hq => (hO2.lt q hq).1))⟩
            rw [hfm.out]
            exact hO1.mono fun b h => by have := hg1.size; simp at this; omega
          case measure => simp [intOf]; omega
    · have hjn : j = S.length := by omega
      subst hjn
      have htk : (fstK S).take S.length = fstK S := List.take_of_length_le (by simp [fstK])
      rw [htk] at hO
      go_wp2
      go_ret
      exact ⟨_, rfl, hO.base (by omega), hX.hb⟩
end evW
end Go.Proofs.YtmadafejenjkcaaDoor
