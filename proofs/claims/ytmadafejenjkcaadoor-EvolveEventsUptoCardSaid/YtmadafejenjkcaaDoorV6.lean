/- The document's answer for changed schemas: the schema of a table. -/
import Derived.Test.YtmadafejenjkcaaDoorV5
namespace Go.Proofs.YtmadafejenjkcaaDoor
open Go.RowKit Go.Deep
set_option linter.unusedVariables false

/-- the box of a type whose attributes are being put together -/
structure IC (wo wr : World) (T : Nat) (nm : ByteArray) (u : Value) (E : Nat) (k : Nat) (ds : List D) : Prop where
  hb : Below wo.heap.size wo wr
  bx : Blk wr wo.heap.size T [.string nm, u]
  ol : OL wr (wo.heap.size + 1) (fun _ => False) E 1 u k ds
theorem IC.stay {wo wr w2 : World} {T E k : Nat} {nm : ByteArray} {u : Value} {ds : List D} (h : IC wo wr T nm u E k ds) (hb : Below wr.heap.size wr w2) : IC wo w2 T nm u E k ds :=
  ⟨h.hb.trans (hb.mono h.hb.size), h.bx.stay hb, h.ol.stay hb⟩
theorem IC.put {wo wr w1 : World} {T E k m : Nat} {nm : ByteArray} {u v : Value} {ds ds' : List D} {row : Option Nat} (h : IC wo wr T nm u E k ds) (hg : wr.grownBy w1 row) (hr : ∀ q, row = some q → wo.heap.size + 1 ≤ q) (hO : OL w1 (wo.heap.size + 1) (fun _ => False) E 1 v m ds') :
    IC wo (w1.setCell ⟨wo.heap.size, 1, none⟩ v) T nm v E m ds' := by
  refine ⟨(h.hb.grown hg h.hb.size (fun q hq => by have := hr q hq; omega)).setCell (Nat.le_refl _) _, (h.bx.grown hg (fun e => by have := hr _ e.symm; omega)).set_ 1 v, hO.setCell (fun e => by have := (hO.lt _ e).1; simp at this; omega) (fun h => h) _⟩

/-- a schema that is being put together: the box of the result, the box of the schema -/
structure PB (w wr : World) (u : Value) (j : Nat) (ds : List D) : Prop where
  hb : Below w.heap.size w wr
  b0 : Blk wr w.heap.size 24 [.slice none 0 0]
  b1 : Blk wr (w.heap.size + 1) 24 [u]
  ol : OL wr (w.heap.size + 1 + 1) (fun b => w.heap.size + 1 < b ∧ b < wr.heap.size) 34 2 u j ds
theorem PB.stay {w wr w2 : World} {u : Value} {j : Nat} {ds : List D} (h : PB w wr u j ds) (hb : Below wr.heap.size wr w2) : PB w w2 u j ds :=
  ⟨h.hb.trans (hb.mono h.hb.size), h.b0.stay hb, h.b1.stay hb, (h.ol.stay hb).mono fun b h => ⟨h.1, by have := hb.size; omega⟩⟩
theorem PB.put {w wr w1 : World} {u v : Value} {j m : Nat} {ds ds' : List D} {row : Option Nat} (h : PB w wr u j ds) (hg : wr.grownBy w1 row) (hr : ∀ q, row = some q → w.heap.size + 1 < q) (hO : OL w1 (w.heap.size + 1 + 1) (fun b => w.heap.size + 1 < b ∧ b < w1.heap.size) 34 2 v m ds') :
    PB w (w1.setCell ⟨w.heap.size + 1, 0, none⟩ v) v m ds' := by
  have hs : (w1.setCell ⟨w.heap.size + 1, 0, none⟩ v).heap.size = w1.heap.size := by simp
  refine ⟨(h.hb.grown hg h.hb.size (fun q hq => by have := hr q hq; omega)).setCell (by show _ ≤ w.heap.size + 1; omega) _, (h.b0.grown hg (fun e => by have := hr _ e.symm; omega)).far (by show w.heap.size ≠ w.heap.size + 1; omega) _, (h.b1.grown hg (fun e => by have := hr _ e.symm; omega)).set_ 0 v, ?_⟩
  rw [hs]
  exact hO.setCell (fun e => by have := (hO.lt _ e).1; simp at this; omega) (by show ¬ (w.heap.size + 1 < w.heap.size + 1 ∧ _); omega) _

theorem tdK_next {l : List Kd} {k : Nat} {t : Kd} (h : l[k]? = some t) : ((l.map tdOf).take (k + 1)).flatMap tdD = ((l.map tdOf).take k).flatMap tdD ++ tdD (tdOf t) := by
  rw [List.take_add_one, List.getElem?_map, h]; simp
theorem fdN_next {l : List Fd} {k : Nat} {t : Fd} (h : l[k]? = some t) : ((l.map (·.nm)).take (k + 1)).flatMap strD = ((l.map (·.nm)).take k).flatMap strD ++ strD t.nm := by
  rw [List.take_add_one, List.getElem?_map, h]; simp
/-- the answer: a schema of new memory -/
def ScPost (T : List Td) (w : World) (e : Ending) (w' : World) : Prop := ∃ v, e = .returned (.agg #[v]) ∧ OL w' w.heap.size (fun b => w.heap.size ≤ b ∧ b < w'.heap.size) 34 2 v T.length (T.flatMap tdD) ∧ Below w.heap.size w w'

/-- sizes of a table -/
def SzK (l : List Kd) : Prop := l.length ≤ 1048577 ∧ ∀ k ∈ l, k.fs.length ≤ 1048577

namespace evW
open nmW
set_option maxRecDepth 100000 in
set_option maxHeartbeats 2000000 in
theorem plain_k (A : Option Addr) (c : Nat) (F : Nat → Prop) (l : List Kd) (hS : SzK l) (w : World) (hF : ∀ b, F b → b < w.heap.size) (r : Rd w F (.slice A l.length c) (.sl l.length (l.flatMap kdD))) :
    Calls Tryd.prog 23 #[.slice A l.length c] w (ScPost (l.map tdOf) w) := by
  obtain ⟨hl1, hl2⟩ := hS
  replace hl2 := Lib.hid hl2
  replace hF := Lib.hid hF
  replace r := Lib.hid r
  go_enter Tryd.func23, Tryd.ntmps23
  go_wp2
  go_loopw [4] (fun x wr => ∃ (j : Nat) (u : Value), j ≤ l.length ∧ x = .int .i64 j ∧ PB w wr u j (((l.map tdOf).take j).flatMap tdD)) (fun x _ => l.length - (intOf x).toNat)
  case atStart =>
    refine ⟨0, .slice none 0 0, Nat.zero_le _, rfl, ?_, ?_, ?_, .nil _ _ _ _ _⟩
    · exact ((Below.refl _ _).alloc (Nat.le_refl _) _).alloc (by simp) _
    · exact (Blk.new _ _ _).alloc _
    · exact Blk.new' (by simp)
  case round =>
    obtain ⟨j, s3, hj, rfl, hP⟩ := hrel
    by_cases hlt : j < l.length
    · obtain ⟨t, ht⟩ := getx hlt
      have hs2 := hl2.out t (List.mem_of_getElem? ht)
      obtain ⟨b, off, rfl, hFb, hv, hsl⟩ := r.out.rowv (m := 3) (fun _ => rfl) ht (by omega)
      have hfB := hF.out b hFb
      obtain ⟨A2, c2, a1, r2⟩ := hsl 2 _ _ rfl
      have kc : ∀ W, Below w.heap.size w W → W.cell? ⟨b, off + j * 3 + 2, none⟩ = some (.slice A2 t.fs.length c2) ∧ Rd W F (.slice A2 t.fs.length c2) (.sl t.fs.length (t.fs.flatMap fdD)) := fun W hW =>
        ⟨(hW.cell (p := ⟨b, off + j * 3 + 2, none⟩) hfB).trans a1, r2.under hW hF.out⟩
      have v0 : wr.cell? ⟨b, off + j * 3, none⟩ = some (.string t.nm) := (hP.hb.cell (p := ⟨b, off + j * 3, none⟩) hfB).trans (hv 0 _ rfl)
      have g0 : (0 : Int) ≤ (j : Int) := by omega
      have g1 : (j : Int) < l.length := by omega
      have hfm := tdK_next ht
      obtain ⟨wo, hwo⟩ : ∃ wo : World, wo = wr := ⟨_, rfl⟩
      subst hwo
      have hw0 := hP.b1.lt
      replace kc := Lib.hid kc
      replace hfm := Lib.hid hfm
      replace hP := Lib.hid hP
      clear hv hsl r2 a1 ht
      go_wp2
      go_loopw [6] (fun y wr => ∃ (k : Nat) (u : Value), k ≤ t.fs.length ∧ y = .int .i64 k ∧ IC wo wr 34 t.nm u 9 k (((t.fs.map (·.nm)).take k).flatMap strD)) (fun y _ => t.fs.length - (intOf y).toNat)
      case atStart => exact ⟨0, .slice none 0 0, Nat.zero_le _, rfl, (Below.refl _ _).alloc (Nat.le_refl _) _, Blk.new _ _ _, .nil _ _ _ _ _⟩
      case round =>
        obtain ⟨k, u, hk, rfl, hI⟩ := hrel
        have hPr := hP.out.stay hI.hb
        obtain ⟨a1, r3⟩ := kc.out wr hPr.hb
        have i2 : wr.cell? ⟨wo.heap.size, 1, none⟩ = some u := hI.bx.cell 1
        clear v0
        by_cases hlk : k < t.fs.length
        · obtain ⟨a, ha⟩ := getx hlk
          obtain ⟨b2, off2, rfl, hFb2, ha2, _⟩ := r3.rowv (m := 3) (fun _ => rfl) ha (by omega)
          have q0 : wr.cell? ⟨b2, off2 + k * 3, none⟩ = some (.string a.nm) := ha2 0 _ rfl
          have g2 : (0 : Int) ≤ (k : Int) := by omega
          have g3 : (k : Int) < t.fs.length := by omega
          have hfk := fdN_next ha
          have hz := hI.bx.lt
          replace hfk := Lib.hid hfk
          have hI' := Lib.hid hI
          clear ha2 r3 ha hPr hI
          go_upto_region 9 with fail
          go_region_law ((refine step_app (by rfl) (.tmp 30) (.tmp 40) _ (by rfl) (m := 1) (news := strD a.nm) elStr (by exact (hI'.out.ol.alloc (.cells ⟨[.string a.nm]⟩ 9)).drew) (by rfl) (by rfl) (by exact (Src.lit (show RdL wr _ [.string a.nm] (strD a.nm) from ⟨.v _ rfl, trivial⟩)).drew) rfl (by omega) (by omega) (by simp; omega) ?_; intro v' w1 hO1 hg1 ha1; obtain ⟨B3, d3, rfl⟩ := hO1.form; have hg := undrew hg1; have hB := hI'.out.stay ((Below.refl _ _).alloc (Nat.le_refl _) (.cells ⟨[.string a.nm]⟩ 9)); have t0 := hB.bx.grown hg (fun e => by have := (hI'.out.ol.lt _ e.symm).1; omega); have t1 : w1.cell? ⟨wo.heap.size, 1, none⟩ = some u := t0.cell 1; have t2 : w1.frozen? ⟨wo.heap.size, 1, none⟩ = false := t0.frozen 1))
          all_goals
            have hI3 := hB.put hg (fun q hq => (hI'.out.ol.lt q hq).1) hO1
            rw [← hfk.out] at hI3
            go_wp2_with fail
            go_roundw
            case rel => exact ⟨k + 1, _, by omega, by go_num, hI3⟩
            case measure => simp [intOf]; omega
        · have hkn : k = t.fs.length := by omega
          subst hkn
          have htk : (t.fs.map (·.nm)).take t.fs.length = t.fs.map (·.nm) := List.take_of_length_le (by simp)
          rw [htk] at hI
          obtain ⟨U, cu, rfl⟩ := hI.ol.form
          have i0 : wr.cell? ⟨wo.heap.size, 0, none⟩ = some (.string t.nm) := hI.bx.cell 0
          have hz := hI.bx.lt
          have hlow : ∀ q, s3.ownBlock = some q → w.heap.size + 1 < q ∧ q < wo.heap.size := fun q hq => hP.out.ol.lt q hq
          have hRL : RdL wr (fun b => (w.heap.size + 1 < b ∧ b < wr.heap.size) ∧ some b ≠ s3.ownBlock) [.string t.nm, .slice U t.fs.length cu] (tdD (tdOf t)) := by
            refine ⟨.v _ rfl, ?_, trivial⟩
            show Rd _ _ _ (.sl (t.fs.map (·.nm)).length _)
            rw [List.length_map]
            exact hI.ol.rd' (fun _ h _ => h.elim) (fun b hb h1 h2 => ⟨⟨by omega, h2⟩, fun e => by have := hlow b e.symm; omega⟩)
          have z1 : wr.cell? ⟨w.heap.size + 1, 0, none⟩ = some s3 := hPr.b1.cell 0
          replace hRL := Lib.hid hRL
          have hI' := Lib.hid hI
          replace hPr := Lib.hid hPr
          clear hI r3 htk
          go_wp2_with (at_builtin; refine wpList_app rfl (.tmp 44) (.tmp 46) _ rfl (m := 1) (news := tdD (tdOf t)) elTd (hPr.out.ol.alloc (.cells ⟨[.string t.nm, .slice U t.fs.length cu]⟩ 34)) rfl rfl (Src.lit hRL.out) rfl (by omega) (by omega) (by simp; omega) ?_; intro v' w1 hO1 hg1 ha1; obtain ⟨B3, d3, rfl⟩ := hO1.form; have hB := hPr.out.stay ((Below.refl _ _).alloc (Nat.le_refl _) (.cells ⟨[.string t.nm, .slice U t.fs.length cu]⟩ 34)); have t0 := hB.b1.grown hg1 (fun e => by have := hlow _ e.symm; omega); have t1 : w1.cell? ⟨w.heap.size + 1, 0, none⟩ = some s3 := t0.cell 0; have t2 : w1.frozen? ⟨w.heap.size + 1, 0, none⟩ = false := t0.frozen 0)
          have hP3 := hB.put hg1 (fun q hq => (hlow q hq).1) (hO1.mono fun b h => by have := hg1.size; simp at this; omega)
          rw [← hfm.out] at hP3
          go_roundw
          case rel => exact ⟨j + 1, _, by omega, by go_num, hP3⟩
          case measure => simp [intOf]; omega
    · have hjn : j = l.length := by omega
      subst hjn
      have htk : (l.map tdOf).take l.length = l.map tdOf := List.take_of_length_le (by simp)
      rw [htk] at hP
      obtain ⟨U, cu, rfl⟩ := hP.ol.form
      have z1 : wr.cell? ⟨w.heap.size + 1, 0, none⟩ = some (.slice U l.length cu) := hP.b1.cell 0
      have p0 : wr.cell? ⟨w.heap.size, 0, none⟩ = some (.slice none 0 0) := hP.b0.cell 0
      have f0 : wr.frozen? ⟨w.heap.size, 0, none⟩ = false := hP.b0.frozen 0
      have e1 : Blk (wr.setCell ⟨w.heap.size, 0, none⟩ (.slice U l.length cu)) w.heap.size 24 [.slice U l.length cu] := hP.b0.set_ 0 _
      have e2 : OL (wr.setCell ⟨w.heap.size, 0, none⟩ (.slice U l.length cu)) w.heap.size (fun b => w.heap.size ≤ b ∧ b < (wr.setCell ⟨w.heap.size, 0, none⟩ (.slice U l.length cu)).heap.size) 34 2 (.slice U l.length cu) (l.map tdOf).length ((l.map tdOf).flatMap tdD) := by
        rw [List.length_map, show (wr.setCell ⟨w.heap.size, 0, none⟩ (.slice U l.length cu)).heap.size = wr.heap.size by simp]
        exact ((hP.ol.setCell (p := ⟨w.heap.size, 0, none⟩) (fun e => by have := (hP.ol.lt _ e).1; simp at this; omega) (by show ¬ (_ < w.heap.size ∧ _); omega) _).base (by omega)).mono fun b h => ⟨by omega, h.2⟩
      have e3 := hP.hb.setCell (p := ⟨w.heap.size, 0, none⟩) (by simp) (.slice U l.length cu)
      replace e1 := Lib.hid e1
      replace e2 := Lib.hid e2
      replace e3 := Lib.hid e3
      clear hP htk
      go_wp2
      exact bodyPost_cell1 rfl e1.out aggSc rfl rfl ⟨_, rfl, e2.out, e3.out⟩
end evW
end Go.Proofs.YtmadafejenjkcaaDoor
