/- The program's event: the search by the first number, the attributes. -/
import Derived.Test.YtmadafejenjkcaaDoorE3
import Derived.Test.YtmadafejenjkcaaDoorW5
namespace Go.Proofs.YtmadafejenjkcaaDoor
open Go.RowKit Go.Deep
set_option linter.unusedVariables false
/-- an event and whether it is one -/
def XPost (E : Ev × Bool) (w : World) (x : Ending) (w' : World) : Prop := x = .returned (.tuple #[.agg ⟨evV E.1⟩, .bool E.2]) ∧ Below w.heap.size w w'
theorem XPost.mk' {E : Ev × Bool} {w w' : World} {cs : List Value} {b : Bool} (hc : cs = evV E.1) (hb : b = E.2) (h : Below w.heap.size w w') : XPost E w (.returned (.tuple #[.agg ⟨cs⟩, .bool b])) w' := by
  subst hc; subst hb; exact ⟨rfl, h⟩
/-- the boxes: the event that came in, the result, the event that is being put together -/
structure ES (w wr : World) (g7 : Nat) (e : Ev) (cs : List Value) : Prop where
  hb : Below w.heap.size w wr
  b3 : Blk wr w.heap.size 41 (evV e)
  b4 : Blk wr (w.heap.size + 1) 41 (evV zeroE)
  b7 : Blk wr g7 41 cs
  lt : w.heap.size + 1 < g7
theorem ES.stay {w wr w2 : World} {g7 : Nat} {e : Ev} {cs : List Value} (h : ES w wr g7 e cs) (hb : Below wr.heap.size wr w2) : ES w w2 g7 e cs :=
  ⟨h.hb.trans (hb.mono h.hb.size), h.b3.stay hb, h.b4.stay hb, h.b7.stay hb, h.lt⟩
theorem ES.put {w wr : World} {g7 : Nat} {e : Ev} {cs : List Value} (h : ES w wr g7 e cs) (i : Nat) (v : Value) : ES w (wr.setCell ⟨g7, i, none⟩ v) g7 e (cs.set i v) :=
  ⟨h.hb.setCell (by have := h.lt; show _ ≤ g7; omega) _, h.b3.far (by have := h.lt; show _ ≠ g7; omega) _, h.b4.far (by have := h.lt; show _ ≠ g7; omega) _, h.b7.set_ i v, h.lt⟩
namespace evW
open nmW
set_option maxHeartbeats 400000 in
theorem eventf_k (nm : ByteArray) (fr x : Int) (v : Value) (q : Nat) (W : World) (hq : W.cell? ⟨q, 2, none⟩ = some (.int .i64 x)) :
    Calls Tryd.prog 42 #[.agg #[.string nm, .int .i64 fr, v], .pointer (some ⟨q, 0, none⟩)] W fun e w' => e = .returned (.bool (fr == x)) ∧ Below W.heap.size W w' := by
  have hb := Lib.hid ((Below.refl W.heap.size W).alloc (Nat.le_refl _) (.cells ⟨[.string nm, .int .i64 fr, v]⟩ 111))
  have hq2 := World.block_lt_of_cell? W _ hq
  have hne : q ≠ W.heap.size := by simp at hq2; omega
  go_enter Tryd.func42, Tryd.ntmps42
  go_wp2
  go_ret
  exact ⟨rfl, hb.out⟩
set_option maxHeartbeats 800000 in
theorem idxE_k (A : Option Addr) (c : Nat) (F : Nat → Prop) (l : List (Kd × Value)) (y : Int) (q : Nat) (hl : l.length ≤ 1048576) (w : World) (hF : ∀ b, F b → b < w.heap.size) (r : Rd w F (.slice A l.length c) (.sl l.length (l.flatMap kcD))) (hq : w.cell? ⟨q, 2, none⟩ = some (.int .i64 y)) :
    Calls Tryd.prog 41 #[.slice A l.length c, .func (.func 42) #[] #[.pointer (some ⟨q, 0, none⟩)]] w fun e w' => e = .returned (.int .i64 (optI (frAt (l.map (·.1)) y))) ∧ Below w.heap.size w w' := by
  generalize hc : frAt (l.map (·.1)) y = b
  have hql : q < w.heap.size := World.block_lt_of_cell? w _ hq
  have hk : ∀ W, Below w.heap.size w W → ∀ nm fr v, Calls Tryd.prog 42 #[.agg #[.string nm, .int .i64 fr, v], .pointer (some ⟨q, 0, none⟩)] W fun e w' => e = .returned (.bool (fr == y)) ∧ Below W.heap.size W w' := fun W hW nm fr v =>
    eventf_k nm fr y v q W ((hW.cell (p := ⟨q, 2, none⟩) hql).trans hq)
  replace r := Lib.hid r
  replace hc := Lib.hid hc
  replace hk := Lib.hid hk
  replace hF := Lib.hid hF
  clear hq
  go_enter Tryd.func41, Tryd.ntmps41
  go_wp2
  go_loopw [5, 8] (fun _ i wr => ∃ j : Nat, j ≤ l.length ∧ i = .int .i64 j ∧ Below w.heap.size w wr ∧ (∀ (i : Nat) a, (l.map (·.1))[i]? = some a → i < j → a.fr ≠ y)) (fun _ i _ => l.length - (intOf i).toNat)
  case atStart => exact ⟨0, Nat.zero_le _, rfl, Below.refl _ _, fun i a h h3 => by omega⟩
  case round =>
    obtain ⟨j, hj, rfl, hB, hp⟩ := hrel
    replace hp := Lib.hid hp
    by_cases hlt : j < l.length
    · obtain ⟨x, hx⟩ := getx hlt
      obtain ⟨g, off, rfl, _, ha, _⟩ := (r.out.under hB hF.out).rowv (m := 3) (fun _ => rfl) hx (by omega)
      have a0 : wr.cell? ⟨g, off + j * 3, none⟩ = some (.string x.1.nm) := ha 0 _ rfl
      have a1 : wr.cell? ⟨g, off + j * 3 + 1, none⟩ = some (.int .i64 x.1.fr) := ha 1 _ rfl
      have a2 : wr.cell? ⟨g, off + j * 3 + 2, none⟩ = some x.2 := ha 2 _ rfl
      have g0 : (0 : Int) ≤ (j : Int) := by omega
      have g1 : (j : Int) < l.length := by omega
      have hx2 : (l.map (·.1))[j]? = some x.1 := by rw [List.getElem?_map, hx]; rfl
      have hk' := Lib.hid (hk.out wr hB x.1.nm x.1.fr x.2)
      replace hx2 := Lib.hid hx2
      clear ha hx
      by_cases hu : x.1.fr = y
      · have hu' : (x.1.fr == y) = true := by simpa using hu
        obtain rfl : b = some j := by rw [← hc.out]; exact frAt_some hx2.out hu hp.out
        replace hu := Lib.hid hu
        go_wp2_with (go_at_call 42; refine hk'.out.mono ?_; rintro e w' ⟨rfl, hB1⟩)
        go_ret
        exact ⟨rfl, hB.trans (hB1.mono hB.size)⟩
      · have hu' : (x.1.fr == y) = false := by simpa using hu
        replace hu := Lib.hid hu
        go_wp2_with (go_at_call 42; refine hk'.out.mono ?_; rintro e w' ⟨rfl, hB1⟩)
        go_roundw
        case rel =>
          refine ⟨j + 1, by omega, by go_num, hB.trans (hB1.mono hB.size), fun i a h h3 => ?_⟩
          by_cases hij : i = j
          · subst hij
            obtain rfl : x.1 = a := by have := hx2.out; rw [h] at this; exact (Option.some.inj this).symm
            exact hu.out
          · exact hp.out i a h (by omega)
        case measure => simp [intOf]; omega
    · have g1 : ¬ (j : Int) < l.length := by omega
      obtain rfl : b = none := by
        rw [← hc.out]
        exact frAt_none fun i a h => hp.out i a h (by have := (List.getElem?_eq_some_iff.1 h).1; simp at this; omega)
      go_wp2
      go_ret
      exact ⟨rfl, hB⟩
end evW
end Go.Proofs.YtmadafejenjkcaaDoor
/- The program's event: what it answers. -/
namespace Go.Proofs.YtmadafejenjkcaaDoor
open Go.RowKit Go.Deep
set_option linter.unusedVariables false
namespace evW
open nmW
set_option maxRecDepth 100000 in
set_option maxHeartbeats 4000000 in
theorem event_k {w : World} {B g nl : Nat} {vk vl : Value} {by_ : Int} {l : List (Kd × Value)} (h : DX w B g vk vl by_ nl l) (hm : SmK (l.map (·.1))) (hfr : FrOk (l.map (·.1))) (e : Ev) :
    Calls Tryd.prog 26 #[.pointer (some ⟨g, 0, none⟩), .agg #[.int .i64 e.ts, .int .u64 e.id, .int .i64 e.typ, .int .i64 e.a0, .int .i64 e.a1, .int .i64 e.a2, .int .i64 e.a3, .int .i64 e.a4, .int .i64 e.a5, .int .i64 e.a6, .int .i64 e.a7]] w (XPost (toEv (l.map (·.1)) e) w) := by
  obtain ⟨A, c, rfl⟩ := h.kr.form
  have hll : l.length ≤ 1048576 := by have := hm.len; simp at this; omega
  obtain ⟨W0, hW0⟩ : ∃ W0, W0 = (w.alloc (.cells ⟨evV e⟩ 41)).alloc (.cells ⟨evV zeroE⟩ 41) := ⟨_, rfl⟩
  have h0 : Below w.heap.size w W0 := by rw [hW0]; exact ((Below.refl _ _).alloc (Nat.le_refl _) _).alloc (by simp) _
  have hs0 : W0.heap.size = w.heap.size + 1 + 1 := by rw [hW0]; simp
  have b3 : Blk W0 w.heap.size 41 (evV e) := by rw [hW0]; exact (Blk.new _ _ _).alloc _
  have b4 : Blk W0 (w.heap.size + 1) 41 (evV zeroE) := by rw [hW0]; exact Blk.new' (by simp)
  have hk := idxE_k A c (fun b => b < w.heap.size) l e.typ w.heap.size hll W0 (fun b hb => by have := h0.size; omega) ((h.kr.rd (G := fun b => b < w.heap.size) (fun b hb _ => hb.elim) (fun b _ hb => hb)).under h0 (fun b hb => hb)) (b3.cell 2)
  have hg := h.bx.lt
  have g0 := h.c0
  have hmf : ∀ (fn : Fn) (first cap : Array Value) (w : World), (Instr.makeFunc fn first cap).run Tryd.prog w = .ok (.func fn first cap) w := fun _ _ _ _ => rfl
  rw [hW0] at hk
  cases hfa : frAt (l.map (·.1)) e.typ with
  | none =>
    rw [hfa, show optI none = -1 from rfl] at hk
    have hE := Lib.hid (toEv_none hfa)
    replace hk := Lib.hid hk
    have hB0 := Lib.hid h0
    have hb4 := Lib.hid b4
    clear h hm hfr h0 b3 b4 hfa
    go_enter Tryd.func26, Tryd.ntmps26
    go_wp2_with (first
      | (go_at_call 41; refine hk.out.mono ?_; rintro e' w' ⟨rfl, hB1⟩; rw [← hW0] at hB1; have hbz := Lib.hid (hb4.out.stay hB1); have hBw := Lib.hid (hB0.out.trans (hB1.mono hB0.out.size)))
      | (refine at_op (.store 41 (.tmp 4) (.tmp 18)) rfl ?_; refine wpList_store_blk rfl 41 (.tmp 4) (.tmp 18) rfl (cs' := evV zeroE) hbz.out aggEv rfl rfl rfl rfl ?_; intro w1 hz1 hg1))
    refine bodyPost_cell2 (v := .bool false) rfl hz1 aggEv rfl rfl rfl ?_
    rw [hE.out]
    exact .mk' rfl rfl (hBw.out.grown hg1 hBw.out.size (fun q hq => by injection hq with hq; omega))
  | some i =>
    rw [hfa, show optI (some i) = (i : Int) from rfl] at hk
    have hil := frAt_lt hfa
    obtain ⟨p1, hp1⟩ := getx hil
    rw [List.getElem?_map] at hp1
    obtain ⟨p, hp, rfl⟩ := Option.map_eq_some_iff.1 hp1
    have hp1 : (l.map (·.1))[i]? = some p.1 := by rw [List.getElem?_map, hp]; rfl
    have hE := toEv_some hfa hp1
    have hpm := List.mem_of_getElem? hp
    have hfl : p.1.fs.length ≤ 8 := hm.fl p.1 (List.mem_map_of_mem hpm)
    have hfp : ∀ f ∈ p.1.fs, f.fr < 8 := hfr p.1 (List.mem_map_of_mem hpm)
    have hilt : i < l.length := (List.getElem?_eq_some_iff.1 hp).1
    have i0 : (0 : Int) ≤ (i : Int) := by omega
    have i1 : (i : Int) < l.length := by omega
    obtain ⟨gk, cap, hvk, h1, h2, h3, k0, k1, k2⟩ := h.at_ hp
    injection hvk with hA1 hA2 hA3
    subst hA1 hA3
    have hf := h.fr p hpm
    obtain ⟨A2, c2, hv2⟩ := hf.form
    rw [hv2] at k2
    have kc : ∀ W, Below w.heap.size w W → W.cell? ⟨g, 0, none⟩ = some (.slice (some ⟨gk, 0, none⟩) l.length c) ∧ W.cell? ⟨gk, i * 3 + 2, none⟩ = some (.slice A2 p.1.fs.length c2) := fun W hW => ⟨(hW.cell (p := ⟨g, 0, none⟩) hg).trans h.c0, (hW.cell (p := ⟨gk, i * 3 + 2, none⟩) h2).trans k2⟩
    have hkf : ∀ W (k : Nat) (x : Fd), Below w.heap.size w W → p.1.fs[k]? = some x → ∃ gf, A2 = some ⟨gf, 0, none⟩ ∧ gf < w.heap.size ∧ W.cell? ⟨gf, k * 3, none⟩ = some (.string x.nm) ∧ W.cell? ⟨gf, k * 3 + 1, none⟩ = some (.int .i64 x.fr) ∧ W.cell? ⟨gf, k * 3 + 2, none⟩ = some (.int .i64 x.fl) := fun W k x hW hx => by
      have hk := (List.getElem?_eq_some_iff.1 hx).1
      have hff := hf
      rw [hv2] at hff
      obtain ⟨gf, capf, e, _, h5, _, h6⟩ := hff.row (by omega)
      injection e with e1 e2 e3
      obtain ⟨u0, b0, r0⟩ := h6 (k * 3 + 0) _ (flatMap_get (f := fdD) (m := 3) (fun _ => rfl) hx rfl)
      obtain ⟨u1, b1, r1⟩ := h6 (k * 3 + 1) _ (flatMap_get (f := fdD) (m := 3) (fun _ => rfl) hx rfl)
      obtain ⟨u2, b2, r2⟩ := h6 (k * 3 + 2) _ (flatMap_get (f := fdD) (m := 3) (fun _ => rfl) hx rfl)
      rw [r0.v_inv] at b0
      rw [r1.v_inv] at b1
      rw [r2.v_inv] at b2
      exact ⟨gf, e1, h5, (hW.cell (p := ⟨gf, k * 3, none⟩) h5).trans b0, (hW.cell (p := ⟨gf, k * 3 + 1, none⟩) h5).trans b1, (hW.cell (p := ⟨gf, k * 3 + 2, none⟩) h5).trans b2⟩
    have hES : ∀ W, Below W0.heap.size W0 W → W.cell? ⟨w.heap.size, 0, none⟩ = some (.int .i64 e.ts) ∧ W.cell? ⟨w.heap.size, 1, none⟩ = some (.int .u64 e.id) ∧ ES w (W.alloc (.cells ⟨outC p.1.fs e i 0⟩ 41)) W.heap.size e (outC p.1.fs e i 0) := fun W hW => by
      have hz := hW.size
      have hBw := h0.trans (hW.mono h0.size)
      have d3 := b3.stay hW
      have d4 := b4.stay hW
      exact ⟨d3.cell 0, d3.cell 1, hBw.alloc hBw.size _, d3.alloc _, d4.alloc _, Blk.new _ _ _, by omega⟩
    replace hE := Lib.hid hE
    replace hk := Lib.hid hk
    have hB0 := Lib.hid h0
    replace hfp := Lib.hid hfp
    replace kc := Lib.hid kc
    replace hkf := Lib.hid hkf
    replace hES := Lib.hid hES
    replace hs0 := Lib.hid hs0
    clear h hm hfr h0 b3 b4 hfa hf hp hp1 hpm k0 k1 k2 h3
    go_enter Tryd.func26, Tryd.ntmps26
    go_wp2_with (go_at_call 41; refine hk.out.mono ?_; rintro e' w' ⟨rfl, hB1⟩; rw [← hW0] at hB1; obtain ⟨z0, z1, hES0⟩ := hES.out w' hB1; obtain ⟨z2, z3⟩ := kc.out w' (hB0.out.trans (hB1.mono hB0.out.size)); have hz9 := hB1.size; rw [hs0.out] at hz9; have zg : g < w'.heap.size := Nat.lt_of_lt_of_le hg (Nat.le_trans (Nat.le_add_right _ 2) hz9); have zk : gk < w'.heap.size := Nat.lt_of_lt_of_le h2 (Nat.le_trans (Nat.le_add_right _ 2) hz9); replace hES0 := Lib.hid hES0; clear hB1)
    clear z0 z1
    go_loopw [8, 9, 34] (fun _ _ x wr => ∃ j : Nat, j ≤ p.1.fs.length ∧ x = .int .i64 j ∧ ES w wr w'.heap.size e (outC p.1.fs e i j)) (fun _ _ x _ => p.1.fs.length - (intOf x).toNat)
    case atStart => exact ⟨0, Nat.zero_le _, rfl, hES0.out⟩
    case round =>
      obtain ⟨j, hj, rfl, hS⟩ := hrel
      by_cases hlt : j < p.1.fs.length
      · obtain ⟨f, hf⟩ := getx hlt
        have hj8 : j < 8 := by omega
        obtain ⟨gf, rfl, hgf, q0, q1, q2⟩ := hkf.out wr j f hS.hb hf
        have hf8 := hfp.out f (List.mem_of_getElem? hf)
        have g1 : (0 : Int) ≤ (j : Int) := by omega
        have g2 : (j : Int) < p.1.fs.length := by omega
        have g3 : (j : Int) < 8 := by omega
        have hoc := outC_get (fs := p.1.fs) (e := e) (i := i) (j := j) hj8
        rw [if_neg (by omega)] at hoc
        have y7 : wr.cell? ⟨w'.heap.size, 3 + j, none⟩ = some (.int .i64 0) := (hS.b7.cell _).trans hoc
        have y7f : wr.frozen? ⟨w'.heap.size, 3 + j, none⟩ = false := hS.b7.frozen _
        have hl7 := hS.b7.lt
        have hl3 := hS.b3.lt
        by_cases hfr0 : 0 ≤ f.fr
        · obtain ⟨m, hm⟩ : ∃ m : Nat, f.fr = m := ⟨f.fr.toNat, by omega⟩
          have hm8 : m < 8 := by omega
          obtain ⟨x, hx⟩ := atL_get (e := e) hm8
          have y3 : wr.cell? ⟨w.heap.size, 3 + m, none⟩ = some (.int .i64 x) := (hS.b3.cell _).trans (evV_at hx)
          have hv := vAt_fr (e := e) hf hm hx
          have m0 : (0 : Int) ≤ (m : Int) := by omega
          have m1 : (m : Int) < 8 := by omega
          have hne : ¬ w.heap.size = w'.heap.size := by omega
          rw [hm] at q1
          have hnext : ES w ((wr.setCell ⟨w'.heap.size, 3 + j, none⟩ (.int .i64 f.fl)).setCell ⟨w'.heap.size, 3 + j, none⟩ (.int .i64 x)) w'.heap.size e (outC p.1.fs e i (j + 1)) := by
            have := (hS.put (3 + j) (.int .i64 f.fl)).put (3 + j) (.int .i64 x)
            rw [List.set_set, ← hv, outC_next hj8] at this
            rw [← hv]
            exact this
          replace hnext := Lib.hid hnext
          clear hS hf hoc hx hv hfr0 hm
          go_wp2
          go_roundw
          case rel => exact ⟨j + 1, by omega, by go_num, hnext.out.stay ((Below.refl _ _).alloc (Nat.le_refl _) _)⟩
          case measure => simp [intOf]; omega
        · have hv := vAt_fl (e := e) hf hfr0
          have m1 : decide (f.fr ≥ 0) = false := decide_eq_false hfr0
          have m2 : decide (0 ≤ f.fr) = false := decide_eq_false hfr0
          have hnext : ES w (wr.setCell ⟨w'.heap.size, 3 + j, none⟩ (.int .i64 f.fl)) w'.heap.size e (outC p.1.fs e i (j + 1)) := by
            have := hS.put (3 + j) (.int .i64 f.fl)
            rw [← hv, outC_next hj8] at this
            rw [← hv]
            exact this
          replace hnext := Lib.hid hnext
          clear hS hf hoc hv hfr0
          go_wp2
          go_roundw
          case rel => exact ⟨j + 1, by omega, by go_num, hnext.out.stay ((Below.refl _ _).alloc (Nat.le_refl _) _)⟩
          case measure => simp [intOf]; omega
      · have hjn : j = p.1.fs.length := by omega
        subst hjn
        rw [outC_end e i hfl] at hS
        have hS' := Lib.hid hS
        clear hS
        go_wp2_with (first
          | (refine at_op (.load 41 (.tmp 7)) rfl ?_; refine wpList_load_blk rfl 41 (.tmp 7) rfl hS'.out.b7 aggEv rfl ?_)
          | (refine at_op (.store 41 (.tmp 4) (.tmp 56)) rfl ?_; refine wpList_store_blk rfl 41 (.tmp 4) (.tmp 56) rfl (cs' := evV (evOf p.1.fs e i)) hS'.out.b4 aggEv rfl rfl rfl rfl ?_; intro w1 hz1 hg1))
        refine bodyPost_cell2 (v := .bool true) rfl hz1 aggEv rfl rfl rfl ?_
        rw [hE.out]
        exact .mk' rfl rfl (hS'.out.hb.grown hg1 hS'.out.hb.size (fun q hq => by injection hq with hq; omega))
end evW
end Go.Proofs.YtmadafejenjkcaaDoor
