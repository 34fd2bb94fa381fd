/- The program's Event. -/
import Derived.Test.YtmadafejenjkcaaDoorE4
import Derived.Test.YtmadafejenjkcaaDoorE1
import Derived.Test.YtmadafejenjkcaaDoorX4
import Derived.Test.YtmadafejenjkcaaDoorVb
namespace Go.Proofs.YtmadafejenjkcaaDoor
open Go.RowKit Go.Deep
set_option linter.unusedVariables false
/-- what an event becomes: nothing beside an error -/
noncomputable def evR (S : List Td) (T : Option (List Kd)) (e : Ev) : Ev × Bool := match T with
  | none => (zeroE, false)
  | some t => if ceC S e = 0 then toEv t e else (zeroE, false)
theorem evR_0 {S : List Td} {t : List Kd} {e : Ev} (h : ceC S e = 0) : evR S (some t) e = toEv t e := if_pos h
theorem evR_1 {S : List Td} {t : List Kd} {e : Ev} (h : ceC S e ≠ 0) : evR S (some t) e = (zeroE, false) := if_neg h
def EvPost (S : List Td) (L : List Cg) (e : Ev) (w : World) (x : Ending) (w' : World) : Prop := ∃ T code at_, MdIs S L T code at_ ∧ XPost (evR S T e) w x w'
/-- the boxes of a call of Event: the schema, the event, the result -/
structure FS (w wr : World) (v : Value) (e : Ev) : Prop where
  hb : Below w.heap.size w wr
  b3 : Blk wr w.heap.size 24 [v]
  b5 : Blk wr (w.heap.size + 1) 41 (evV e)
  b6 : Blk wr (w.heap.size + 1 + 1) 41 (evV zeroE)
theorem FS.stay {w wr w2 : World} {v : Value} {e : Ev} (h : FS w wr v e) (hb : Below wr.heap.size wr w2) : FS w w2 v e :=
  ⟨h.hb.trans (hb.mono h.hb.size), h.b3.stay hb, h.b5.stay hb, h.b6.stay hb⟩
theorem FS.new (w : World) (v : Value) (e : Ev) : FS w (((w.alloc (.cells ⟨[v]⟩ 24)).alloc (.cells ⟨evV e⟩ 41)).alloc (.cells ⟨evV zeroE⟩ 41)) v e :=
  ⟨(((Below.refl _ _).alloc (Nat.le_refl _) _).alloc (by simp) _).alloc (by simp; omega) _, ((Blk.new _ _ _).alloc _).alloc _, (Blk.new' (by simp)).alloc _, Blk.new' (by simp)⟩
theorem FS.cells {w wr : World} {v : Value} {e : Ev} (h : FS w wr v e) : wr.cell? ⟨w.heap.size, 0, none⟩ = some v ∧ wr.cell? ⟨w.heap.size + 1, 0, none⟩ = some (.int .i64 e.ts) ∧ wr.cell? ⟨w.heap.size + 1, 1, none⟩ = some (.int .u64 e.id) ∧
    wr.cell? ⟨w.heap.size + 1, 2, none⟩ = some (.int .i64 e.typ) ∧ wr.cell? ⟨w.heap.size + 1, 3, none⟩ = some (.int .i64 e.a0) ∧ wr.cell? ⟨w.heap.size + 1, 4, none⟩ = some (.int .i64 e.a1) ∧ wr.cell? ⟨w.heap.size + 1, 5, none⟩ = some (.int .i64 e.a2) ∧
    wr.cell? ⟨w.heap.size + 1, 6, none⟩ = some (.int .i64 e.a3) ∧ wr.cell? ⟨w.heap.size + 1, 7, none⟩ = some (.int .i64 e.a4) ∧ wr.cell? ⟨w.heap.size + 1, 8, none⟩ = some (.int .i64 e.a5) ∧ wr.cell? ⟨w.heap.size + 1, 9, none⟩ = some (.int .i64 e.a6) ∧ wr.cell? ⟨w.heap.size + 1, 10, none⟩ = some (.int .i64 e.a7) :=
  ⟨h.b3.cell 0, h.b5.cell 0, h.b5.cell 1, h.b5.cell 2, h.b5.cell 3, h.b5.cell 4, h.b5.cell 5, h.b5.cell 6, h.b5.cell 7, h.b5.cell 8, h.b5.cell 9, h.b5.cell 10⟩
theorem DS.stay {w w2 : World} {B g N : Nat} {t : List Kd} (h : DS w B g t N) (hb : Below w.heap.size w w2) : DS w2 B g t N := by
  obtain ⟨vk, vl, by_, nl, l, hD, h1, h2⟩ := h
  exact ⟨vk, vl, by_, nl, l, hD.stay hb, h1, h2⟩
namespace evW
open nmW
set_option maxRecDepth 100000 in
set_option maxHeartbeats 4000000 in
theorem Event_k (A B : Option Addr) (ca cb : Nat) (F G : Nat → Prop) (S : List Td) (L : List Cg) (e : Ev) (hS : SzT S) (hL : L.length ≤ 1048576) (hC : ∀ c ∈ L, SzC c) (w : World) (hK : KwIs w) (hF : ∀ b, F b → b < w.heap.size) (hG : ∀ b, G b → b < w.heap.size)
    (r : Rd w F (.slice A S.length ca) (.sl S.length (S.flatMap tdD))) (rc : Rd w G (.slice B L.length cb) (.sl L.length (L.flatMap cgD))) :
    Calls Tryd.prog 13 #[.agg #[.slice A S.length ca], .slice B L.length cb, .agg #[.int .i64 e.ts, .int .u64 e.id, .int .i64 e.typ, .int .i64 e.a0, .int .i64 e.a1, .int .i64 e.a2, .int .i64 e.a3, .int .i64 e.a4, .int .i64 e.a5, .int .i64 e.a6, .int .i64 e.a7]] w (EvPost S L e w) := by
  obtain ⟨W0, hW0⟩ : ∃ W0, W0 = (((w.alloc (.cells ⟨[.slice A S.length ca]⟩ 24)).alloc (.cells ⟨evV e⟩ 41)).alloc (.cells ⟨evV zeroE⟩ 41)) := ⟨_, rfl⟩
  have h0 : FS w W0 (.slice A S.length ca) e := by rw [hW0]; exact FS.new _ _ _
  have kt : Calls Tryd.prog 20 #[.agg #[.slice A S.length ca], .slice B L.length cb] W0 (MdPost S L W0) :=
    made_k A B ca cb F G S L hS hL hC _ (hK.stay h0.hb) (fun b h => Nat.lt_of_lt_of_le (hF b h) h0.hb.size) (fun b h => Nat.lt_of_lt_of_le (hG b h) h0.hb.size) (r.under h0.hb hF) (rc.under h0.hb hG)
  have kc : ∀ W, Below w.heap.size w W → Calls Tryd.prog 25 #[.agg #[.slice A S.length ca], .agg #[.int .i64 e.ts, .int .u64 e.id, .int .i64 e.typ, .int .i64 e.a0, .int .i64 e.a1, .int .i64 e.a2, .int .i64 e.a3, .int .i64 e.a4, .int .i64 e.a5, .int .i64 e.a6, .int .i64 e.a7]] W fun x w' => x = .returned (.int .i64 (ceC S e)) ∧ Below W.heap.size W w' := fun W hW =>
    checkEvent_k A ca F S e hS W (hK.stay hW) (fun b h => Nat.lt_of_lt_of_le (hF b h) hW.size) (r.under hW hF)
  have ke : ∀ (W : World) (B' g : Nat) (t : List Kd) (N : Nat), SmK t → FrOk t → DS W B' g t N → Calls Tryd.prog 26 #[.pointer (some ⟨g, 0, none⟩), .agg #[.int .i64 e.ts, .int .u64 e.id, .int .i64 e.typ, .int .i64 e.a0, .int .i64 e.a1, .int .i64 e.a2, .int .i64 e.a3, .int .i64 e.a4, .int .i64 e.a5, .int .i64 e.a6, .int .i64 e.a7]] W (XPost (toEv t e) W) := fun W B' g t N h1 h2 hD => by
    obtain ⟨_, _, _, _, l', hD', rfl, _⟩ := hD
    exact event_k hD' h1 h2 e
  rw [hW0] at kt
  replace kt := Lib.hid kt
  replace kc := Lib.hid kc
  replace ke := Lib.hid ke
  replace h0 := Lib.hid h0
  clear hK hF hG r rc hC hS
  go_enter Tryd.func13, Tryd.ntmps13
  go_upto_region 2 with (go_at_call 20; refine kt.out.mono ?_; rintro x w' ⟨v, code, at_, T, rfl, hM, hT, hB1⟩; rw [← hW0] at hB1)
  have hx := h0.out.stay hB1
  obtain ⟨c0, c1, c2, c3, c4, c5, c6, c7, c8, c9, c10, c11⟩ := hx.cells
  by_cases hc : code = 0
  · subst hc
    obtain ⟨t, rfl, rfl⟩ := hM.ok
    obtain ⟨hm, g, rfl, hDS⟩ := hT t rfl
    have hfr := hM.fr
    have hce := Lib.hid (kc.out w' hx.hb)
    replace hx := Lib.hid hx
    have hM' := Lib.hid hM
    by_cases h5 : ceC S e = 0
    · have hR := Lib.hid (evR_0 (t := t) h5)
      have hk := Lib.hid (fun W hW => ke.out W _ g t 32 hm hfr (hDS.stay hW))
      rw [h5] at hce
      clear hM hT hDS hm hfr h5 hB1
      go_wp2_with (first
        | (go_at_call 25; refine hce.out.mono ?_; rintro x w2 ⟨rfl, hB2⟩; have hx2 := hx.out.stay hB2; obtain ⟨d0, d1, d2, d3, d4, d5, d6, d7, d8, d9, d10, d11⟩ := hx2.cells; replace hx2 := Lib.hid hx2; have hk2 := Lib.hid (hk.out w2 hB2))
        | (go_at_call 26; refine hk2.out.mono ?_; rintro x w3 ⟨rfl, hB3⟩; have hx3 := Lib.hid (hx2.out.stay hB3))
        | (refine at_op (.store 41 (.tmp 6) (.tmp 30)) rfl ?_; refine wpList_store_blk rfl 41 (.tmp 6) (.tmp 30) rfl (cs' := evV (toEv t e).1) hx3.out.b6 aggEv rfl rfl rfl rfl ?_; intro w1 hz1 hg1))
      refine bodyPost_cell2 (v := .bool (toEv t e).2) rfl hz1 aggEv rfl rfl rfl ⟨_, _, _, hM'.out, .mk' ?_ ?_ (hx3.out.hb.grown hg1 hx3.out.hb.size (fun q hq => by injection hq with hq; omega))⟩
      · rw [hR.out]
      · rw [hR.out]
    · have hR := Lib.hid (evR_1 (t := t) h5)
      have hne : (ceC S e == 0) = false := by simpa using h5
      have hne2 : (ceC S e != 0) = true := by simpa using h5
      clear hM hT hDS hm hfr h5 hB1
      go_wp2_with (first
        | (go_at_call 25; refine hce.out.mono ?_; rintro x w2 ⟨rfl, hB2⟩; have hx2 := hx.out.stay hB2; obtain ⟨d0, d1, d2, d3, d4, d5, d6, d7, d8, d9, d10, d11⟩ := hx2.cells; replace hx2 := Lib.hid hx2)
        | (refine at_op (.store 41 (.tmp 6) (.tmp 26)) rfl ?_; refine wpList_store_blk rfl 41 (.tmp 6) (.tmp 26) rfl (cs' := evV zeroE) hx2.out.b6 aggEv rfl rfl rfl rfl ?_; intro w1 hz1 hg1))
      refine bodyPost_cell2 (v := .bool false) rfl hz1 aggEv rfl rfl rfl ⟨_, _, _, hM'.out, .mk' ?_ ?_ (hx2.out.hb.grown hg1 hx2.out.hb.size (fun q hq => by injection hq with hq; omega))⟩
      · rw [hR.out]
      · rw [hR.out]
  · have hne : (code == 0) = false := by simpa using hc
    have hne2 : (code != 0) = true := by simpa using hc
    obtain rfl := hM.no hc
    have hx' := Lib.hid hx
    replace hM := Lib.hid hM
    clear hT hc hB1 hx
    go_wp2_with (refine at_op (.store 41 (.tmp 6) (.tmp 26)) rfl ?_; refine wpList_store_blk rfl 41 (.tmp 6) (.tmp 26) rfl (cs' := evV zeroE) hx'.out.b6 aggEv rfl rfl rfl rfl ?_; intro w1 hz1 hg1)
    refine bodyPost_cell2 (v := .bool false) rfl hz1 aggEv rfl rfl rfl ⟨_, _, _, hM.out, .mk' rfl rfl (hx'.out.hb.grown hg1 hx'.out.hb.size (fun q hq => by injection hq with hq; omega))⟩
end evW
end Go.Proofs.YtmadafejenjkcaaDoor
/- The document's Event. -/
namespace Go.Proofs.YtmadafejenjkcaaDoor
open Go.RowKit Go.Deep
set_option linter.unusedVariables false
/-- an event that is being put together beside the table -/
structure HS (w w1 wr : World) (v : Value) (e : Ev) (g : Nat) (cs : List Value) : Prop where
  fs : FS w wr v e
  bt : Below w1.heap.size w1 wr
  bg : Blk wr g 41 cs
  l1 : w1.heap.size ≤ g
  l2 : w.heap.size + 1 + 1 < w1.heap.size
theorem HS.stay {w w1 wr w2 : World} {v : Value} {e : Ev} {g : Nat} {cs : List Value} (h : HS w w1 wr v e g cs) (hb : Below wr.heap.size wr w2) : HS w w1 w2 v e g cs :=
  ⟨h.fs.stay hb, h.bt.trans (hb.mono h.bt.size), h.bg.stay hb, h.l1, h.l2⟩
theorem HS.put {w w1 wr : World} {v : Value} {e : Ev} {g : Nat} {cs : List Value} (h : HS w w1 wr v e g cs) (i : Nat) (x : Value) : HS w w1 (wr.setCell ⟨g, i, none⟩ x) v e g (cs.set i x) := by
  have h1 := h.l1
  have h2 := h.l2
  exact ⟨⟨h.fs.hb.setCell (by show _ ≤ g; omega) _, h.fs.b3.far (by show _ ≠ g; omega) _, h.fs.b5.far (by show _ ≠ g; omega) _, h.fs.b6.far (by show _ ≠ g; omega) _⟩, h.bt.setCell (by show _ ≤ g; omega) _, h.bg.set_ i x, h1, h2⟩
namespace evW
open nmW
set_option maxRecDepth 100000 in
set_option maxHeartbeats 8000000 in
theorem refEvent_k (A B : Option Addr) (ca cb : Nat) (F G : Nat → Prop) (S : List Td) (L : List Cg) (e : Ev) (hS : SzT S) (hL : L.length ≤ 1048576) (hC : ∀ c ∈ L, SzC c) (w : World) (hK : KwIs w) (hF : ∀ b, F b → b < w.heap.size) (hG : ∀ b, G b → b < w.heap.size)
    (r : Rd w F (.slice A S.length ca) (.sl S.length (S.flatMap tdD))) (rc : Rd w G (.slice B L.length cb) (.sl L.length (L.flatMap cgD))) :
    Calls Tryd.prog 14 #[.agg #[.slice A S.length ca], .slice B L.length cb, .agg #[.int .i64 e.ts, .int .u64 e.id, .int .i64 e.typ, .int .i64 e.a0, .int .i64 e.a1, .int .i64 e.a2, .int .i64 e.a3, .int .i64 e.a4, .int .i64 e.a5, .int .i64 e.a6, .int .i64 e.a7]] w (EvPost S L e w) := by
  obtain ⟨W0, hW0⟩ : ∃ W0, W0 = (((w.alloc (.cells ⟨[.slice A S.length ca]⟩ 24)).alloc (.cells ⟨evV e⟩ 41)).alloc (.cells ⟨evV zeroE⟩ 41)) := ⟨_, rfl⟩
  have h0 : FS w W0 (.slice A S.length ca) e := by rw [hW0]; exact FS.new _ _ _
  have kt : Calls Tryd.prog 22 #[.agg #[.slice A S.length ca], .slice B L.length cb] W0 (TbPost S L W0) :=
    table_k A B ca cb F G S L hS hL hC _ (hK.stay h0.hb) (fun b h => Nat.lt_of_lt_of_le (hF b h) h0.hb.size) (fun b h => Nat.lt_of_lt_of_le (hG b h) h0.hb.size) (r.under h0.hb hF) (rc.under h0.hb hG)
  have kc : ∀ W, Below w.heap.size w W → Calls Tryd.prog 27 #[.agg #[.slice A S.length ca], .agg #[.int .i64 e.ts, .int .u64 e.id, .int .i64 e.typ, .int .i64 e.a0, .int .i64 e.a1, .int .i64 e.a2, .int .i64 e.a3, .int .i64 e.a4, .int .i64 e.a5, .int .i64 e.a6, .int .i64 e.a7]] W fun x w' => x = .returned (.int .i64 (ceC S e)) ∧ Below W.heap.size W w' := fun W hW =>
    refCheckEvent_k A ca F S e hS W (hK.stay hW) (fun b h => Nat.lt_of_lt_of_le (hF b h) hW.size) (r.under hW hF)
  rw [hW0] at kt
  replace kt := Lib.hid kt
  replace kc := Lib.hid kc
  replace h0 := Lib.hid h0
  clear hK hF hG r rc hC hS
  go_enter Tryd.func14, Tryd.ntmps14
  go_upto_region 2 with (go_at_call 22; refine kt.out.mono ?_; rintro x w' ⟨v, code, at_, T, rfl, hM, hT, hB1⟩; rw [← hW0] at hB1)
  have hx := h0.out.stay hB1
  obtain ⟨c0, c1, c2, c3, c4, c5, c6, c7, c8, c9, c10, c11⟩ := hx.cells
  by_cases hc : code = 0
  · subst hc
    obtain ⟨t, rfl, rfl⟩ := hM.ok
    obtain ⟨hm, hR⟩ := hT t rfl
    have hfr := hM.fr
    have hce := Lib.hid (kc.out w' hx.hb)
    have hM' := Lib.hid hM
    by_cases h5 : ceC S e = 0
    · have hRe := Lib.hid (evR_0 (t := t) h5)
      rw [h5] at hce
      have htl : t.length ≤ 16 := hm.len
      obtain ⟨A', c', rfl, _⟩ := hR.sl_inv
      have hRR := Lib.hid (fun W (hW : Below w'.heap.size w' W) => hR.under hW (fun b h => h))
      replace hm := Lib.hid hm
      replace hfr := Lib.hid hfr
      replace hx := Lib.hid hx
      clear hM hT h5 hB1 hR
      go_wp2_with (go_at_call 27; refine hce.out.mono ?_; rintro x w2 ⟨rfl, hB2⟩; have hx2 := hx.out.stay hB2; have hl6 := hx.out.b6.lt; replace hx2 := Lib.hid hx2)
      clear c0 c1 c2 c3 c4 c5 c6 c7 c8 c9 c10 c11
      go_loopw [11, 12, 13] (fun x _ _ wr => ∃ j : Nat, j ≤ t.length ∧ x = .int .i64 j ∧ FS w wr (.slice A S.length ca) e ∧ Below w'.heap.size w' wr ∧ (∀ (i : Nat) k, t[i]? = some k → i < j → k.fr ≠ e.typ)) (fun x _ _ _ => t.length - (intOf x).toNat)
      case atStart => exact ⟨0, Nat.zero_le _, rfl, hx2.out, hB2, fun i k h1 h2 => by omega⟩
      case round =>
        obtain ⟨j, hj, rfl, hS, hBt, hz⟩ := hrel
        obtain ⟨wo, hwo⟩ : ∃ wo : World, wo = wr := ⟨_, rfl⟩
        subst hwo
        replace hz := Lib.hid hz
        obtain ⟨d0, d1, d2, d3, d4, d5, d6, d7, d8, d9, d10, d11⟩ := hS.cells
        clear d4 d5 d6 d7 d8 d9 d10 d11 d0
        by_cases hlt : j < t.length
        · obtain ⟨k, hk⟩ := getx hlt
          obtain ⟨b, off, rfl, hb, hv, hsl⟩ := (hRR.out wo hBt).rowv (m := 3) (fun _ => rfl) hk (by omega)
          obtain ⟨A2, c2, a2, r2⟩ := hsl 2 _ _ rfl
          have a1 : wo.cell? ⟨b, off + j * 3 + 1, none⟩ = some (.int .i64 k.fr) := hv 1 _ rfl
          have g0 : (0 : Int) ≤ (j : Int) := by omega
          have g1 : (j : Int) < t.length := by omega
          by_cases hkt : k.fr = e.typ
          · have hkt' : (k.fr == e.typ) = true := by simpa using hkt
            have hkt2 : (k.fr != e.typ) = false := by simpa using hkt
            have hE := Lib.hid (toEv_some (frAt_some hk hkt hz.out) hk)
            have hkm := List.mem_of_getElem? hk
            have hfl : k.fs.length ≤ 8 := hm.out.fl k hkm
            have hff := Lib.hid (hfr.out k hkm)
            have hb' : b < w'.heap.size := hb
            have ht3 := Lib.hid (fun W (hW : Below wo.heap.size wo W) => show W.cell? ⟨b, off + j * 3 + 2, none⟩ = some (.slice A2 k.fs.length c2) ∧ Rd W (fun b => b < w'.heap.size) (.slice A2 k.fs.length c2) (.sl k.fs.length (k.fs.flatMap fdD)) from
              ⟨(hW.cell (p := ⟨b, off + j * 3 + 2, none⟩) (Nat.lt_of_lt_of_le hb' hBt.size)).trans a2, r2.under hW (fun b h => Nat.lt_of_lt_of_le h hBt.size)⟩)
            have hH := Lib.hid (fun n W (hz5 : Blk W wo.heap.size 41 (outC k.fs e j 0)) (hg5 : ((wo.drewN n).alloc (.cells ⟨evV zeroE⟩ 41)).grownBy W (some wo.heap.size)) => show HS w wo W (.slice A S.length ca) e wo.heap.size (outC k.fs e j 0) from by
              have hd0 : Below wo.heap.size wo ((wo.drewN n).alloc (.cells ⟨evV zeroE⟩ 41)) := (below_drewN (Below.refl _ _) n).alloc (by simp) _
              have hd : Below wo.heap.size wo W := hd0.grown hg5 hd0.size (fun q hq => by injection hq with hq; omega)
              exact ⟨hS.stay hd, hd, hz5, Nat.le_refl _, hS.b6.lt⟩)
            have hkt3 := Lib.hid hkt
            clear hv hsl r2 hk hkt hkm
            go_wp2
            go_quiet (fail)
            go_wp2_with (refine at_op (.store 41 (.tmp 12) (.tmp 49)) rfl ?_; refine wpList_store_blk rfl 41 (.tmp 12) (.tmp 49) rfl (cs' := outC k.fs e j 0) (Blk.new' (cs := evV zeroE) (by simp)) aggEv rfl rfl rfl rfl ?_; intro w5 hz5 hg5)
            go_loopw [13] (fun x wx => ∃ m : Nat, m ≤ k.fs.length ∧ x = .int .i64 m ∧ HS w wo wx (.slice A S.length ca) e wo.heap.size (outC k.fs e j m)) (fun x _ => k.fs.length - (intOf x).toNat)
            case atStart => exact ⟨0, Nat.zero_le _, rfl, hH.out _ _ hz5 hg5⟩
            case round =>
              clear a1 a2 d1 d2 d3
              obtain ⟨m, hm1, rfl, hX⟩ := hrel
              obtain ⟨a2, r2⟩ := ht3.out _ hX.bt
              by_cases hlm : m < k.fs.length
              · obtain ⟨f, hf⟩ := getx hlm
                have hm8 : m < 8 := by omega
                obtain ⟨b2, off2, rfl, hb2, hv2, _⟩ := r2.rowv (m := 3) (fun _ => rfl) hf (by omega)
                have q1 : wr.cell? ⟨b2, off2 + m * 3 + 1, none⟩ = some (.int .i64 f.fr) := hv2 1 _ rfl
                have q2 : wr.cell? ⟨b2, off2 + m * 3 + 2, none⟩ = some (.int .i64 f.fl) := hv2 2 _ rfl
                have hf8 := hff.out f (List.mem_of_getElem? hf)
                have m0 : (0 : Int) ≤ (m : Int) := by omega
                have m1 : (m : Int) < k.fs.length := by omega
                have m2 : (m : Int) < 8 := by omega
                have hoc := outC_get (fs := k.fs) (e := e) (i := j) (j := m) hm8
                rw [if_neg (by omega)] at hoc
                have y7 : wr.cell? ⟨wo.heap.size, 3 + m, none⟩ = some (.int .i64 0) := (hX.bg.cell _).trans hoc
                have y7f : wr.frozen? ⟨wo.heap.size, 3 + m, none⟩ = false := hX.bg.frozen _
                have hl6 := hX.fs.b6.lt
                have hl7 := hX.bg.lt
                have hne : ¬ w.heap.size + 1 = wo.heap.size := by have := hX.l2; omega
                by_cases hfr0 : 0 ≤ f.fr
                · obtain ⟨n, hn⟩ : ∃ n : Nat, f.fr = n := ⟨f.fr.toNat, by omega⟩
                  have hn8 : n < 8 := by omega
                  obtain ⟨x, hx5⟩ := atL_get (e := e) hn8
                  have y3 : wr.cell? ⟨w.heap.size + 1, 3 + n, none⟩ = some (.int .i64 x) := (hX.fs.b5.cell _).trans (evV_at hx5)
                  have hv5 := vAt_fr (e := e) hf hn hx5
                  have n0 : (0 : Int) ≤ (n : Int) := by omega
                  have n1 : (n : Int) < 8 := by omega
                  rw [hn] at q1
                  have hnext : HS w wo (wr.setCell ⟨wo.heap.size, 3 + m, none⟩ (.int .i64 x)) (.slice A S.length ca) e wo.heap.size (outC k.fs e j (m + 1)) := by
                    have := hX.put (3 + m) (.int .i64 x)
                    rw [← hv5, outC_next hm8] at this
                    rw [← hv5]
                    exact this
                  replace hnext := Lib.hid hnext
                  clear hX hf hoc hx5 hv5 hfr0 hn hv2 r2
                  go_wp2
                  go_roundw
                  case rel => exact ⟨m + 1, by omega, by go_num, hnext.out⟩
                  case measure => simp [intOf]; omega
                · have hv5 := vAt_fl (e := e) hf hfr0
                  have n1 : decide (f.fr ≥ 0) = false := decide_eq_false hfr0
                  have n2 : decide (0 ≤ f.fr) = false := decide_eq_false hfr0
                  have hnext : HS w wo (wr.setCell ⟨wo.heap.size, 3 + m, none⟩ (.int .i64 f.fl)) (.slice A S.length ca) e wo.heap.size (outC k.fs e j (m + 1)) := by
                    have := hX.put (3 + m) (.int .i64 f.fl)
                    rw [← hv5, outC_next hm8] at this
                    rw [← hv5]
                    exact this
                  replace hnext := Lib.hid hnext
                  clear hX hf hoc hv5 hfr0 hv2 r2
                  go_wp2
                  go_roundw
                  case rel => exact ⟨m + 1, by omega, by go_num, hnext.out⟩
                  case measure => simp [intOf]; omega
              · have hjn : m = k.fs.length := by omega
                subst hjn
                rw [outC_end e j hfl] at hX
                have hX' := Lib.hid hX
                clear hX
                go_wp2_with (first
                  | (refine at_op (.load 41 (.tmp 12)) rfl ?_; refine wpList_load_blk rfl 41 (.tmp 12) rfl hX'.out.bg aggEv rfl ?_)
                  | (refine at_op (.store 41 (.tmp 6) (.tmp 97)) rfl ?_; refine wpList_store_blk rfl 41 (.tmp 6) (.tmp 97) rfl (cs' := evV (evOf k.fs e j)) hX'.out.fs.b6 aggEv rfl rfl rfl rfl ?_; intro w1 hz1 hg1))
                refine bodyPost_cell2 (v := .bool true) rfl hz1 aggEv rfl rfl rfl ⟨_, _, _, hM'.out, .mk' ?_ ?_ (hX'.out.fs.hb.grown hg1 hX'.out.fs.hb.size (fun q hq => by injection hq with hq; omega))⟩
                · rw [hRe.out, hE.out]
                · rw [hRe.out, hE.out]
          · have hkt' : (k.fr == e.typ) = false := by simpa using hkt
            have hkt2 : (k.fr != e.typ) = true := by simpa using hkt
            have hk' := Lib.hid hk
            have hkt3 := Lib.hid hkt
            clear hv hsl r2 hk hkt
            go_wp2
            go_quiet (fail)
            go_wp2
            go_roundw
            case rel =>
              refine ⟨j + 1, by omega, by go_num, hS.stay (below_drewN (Below.refl _ _) _), below_drewN hBt _, fun i k2 h1 h2 => ?_⟩
              by_cases hij : i = j
              · subst hij
                rw [hk'.out] at h1
                injection h1 with h1
                subst h1
                exact hkt3.out
              · exact hz.out i k2 h1 (by omega)
            case measure => simp [intOf]; omega
        · have g1 : ¬ (j : Int) < t.length := by omega
          have hno := Lib.hid (toEv_none (frAt_none fun i k h1 => hz.out i k h1 (by have := (List.getElem?_eq_some_iff.1 h1).1; omega)))
          have hS' := Lib.hid hS
          clear hS hBt hz
          go_wp2_with (refine at_op (.store 41 (.tmp 6) (.tmp 98)) rfl ?_; refine wpList_store_blk rfl 41 (.tmp 6) (.tmp 98) rfl (cs' := evV zeroE) hS'.out.b6 aggEv rfl rfl rfl rfl ?_; intro w1 hz1 hg1)
          refine bodyPost_cell2 (v := .bool false) rfl hz1 aggEv rfl rfl rfl ⟨_, _, _, hM'.out, .mk' ?_ ?_ (hS'.out.hb.grown hg1 hS'.out.hb.size (fun q hq => by injection hq with hq; omega))⟩
          · rw [hRe.out, hno.out]
          · rw [hRe.out, hno.out]
    · have hR := Lib.hid (evR_1 (t := t) h5)
      have hne : (ceC S e == 0) = false := by simpa using h5
      have hne2 : (ceC S e != 0) = true := by simpa using h5
      replace hx := Lib.hid hx
      clear hM hT hm hfr h5 hB1
      go_wp2_with (first
        | (go_at_call 27; refine hce.out.mono ?_; rintro x w2 ⟨rfl, hB2⟩; have hx2 := hx.out.stay hB2; replace hx2 := Lib.hid hx2)
        | (refine at_op (.store 41 (.tmp 6) (.tmp 29)) rfl ?_; refine wpList_store_blk rfl 41 (.tmp 6) (.tmp 29) rfl (cs' := evV zeroE) hx2.out.b6 aggEv rfl rfl rfl rfl ?_; intro w1 hz1 hg1))
      refine bodyPost_cell2 (v := .bool false) rfl hz1 aggEv rfl rfl rfl ⟨_, _, _, hM'.out, .mk' ?_ ?_ (hx2.out.hb.grown hg1 hx2.out.hb.size (fun q hq => by injection hq with hq; omega))⟩
      · rw [hR.out]
      · rw [hR.out]
  · have hne : (code == 0) = false := by simpa using hc
    have hne2 : (code != 0) = true := by simpa using hc
    obtain rfl := hM.no hc
    have hx' := Lib.hid hx
    replace hM := Lib.hid hM
    clear hT hc hB1 hx
    go_wp2_with (refine at_op (.store 41 (.tmp 6) (.tmp 29)) rfl ?_; refine wpList_store_blk rfl 41 (.tmp 6) (.tmp 29) rfl (cs' := evV zeroE) hx'.out.b6 aggEv rfl rfl rfl rfl ?_; intro w1 hz1 hg1)
    refine bodyPost_cell2 (v := .bool false) rfl hz1 aggEv rfl rfl rfl ⟨_, _, _, hM.out, .mk' rfl rfl (hx'.out.hb.grown hg1 hx'.out.hb.size (fun q hq => by injection hq with hq; omega))⟩
end evW
end Go.Proofs.YtmadafejenjkcaaDoor
