/- The statement's own helpers: copies of texts, marks. -/
import Derived.Test.YtmadafejenjkcaaDoorSc5
import Derived.Test.YtmadafejenjkcaaDoorTw0
import Derived.Laws.BytesArg
import Derived.Test.YtmadafejenjkcaaDoorWr
import Derived.Test.YtmadafejenjkcaaDoorV8
import Derived.Test.YtmadafejenjkcaaDoorV9
import Derived.Deep.QuietTactic
import Derived.BigQuiet
namespace Go.Proofs.YtmadafejenjkcaaDoor
open Go.RowKit Go.Deep
set_option linter.unusedVariables false
theorem st_next {l : List ByteArray} {k : Nat} {a : ByteArray} (h : l[k]? = some a) : (l.take (k + 1)).flatMap strD = (l.take k).flatMap strD ++ strD a := by
  rw [List.take_add_one, h]; simp
namespace evW
open nmW
set_option maxHeartbeats 800000 in
theorem twinTexts_k (A : Option Addr) (c : Nat) (F : Nat → Prop) (l : List ByteArray) (hl : l.length ≤ 1048576) (w : World) (hF : ∀ b, F b → b < w.heap.size) (r : Rd w F (.slice A l.length c) (.sl l.length (l.flatMap strD))) :
    Calls Tryd.prog 19 #[.slice A l.length c] w fun e w' => ∃ v, e = .returned v ∧ OL w' w.heap.size (fun _ => False) 9 1 v l.length (l.flatMap strD) ∧ Below w.heap.size w w' := by
  replace r := Lib.hid r
  replace hF := Lib.hid hF
  go_enter Tryd.func19, Tryd.ntmps19
  go_wp2
  go_loopw [3, 4] (fun v x wr => ∃ (j : Nat) (s3 : Value), s3 = v ∧ j ≤ l.length ∧ x = .int .i64 j ∧ OL wr w.heap.size (fun _ => False) 9 1 s3 j ((l.take j).flatMap strD) ∧ Below w.heap.size w wr) (fun _ x _ => l.length - (intOf x).toNat)
  case atStart => exact ⟨0, _, rfl, Nat.zero_le _, rfl, .nil _ _ _ _ _, Below.refl _ _⟩
  case round =>
    obtain ⟨j, s3, rfl, hj, rfl, hO, hB⟩ := hrel
    by_cases hlt : j < l.length
    · obtain ⟨a, ha⟩ := getx hlt
      obtain ⟨b, off, rfl, hFb, ha2⟩ := (r.out.under hB hF.out).at_ ha
      have q0 : wr.cell? ⟨b, off + j, none⟩ = some (.string a) := ha2
      have g0 : (0 : Int) ≤ (j : Int) := by omega
      have g1 : (j : Int) < l.length := by omega
      have hfk := st_next ha
      have hsz := hB.size
      replace hfk := Lib.hid hfk
      replace hB := Lib.hid hB
      clear ha ha2
      go_wp2_with (at_builtin; refine wpList_app rfl (.tmp 11) (.tmp 16) _ rfl (m := 1) (news := strD a) elStr (hO.alloc (.cells ⟨[.string a]⟩ 9)) rfl rfl (Src.lit (show RdL wr _ [.string a] (strD a) from ⟨.v _ rfl, trivial⟩)) rfl (by omega) (by omega) (by simp; omega) ?_; intro v' w1 hO1 hg1 ha1)
      go_roundw
      case rel => exact ⟨j + 1, _, rfl, by omega, by go_num, by rw [hfk.out]; exact hO1, (hB.out.alloc hB.out.size (.cells ⟨[.string a]⟩ 9)).grown hg1 (by simp; omega) (fun q hq => (hO.lt q hq).1)⟩
      case measure => simp [intOf]; omega
    · obtain rfl : j = l.length := by omega
      rw [List.take_length] at hO
      replace hO := Lib.hid hO
      replace hB := Lib.hid hB
      go_wp2
      go_ret
      exact ⟨_, rfl, hO.out, hB.out⟩
def mkN (i : Nat) : List Int := [109, 97 + (i : Int) % 26, 97 + (i : Int) / 26 % 26]
def mkS (i : Nat) : ByteArray := strOfNums (mkN i)
set_option maxRecDepth 100000 in
set_option maxHeartbeats 800000 in
theorem mark_k (i : Nat) (hi : i < 26) (w : World) : Calls Tryd.prog 11 #[.int .i64 (i : Int)] w fun e w' => e = .returned (.string (mkS i)) ∧ Below w.heap.size w w' := by
  have hcv : (convert 70 9 (.slice (some ⟨w.heap.size, 0, none⟩) 3 3)).run Tryd.prog (w.alloc (.cells #[.int .u8 109, .int .u8 (97 + (i : Int) % 26), .int .u8 (97 + (i : Int) / 26 % 26)] 5)) = .ok (.string (mkS i)) (w.alloc (.cells #[.int .u8 109, .int .u8 (97 + (i : Int) % 26), .int .u8 (97 + (i : Int) / 26 % 26)] 5)) :=
    run_convert_bytes_arg _ 70 5 Tryd.underlying70 Tryd.underlying5 w.heap.size 0 3 3 (mkN i) rfl (fun j hj => by
      have hb := Blk.new w 5 [.int .u8 109, .int .u8 (97 + (i : Int) % 26), .int .u8 (97 + (i : Int) / 26 % 26)]
      have := hb.cell (0 + j)
      match j, hj with
      | 0, _ => exact this
      | 1, _ => exact this
      | 2, _ => exact this) 9 Tryd.underlying9
  have hb := (Below.refl w.heap.size w).alloc (Nat.le_refl _) (.cells #[.int .u8 109, .int .u8 (97 + (i : Int) % 26), .int .u8 (97 + (i : Int) / 26 % 26)] 5)
  replace hb := Lib.hid hb
  go_enter Tryd.func11, Tryd.ntmps11
  go_wp2_with (simp only [hcv])
  go_ret
  exact ⟨rfl, hb.out⟩
end evW
end Go.Proofs.YtmadafejenjkcaaDoor
/- The statement's own helpers: copies of schemas. -/
namespace Go.Proofs.YtmadafejenjkcaaDoor
open Go.RowKit Go.Deep
set_option linter.unusedVariables false
set_option linter.unusedSimpArgs false

/-- a schema's copy that is being made -/
structure TS (w wr : World) (v u : Value) (k : Nat) (ds : List D) : Prop where
  hb : Below w.heap.size w wr
  b0 : Blk wr w.heap.size 24 [v]
  b1 : Blk wr (w.heap.size + 1) 24 [.slice none 0 0]
  b2 : Blk wr (w.heap.size + 1 + 1) 24 [u]
  ol : OL wr (w.heap.size + 1 + 1 + 1) (fun b => w.heap.size + 1 + 1 + 1 ≤ b) 34 2 u k ds
theorem TS.stay {w wr w2 : World} {v u : Value} {k : Nat} {ds : List D} (h : TS w wr v u k ds) (hb : Below wr.heap.size wr w2) : TS w w2 v u k ds :=
  ⟨h.hb.trans (hb.mono h.hb.size), h.b0.stay hb, h.b1.stay hb, h.b2.stay hb, h.ol.stay hb⟩
theorem TS.put {w wr w1 : World} {v u v' : Value} {k m : Nat} {ds ds' : List D} (h : TS w wr v u k ds) (hg : wr.grownBy w1 u.ownBlock) (hO : OL w1 (w.heap.size + 1 + 1 + 1) (fun b => w.heap.size + 1 + 1 + 1 ≤ b) 34 2 v' m ds') :
    (w1.cell? ⟨w.heap.size + 1 + 1, 0, none⟩ = some u ∧ w1.frozen? ⟨w.heap.size + 1 + 1, 0, none⟩ = false ∧ w1.cell? ⟨w.heap.size, 0, none⟩ = some v) ∧ TS w (w1.setCell ⟨w.heap.size + 1 + 1, 0, none⟩ v') v v' m ds' := by
  have hne : ∀ q, q < w.heap.size + 1 + 1 + 1 → some q ≠ u.ownBlock := fun q hq he => by have := (h.ol.lt q he.symm).1; omega
  have hrow : ∀ q, u.ownBlock = some q → w.heap.size ≤ q := fun q hq => by have := (h.ol.lt q hq).1; omega
  have t0 := h.b2.grown hg (hne _ (by omega))
  have t1 := h.b0.grown hg (hne _ (by omega))
  refine ⟨⟨t0.cell 0, t0.frozen 0, t1.cell 0⟩, ?_⟩
  refine ⟨(h.hb.grown hg h.hb.size hrow).setCell (by simp; omega) _, t1.far (by simp; omega) _, (h.b1.grown hg (hne _ (by omega))).far (by simp) _, t0.set_ 0 _, hO.setCell (fun h => ?_) (by simp) _⟩
  exact absurd (hO.lt _ h).1 (by show ¬ (_ ≤ w.heap.size + 1 + 1); omega)
namespace evW
open nmW
set_option maxRecDepth 100000 in
set_option maxHeartbeats 4000000 in
theorem twinSchema_k (A : Option Addr) (c : Nat) (F : Nat → Prop) (l : List Td) (hl : SzT l) (w : World) (hF : ∀ b, F b → b < w.heap.size) (r : Rd w F (.slice A l.length c) (.sl l.length (l.flatMap tdD))) :
    Calls Tryd.prog 6 #[.agg #[.slice A l.length c]] w fun e w' => ∃ v, e = .returned (.agg #[v]) ∧ OL w' w.heap.size (fun b => w.heap.size ≤ b) 34 2 v l.length (l.flatMap tdD) ∧ Below w.heap.size w w' := by
  obtain ⟨hl1, hl2⟩ := hl
  replace hl2 := Lib.hid hl2
  replace hF := Lib.hid hF
  replace r := Lib.hid r
  go_enter Tryd.func6, Tryd.ntmps6
  go_wp2
  go_loopw [4] (fun x wr => ∃ (j : Nat) (u : Value), j ≤ l.length ∧ x = .int .i64 j ∧ TS w wr (.slice A l.length c) u j ((l.take j).flatMap tdD)) (fun x _ => l.length - (intOf x).toNat)
  case atStart =>
    refine ⟨0, .slice none 0 0, Nat.zero_le _, rfl, ?_, ?_, ?_, ?_, .nil _ _ _ _ _⟩
    · exact (((Below.refl _ _).alloc (Nat.le_refl _) _).alloc (by simp) _).alloc (by simp; omega) _
    · exact ((Blk.new _ _ _).alloc _).alloc _
    · exact (Blk.new' (by simp)).alloc _
    · exact Blk.new' (by simp)
  case round =>
    obtain ⟨j, u, hj, rfl, hT⟩ := hrel
    have z0 : wr.cell? ⟨w.heap.size, 0, none⟩ = some (.slice A l.length c) := hT.b0.cell 0
    have o0 : wr.cell? ⟨w.heap.size + 1 + 1, 0, none⟩ = some u := hT.b2.cell 0
    by_cases hlt : j < l.length
    · obtain ⟨t, ht⟩ := getx hlt
      obtain ⟨hs1, hs2, hs3⟩ := hl2.out t (List.mem_of_getElem? ht)
      obtain ⟨b, off, rfl, hFb, hv, hsl⟩ := r.out.rowv (m := 2) (fun _ => rfl) ht (by omega)
      have hfB := hF.out b hFb
      obtain ⟨A2, c2, a1, r2⟩ := hsl 1 _ _ rfl
      have kS : ∀ W, Below w.heap.size w W → W.cell? ⟨b, off + j * 2, none⟩ = some (.string t.name) ∧ W.cell? ⟨b, off + j * 2 + 1, none⟩ = some (.slice A2 t.attrs.length c2) := fun W hW => ⟨(hW.cell (p := ⟨b, off + j * 2, none⟩) hfB).trans (hv 0 _ rfl), (hW.cell (p := ⟨b, off + j * 2 + 1, none⟩) hfB).trans a1⟩
      have g0 : (0 : Int) ≤ (j : Int) := by omega
      have g1 : (j : Int) < l.length := by omega
      have hfm : (l.take (j + 1)).flatMap tdD = (l.take j).flatMap tdD ++ tdD t := by rw [List.take_add_one, ht]; simp
      have kt := Lib.hid (twinTexts_k A2 c2 F t.attrs hs2 wr.drew (fun b hb => Nat.lt_of_lt_of_le (hF.out b hb) hT.hb.size) ((r2.under hT.hb hF.out).drew))
      have hSS : (wr.drew.cell? ⟨w.heap.size, 0, none⟩ = some (.slice (some ⟨b, off, none⟩) l.length c) ∧ wr.drew.cell? ⟨b, off + j * 2, none⟩ = some (.string t.name) ∧ wr.drew.cell? ⟨b, off + j * 2 + 1, none⟩ = some (.slice A2 t.attrs.length c2)) ∧ wr.drew.cell? ⟨w.heap.size + 1 + 1, 0, none⟩ = some u := ⟨⟨z0, kS wr hT.hb⟩, o0⟩
      have hsz := hT.b2.lt
      have hsB : b < w.heap.size := hfB
      replace kS := Lib.hid kS
      replace hfm := Lib.hid hfm
      have hT' := Lib.hid hT
      clear hv hsl hT ht r2 a1
      go_upto_region 5 with fail
      clear z0 o0
      refine G_region (p := 17) (S0 := fun W => W.cell? ⟨w.heap.size, 0, none⟩ = some (.slice (some ⟨b, off, none⟩) l.length c) ∧ W.cell? ⟨b, off + j * 2, none⟩ = some (.string t.name) ∧ W.cell? ⟨b, off + j * 2 + 1, none⟩ = some (.slice A2 t.attrs.length c2)) (S1 := fun W => W.cell? ⟨w.heap.size + 1 + 1, 0, none⟩ = some u) (by kernel_rfl) ?_
      refine' G_take0 (i := 0) (v := _) rfl (by decide) (by kernel_rfl) (by kernel_rfl) (by kernel_rfl) (fun _ _ _ h => h) hSS (.inl ⟨by rfl, ?hy0⟩) ?rest0
      case hy0 => (intro W hW; (try dsimp only at hW); go_simp <;> with_reducible rfl)
      try simp only [Act.put, List.setIfInBounds_toArray, List.set_cons_zero, List.set_cons_succ]
      refine' G_take1 (i := 1) (v := _) rfl (by decide) (by kernel_rfl) (by kernel_rfl) (by kernel_rfl) rfl (by kernel_rfl) (by kernel_rfl) (fun _ _ _ h => h) hSS (.inl ⟨by rfl, ?hy1⟩) ?rest1
      case hy1 => (intro W hW; (try dsimp only at hW); go_simp <;> with_reducible rfl)
      try simp only [Act.put, List.setIfInBounds_toArray, List.set_cons_zero, List.set_cons_succ]
      refine' G_take0 (i := 2) (v := _) rfl (by decide) (by kernel_rfl) (by kernel_rfl) (by kernel_rfl) (fun _ _ _ h => h) hSS (.inl ⟨by rfl, ?hy2⟩) ?rest2
      case hy2 => (intro W hW; (try dsimp only at hW); go_simp <;> with_reducible rfl)
      try simp only [Act.put, List.setIfInBounds_toArray, List.set_cons_zero, List.set_cons_succ]
      refine' G_take0 (i := 3) (v := _) rfl (by decide) (by kernel_rfl) (by kernel_rfl) (by kernel_rfl) (fun _ _ _ h => h) hSS (.inl ⟨by rfl, ?hy3⟩) ?rest3
      case hy3 => (intro W hW; (try dsimp only at hW); go_simp <;> with_reducible rfl)
      try simp only [Act.put, List.setIfInBounds_toArray, List.set_cons_zero, List.set_cons_succ]
      refine' G_take0 (i := 4) (v := _) rfl (by decide) (by kernel_rfl) (by kernel_rfl) (by kernel_rfl) (fun _ _ _ h => h) hSS (.inl ⟨by rfl, ?hy4⟩) ?rest4
      case hy4 => (intro W hW; (try dsimp only at hW); go_simp <;> with_reducible rfl)
      try simp only [Act.put, List.setIfInBounds_toArray, List.set_cons_zero, List.set_cons_succ]
      refine' G_take0 (i := 5) (v := _) rfl (by decide) (by kernel_rfl) (by kernel_rfl) (by kernel_rfl) (fun _ _ _ h => h) hSS (.inl ⟨by rfl, ?hy5⟩) ?rest5
      case hy5 => (intro W hW; (try dsimp only at hW); go_simp <;> with_reducible rfl)
      try simp only [Act.put, List.setIfInBounds_toArray, List.set_cons_zero, List.set_cons_succ]
      refine' G_take0 (i := 6) (v := _) rfl (by decide) (by kernel_rfl) (by kernel_rfl) (by kernel_rfl) (fun _ _ _ h => h) hSS (.inl ⟨by rfl, ?hy6⟩) ?rest6
      case hy6 => (intro W hW; (try dsimp only at hW); go_simp <;> with_reducible rfl)
      try simp only [Act.put, List.setIfInBounds_toArray, List.set_cons_zero, List.set_cons_succ]
      refine' G_take0 (i := 7) (v := _) rfl (by decide) (by kernel_rfl) (by kernel_rfl) (by kernel_rfl) (fun _ _ _ h => h) hSS (.inl ⟨by rfl, ?hy7⟩) ?rest7
      case hy7 => (intro W hW; (try dsimp only at hW); go_simp <;> with_reducible rfl)
      try simp only [Act.put, List.setIfInBounds_toArray, List.set_cons_zero, List.set_cons_succ]
      refine' G_take0 (i := 8) (v := _) rfl (by decide) (by kernel_rfl) (by kernel_rfl) (by kernel_rfl) (fun _ _ _ h => h) hSS (.inl ⟨by rfl, ?hy8⟩) ?rest8
      case hy8 => (intro W hW; (try dsimp only at hW); go_simp <;> with_reducible rfl)
      try simp only [Act.put, List.setIfInBounds_toArray, List.set_cons_zero, List.set_cons_succ]
      refine' G_take0 (i := 9) (v := _) rfl (by decide) (by kernel_rfl) (by kernel_rfl) (by kernel_rfl) (fun _ _ _ h => h) hSS (.inl ⟨by rfl, ?hy9⟩) ?rest9
      case hy9 => (intro W hW; (try dsimp only at hW); go_simp <;> with_reducible rfl)
      try simp only [Act.put, List.setIfInBounds_toArray, List.set_cons_zero, List.set_cons_succ]
      refine' G_take0 (i := 10) (v := _) rfl (by decide) (by kernel_rfl) (by kernel_rfl) (by kernel_rfl) (fun _ _ _ h => h) hSS (.inl ⟨by rfl, ?hy10⟩) ?rest10
      case hy10 => (intro W hW; (try dsimp only at hW); go_simp <;> with_reducible rfl)
      try simp only [Act.put, List.setIfInBounds_toArray, List.set_cons_zero, List.set_cons_succ]
      refine' G_take0 (i := 11) (v := _) rfl (by decide) (by kernel_rfl) (by kernel_rfl) (by kernel_rfl) (fun _ _ _ h => h) hSS (.inl ⟨by rfl, ?hy11⟩) ?rest11
      case hy11 => (intro W hW; (try dsimp only at hW); go_simp <;> with_reducible rfl)
      try simp only [Act.put, List.setIfInBounds_toArray, List.set_cons_zero, List.set_cons_succ]
      refine' G_take0 (i := 12) (v := _) rfl (by decide) (by kernel_rfl) (by kernel_rfl) (by kernel_rfl) (fun _ _ _ h => h) hSS (.inl ⟨by rfl, ?hy12⟩) ?rest12
      case hy12 => (intro W hW; (try dsimp only at hW); go_simp <;> with_reducible rfl)
      try simp only [Act.put, List.setIfInBounds_toArray, List.set_cons_zero, List.set_cons_succ]
      refine' G_take0 (i := 13) (v := _) rfl (by decide) (by kernel_rfl) (by kernel_rfl) (by kernel_rfl) (fun _ _ _ h => h) hSS (.inl ⟨by rfl, ?hy13⟩) ?rest13
      case hy13 => (intro W hW; (try dsimp only at hW); go_simp <;> with_reducible rfl)
      try simp only [Act.put, List.setIfInBounds_toArray, List.set_cons_zero, List.set_cons_succ]
      refine G_step (k := 14) (by kernel_rfl) rfl (fun K hK => ?_)
      go_simp
      go_at_call 19
      refine kt.out.mono ?_
      rintro e W ⟨v1, rfl, hO1, hW⟩
      obtain ⟨B1, d1, rfl⟩ := hO1.form
      have hTW := hT'.out.stay (show Below wr.heap.size wr W from (Below.refl _ _).drew.trans hW)
      have hS2 : (W.cell? ⟨w.heap.size, 0, none⟩ = some (.slice (some ⟨b, off, none⟩) l.length c) ∧ W.cell? ⟨b, off + j * 2, none⟩ = some (.string t.name) ∧ W.cell? ⟨b, off + j * 2 + 1, none⟩ = some (.slice A2 t.attrs.length c2)) ∧ W.cell? ⟨w.heap.size + 1 + 1, 0, none⟩ = some u := ⟨⟨hTW.b0.cell 0, kS.out W hTW.hb⟩, hTW.b2.cell 0⟩
      refine hK.out _ _ ⟨hS2.1, fun _ => hS2.2⟩ ?_
      have hL : RdL W (fun b => w.heap.size + 1 + 1 + 1 ≤ b ∧ some b ≠ u.ownBlock) [.string t.name, .slice B1 t.attrs.length d1] (tdD t) := ⟨.v _ rfl, hO1.rd' (fun _ h _ => h.elim) (fun b he hB hlt => ⟨by have := hT'.out.b2.lt; simp at hB; omega, fun hu => by have := (hT'.out.ol.lt b hu.symm).2; simp at hB; omega⟩), trivial⟩
      have hszW := hTW.b2.lt
      have hTa := hTW.stay ((Below.refl _ _).alloc (Nat.le_refl _) (.cells ⟨[.string t.name, .slice B1 t.attrs.length d1]⟩ 34))
      replace hTW := Lib.hid hTW
      replace hTa := Lib.hid hTa
      replace hL := Lib.hid hL
      clear hK K hSS hO1 hW kt
      try simp only [Act.put, List.setIfInBounds_toArray, List.set_cons_zero, List.set_cons_succ]
      refine' G_take0 (i := 15) (v := _) rfl (by decide) (by kernel_rfl) (by kernel_rfl) (by kernel_rfl) (fun _ _ _ h => h) hS2 (.inl ⟨by rfl, ?hyb15⟩) ?restb15
      case hyb15 => (intro W hW; (try dsimp only at hW); go_simp <;> with_reducible rfl)
      try simp only [Act.put, List.setIfInBounds_toArray, List.set_cons_zero, List.set_cons_succ]
      refine G_step (k := 16) (by kernel_rfl) rfl (fun K hK => ?_)
      go_simp
      refine hK.out _ _ ⟨⟨hTa.out.b0.cell 0, kS.out _ hTa.out.hb⟩, fun _ => hTa.out.b2.cell 0⟩ ?_
      refine G_step (k := 17) (by kernel_rfl) rfl (fun K hK => ?_)
      refine step_app (by rfl) (.tmp 13) (.tmp 28) _ (by rfl) (m := 1) (news := tdD t) elTd (by exact hTa.out.ol) (by rfl) (by rfl) (by exact Src.lit hL.out) rfl (by omega) (by omega) (by simp; omega) ?_
      intro v' w1 hO1 hg1 ha1
      obtain ⟨B3, d3, rfl⟩ := hO1.form
      obtain ⟨⟨t0, t1, t2⟩, t3⟩ := hTa.out.put hg1 hO1
      have hb1 : Below w.heap.size w w1 := hTa.out.hb.grown hg1 hTa.out.hb.size (fun q hq => by have := (hTa.out.ol.lt q hq).1; omega)
      have hS3 : (w1.cell? ⟨w.heap.size, 0, none⟩ = some (.slice (some ⟨b, off, none⟩) l.length c) ∧ w1.cell? ⟨b, off + j * 2, none⟩ = some (.string t.name) ∧ w1.cell? ⟨b, off + j * 2 + 1, none⟩ = some (.slice A2 t.attrs.length c2)) ∧ w1.cell? ⟨w.heap.size + 1 + 1, 0, none⟩ = some u := ⟨⟨t2, kS.out w1 hb1⟩, t0⟩
      refine hK.out _ _ ⟨hS3.1, fun _ => hS3.2⟩ ?_
      rw [← hfm.out] at t3
      replace t3 := Lib.hid t3
      clear hK K hS2 hO1 hg1 ha1
      try simp only [Act.put, List.setIfInBounds_toArray, List.set_cons_zero, List.set_cons_succ]
      refine' G_take0 (i := 18) (v := _) rfl (by decide) (by kernel_rfl) (by kernel_rfl) (by kernel_rfl) (fun _ _ _ h => h) hS3 (.inl ⟨by rfl, ?hyc18⟩) ?restc18
      case hyc18 => (intro W hW; (try dsimp only at hW); go_simp <;> with_reducible rfl)
      try simp only [Act.put, List.setIfInBounds_toArray, List.set_cons_zero, List.set_cons_succ]
      refine G_step (k := 19) (by kernel_rfl) rfl (fun K hK => ?_)
      go_simp
      refine hK.out _ _ ⟨⟨t3.out.b0.cell 0, kS.out _ t3.out.hb⟩, fun h => absurd (h.symm.trans (by kernel_rfl : _ = true)) (by simp)⟩ ?_
      refine G_done (by kernel_rfl) ?_ _
      try simp only [Act.put, List.setIfInBounds_toArray, List.set_cons_zero, List.set_cons_succ]
      clear hK K hS3 t0 t1 t2
      go_wp2
      go_roundw
      case rel => exact ⟨j + 1, _, by omega, by go_num, t3.out⟩
      case measure => simp [intOf]; omega
    · obtain rfl : j = l.length := by omega
      rw [List.take_length] at hT
      obtain ⟨h1, h2, h3, h4, h5⟩ := hT
      have hsz := h4.lt
      obtain ⟨U, cu, rfl⟩ := h5.form
      have p0 : wr.cell? ⟨w.heap.size + 1, 0, none⟩ = some (.slice none 0 0) := h3.cell 0
      have f0 : wr.frozen? ⟨w.heap.size + 1, 0, none⟩ = false := h3.frozen 0
      have e1 : Blk (wr.setCell ⟨w.heap.size + 1, 0, none⟩ (.slice U l.length cu)) (w.heap.size + 1) 24 [.slice U l.length cu] := h3.set_ 0 _
      have e2 : OL (wr.setCell ⟨w.heap.size + 1, 0, none⟩ (.slice U l.length cu)) w.heap.size (fun b => w.heap.size ≤ b) 34 2 (.slice U l.length cu) l.length (l.flatMap tdD) :=
        ((h5.setCell (p := ⟨w.heap.size + 1, 0, none⟩) (fun h => absurd (h5.lt _ h).1 (by show ¬ (_ ≤ w.heap.size + 1); omega)) (by show ¬ (_ ≤ w.heap.size + 1); omega) _).base (by omega)).mono fun b h => by omega
      have e3 := h1.setCell (p := ⟨w.heap.size + 1, 0, none⟩) (by simp) (.slice U l.length cu)
      replace e1 := Lib.hid e1
      replace e2 := Lib.hid e2
      replace e3 := Lib.hid e3
      clear h1 h2 h3 h4 h5
      go_wp2
      exact bodyPost_cell1 rfl e1.out aggSc rfl rfl ⟨_, rfl, e2.out, e3.out⟩
end evW
end Go.Proofs.YtmadafejenjkcaaDoor
/- The statement's own helpers: copies of changes. -/
namespace Go.Proofs.YtmadafejenjkcaaDoor
open Go.RowKit Go.Deep
set_option linter.unusedVariables false
theorem elChange : ElT Tryd.prog 25 60 6 88 := .of Tryd.underlying25 (by kernel_rfl) (by omega)
theorem cg_next {l : List Cg} {k : Nat} {c : Cg} (h : l[k]? = some c) : (l.take (k + 1)).flatMap cgD = (l.take k).flatMap cgD ++ cgD c := by
  rw [List.take_add_one, h]; simp
def CTRel (w : World) (l : List Cg) (v x : Value) (wr : World) : Prop := ∃ j : Nat, j ≤ l.length ∧ x = .int .i64 j ∧ OL wr w.heap.size (fun b => w.heap.size ≤ b) 60 6 v j ((l.take j).flatMap cgD) ∧ Below w.heap.size w wr
theorem CTRel.mk {w : World} {l : List Cg} {v x : Value} {wr : World} (j : Nat) (h1 : j ≤ l.length) (h2 : x = .int .i64 j) (h3 : OL wr w.heap.size (fun b => w.heap.size ≤ b) 60 6 v j ((l.take j).flatMap cgD)) (h4 : Below w.heap.size w wr) : CTRel w l v x wr := ⟨j, h1, h2, h3, h4⟩
namespace evW
open nmW
set_option maxRecDepth 100000 in
set_option maxHeartbeats 2000000 in
theorem twinChanges_k (A : Option Addr) (ca : Nat) (F : Nat → Prop) (l : List Cg) (hl : l.length ≤ 1048576) (hC : ∀ c ∈ l, SzC c) (w : World) (hF : ∀ b, F b → b < w.heap.size) (r : Rd w F (.slice A l.length ca) (.sl l.length (l.flatMap cgD))) :
    Calls Tryd.prog 7 #[.slice A l.length ca] w fun e w' => ∃ v, e = .returned v ∧ OL w' w.heap.size (fun b => w.heap.size ≤ b) 60 6 v l.length (l.flatMap cgD) ∧ Below w.heap.size w w' := by
  replace hC := Lib.hid hC
  replace hF := Lib.hid hF
  replace r := Lib.hid r
  go_enter Tryd.func7, Tryd.ntmps7
  go_wp2
  go_loopw [3, 4] (fun v x wr => CTRel w l v x wr) (fun _ x _ => l.length - (intOf x).toNat)
  case atStart => exact CTRel.mk 0 (Nat.zero_le _) rfl (.nil _ _ _ _ _) (Below.refl _ _)
  case round =>
    obtain ⟨j, hj, rfl, hO, hB⟩ := hrel
    by_cases hlt : j < l.length
    · obtain ⟨c, hc⟩ := getx hlt
      have hcs := hC.out c (List.mem_of_getElem? hc)
      obtain ⟨b, off, rfl, hFb, hv, hsl⟩ := r.out.rowv (m := 6) (fun _ => rfl) hc (by omega)
      have hfB := hF.out b hFb
      obtain ⟨A2, c2, a4, r4⟩ := hsl 4 _ _ rfl
      have v0 : wr.cell? ⟨b, off + j * 6, none⟩ = some (.int .i64 c.kd) := (hB.cell (p := ⟨b, off + j * 6, none⟩) hfB).trans (hv 0 _ rfl)
      have v1 : wr.cell? ⟨b, off + j * 6 + 1, none⟩ = some (.string c.ty) := (hB.cell (p := ⟨b, off + j * 6 + 1, none⟩) hfB).trans (hv 1 _ rfl)
      have v2 : wr.cell? ⟨b, off + j * 6 + 2, none⟩ = some (.string c.at_) := (hB.cell (p := ⟨b, off + j * 6 + 2, none⟩) hfB).trans (hv 2 _ rfl)
      have v3 : wr.cell? ⟨b, off + j * 6 + 3, none⟩ = some (.string c.nm) := (hB.cell (p := ⟨b, off + j * 6 + 3, none⟩) hfB).trans (hv 3 _ rfl)
      have v4 : wr.cell? ⟨b, off + j * 6 + 4, none⟩ = some (.slice A2 c.ats.length c2) := (hB.cell (p := ⟨b, off + j * 6 + 4, none⟩) hfB).trans a4
      have v5 : wr.cell? ⟨b, off + j * 6 + 5, none⟩ = some (.int .i64 c.n) := (hB.cell (p := ⟨b, off + j * 6 + 5, none⟩) hfB).trans (hv 5 _ rfl)
      have g0 : (0 : Int) ≤ (j : Int) := by omega
      have g1 : (j : Int) < l.length := by omega
      have hfb : b < wr.heap.size := Nat.lt_of_lt_of_le hfB hB.size
      have hfm := cg_next hc
      have hsz := hB.size
      obtain ⟨wo, hwo⟩ : ∃ wo : World, wo = wr := ⟨_, rfl⟩
      subst hwo
      have hba : Below wo.heap.size wo (wo.alloc (.cells ⟨cgC c A2 c2⟩ 60)) := (Below.refl _ _).alloc (Nat.le_refl _) _
      have hbw : Below w.heap.size w (wo.alloc (.cells ⟨cgC c A2 c2⟩ 60)) := hB.alloc hB.size _
      have kt := Lib.hid (twinTexts_k A2 c2 F c.ats hcs.ats.1 (wo.alloc (.cells ⟨cgC c A2 c2⟩ 60)) (fun b hb => Nat.lt_of_lt_of_le (hF.out b hb) hbw.size) (r4.under hbw hF.out))
      have hbx := Lib.hid (Blk.new wo 60 (cgC c A2 c2))
      replace hba := Lib.hid hba
      replace hfm := Lib.hid hfm
      replace hO := Lib.hid hO
      replace hB := Lib.hid hB
      clear hv hsl a4 hc r4 hbw
      go_wp2_with (first
        | (go_at_call 19; refine kt.out.mono ?_; rintro e w1 ⟨u, rfl, hO1, hB1⟩; obtain ⟨A3, c3, rfl⟩ := hO1.form; have t := hbx.out.stay hB1; have t0 : w1.cell? ⟨wo.heap.size, 0, none⟩ = some (.int .i64 c.kd) := t.cell 0; have t1 : w1.cell? ⟨wo.heap.size, 1, none⟩ = some (.string c.ty) := t.cell 1; have t2 : w1.cell? ⟨wo.heap.size, 2, none⟩ = some (.string c.at_) := t.cell 2; have t3 : w1.cell? ⟨wo.heap.size, 3, none⟩ = some (.string c.nm) := t.cell 3; have t4 : w1.cell? ⟨wo.heap.size, 4, none⟩ = some (.slice A2 c.ats.length c2) := t.cell 4; have t5 : w1.cell? ⟨wo.heap.size, 5, none⟩ = some (.int .i64 c.n) := t.cell 5; have t6 : w1.frozen? ⟨wo.heap.size, 4, none⟩ = false := t.frozen 4; have hz9 : wo.heap.size + 1 ≤ w1.heap.size := t.lt; have hB2 := Lib.hid ((hba.out.trans (hB1.mono hba.out.size)).setCell (p := ⟨wo.heap.size, 4, none⟩) (Nat.le_refl _) (.slice A3 c.ats.length c3)); have hO2 := Lib.hid (hO1.setCell (p := ⟨wo.heap.size, 4, none⟩) (fun e => by have := (hO1.lt _ e).1; simp at this; omega) (fun h => h) (.slice A3 c.ats.length c3)); clear t hB1)
        | (at_builtin; refine wpList_app rfl (.tmp 23) (.tmp 25) _ rfl (m := 1) (news := cgD c) elChange ((hO.out.stay hB2.out).alloc (.cells ⟨cgC c A3 c3⟩ 60)) rfl rfl (Src.lit' (by simp) (show RdL (w1.setCell ⟨wo.heap.size, 4, none⟩ (.slice A3 c.ats.length c3)) _ (cgC c A3 c3) (cgD c) from ⟨.v _ rfl, .v _ rfl, .v _ rfl, .v _ rfl, hO2.out.rd' (fun b h _ => h.elim) (fun b hb h1 h2 => ⟨by simp at h1; omega, fun e => by have := (hO.out.lt b e.symm).2; simp at h1; omega⟩), .v _ rfl, trivial⟩)) rfl (by omega) (by omega) (by simp; omega) ?_; intro v' w2 hO3 hg1 ha1))
      have hBf := ((hB.out.trans (hB2.out.mono hB.out.size)).alloc (by have := (hB.out.trans (hB2.out.mono hB.out.size)).size; exact this) (.cells ⟨cgC c A3 c3⟩ 60)).grown hg1 (by have := (hB.out.trans (hB2.out.mono hB.out.size)).size; simp at this ⊢; omega) (fun q hq => (hO.out.lt q hq).1)
      rw [← hfm.out] at hO3
      replace hO3 := Lib.hid hO3
      replace hBf := Lib.hid hBf
      go_roundw
      case rel => exact CTRel.mk (j + 1) (by omega) (by go_num) hO3.out hBf.out
      case measure => simp [intOf]; omega
    · obtain rfl : j = l.length := by omega
      rw [List.take_length] at hO
      replace hO := Lib.hid hO
      replace hB := Lib.hid hB
      go_wp2
      go_ret
      exact ⟨_, rfl, hO.out, hB.out⟩
end evW
end Go.Proofs.YtmadafejenjkcaaDoor
/- The statement's own helpers: what reads alike is the same. -/
namespace Go.Proofs.YtmadafejenjkcaaDoor
open Go.RowKit Go.Deep
set_option linter.unusedVariables false
/-- two schemas in their boxes -/
def SB2 (w wr : World) (v u : Value) : Prop := Below w.heap.size w wr ∧ Blk wr w.heap.size 24 [v] ∧ Blk wr (w.heap.size + 1) 24 [u]
theorem SB2.stay {w wr w2 : World} {v u : Value} (h : SB2 w wr v u) (hb : Below wr.heap.size wr w2) : SB2 w w2 v u := ⟨h.1.trans (hb.mono h.1.size), h.2.1.stay hb, h.2.2.stay hb⟩
theorem SB2.drewN {w wr : World} {v u : Value} (h : SB2 w wr v u) (k : Nat) : SB2 w (wr.drewN k) v u := h.stay (below_drewN (Below.refl _ _) k)
namespace evW
open nmW
set_option maxHeartbeats 400000 in
theorem sameTexts_q (A B : Option Addr) (c d : Nat) (F G : Nat → Prop) (l : List ByteArray) (hl : l.length ≤ 1048576) (w : World) (r : Rd w F (.slice A l.length c) (.sl l.length (l.flatMap strD))) (s : Rd w G (.slice B l.length d) (.sl l.length (l.flatMap strD))) :
    Calls Tryd.prog 24 #[.slice A l.length c, .slice B l.length d] w fun e w' => e = .returned (.bool true) ∧ ∃ q, w' = w.drewN q := by
  go_enter Tryd.func24, Tryd.ntmps24
  go_wp2
  go_loopw [5] (fun x wr => ∃ k q : Nat, k ≤ l.length ∧ x = .int .i64 k ∧ wr = w.drewN q) (fun x _ => l.length - (intOf x).toNat)
  case atStart => exact ⟨0, 0, Nat.zero_le _, rfl, by first | rfl | simp [World.drewN]⟩
  case round =>
    obtain ⟨k, q, hk, rfl, rfl⟩ := hrel
    by_cases hlt : k < l.length
    · obtain ⟨x, hx⟩ := getx hlt
      obtain ⟨b, off, rfl, hFb, a0⟩ := r.at_ hx
      obtain ⟨b', off', rfl, hGb, b0⟩ := s.at_ hx
      have g0 : (0 : Int) ≤ (k : Int) := by omega
      have g1 : (k : Int) < l.length := by omega
      clear hx
      go_wp2
      go_quiet (fail)
      go_wp2
      go_roundw
      case rel => exact ⟨k + 1, _, by omega, by go_num, by first | rfl | simp⟩
      case measure => simp [intOf]; omega
    · obtain rfl : k = l.length := by omega
      go_wp2
      go_ret
      exact ⟨rfl, _, rfl⟩
set_option maxHeartbeats 800000 in
theorem sameSchema_k (A B : Option Addr) (c d : Nat) (F G : Nat → Prop) (l : List Td) (hl : l.length ≤ 1048576) (hl2 : ∀ t ∈ l, t.attrs.length ≤ 1048576) (w : World) (hF : ∀ b, F b → b < w.heap.size) (hG : ∀ b, G b → b < w.heap.size) (r : Rd w F (.slice A l.length c) (.sl l.length (l.flatMap tdD))) (s : Rd w G (.slice B l.length d) (.sl l.length (l.flatMap tdD))) :
    Calls Tryd.prog 10 #[.agg #[.slice A l.length c], .agg #[.slice B l.length d]] w fun e w' => e = .returned (.bool true) ∧ Below w.heap.size w w' := by
  have k1 := Lib.hid sameTexts_q
  replace hl2 := Lib.hid hl2
  replace hF := Lib.hid hF
  replace hG := Lib.hid hG
  replace r := Lib.hid r
  replace s := Lib.hid s
  go_enter Tryd.func10, Tryd.ntmps10
  go_wp2
  go_loopw [5] (fun x wr => ∃ k : Nat, k ≤ l.length ∧ x = .int .i64 k ∧ SB2 w wr (.slice A l.length c) (.slice B l.length d)) (fun x _ => l.length - (intOf x).toNat)
  case atStart => exact ⟨0, Nat.zero_le _, rfl, ((Below.refl _ _).alloc (Nat.le_refl _) _).alloc (by simp) _, (Blk.new _ _ _).alloc _, Blk.new' (by simp)⟩
  case round =>
    obtain ⟨k, hk, rfl, hS⟩ := hrel
    have z0 : wr.cell? ⟨w.heap.size, 0, none⟩ = some (.slice A l.length c) := hS.2.1.cell 0
    have z1 : wr.cell? ⟨w.heap.size + 1, 0, none⟩ = some (.slice B l.length d) := hS.2.2.cell 0
    by_cases hlt : k < l.length
    · obtain ⟨t, ht⟩ := getx hlt
      have hs2 := hl2.out t (List.mem_of_getElem? ht)
      obtain ⟨b, off, rfl, hFb, hv, hsl⟩ := (r.out.under hS.1 hF.out).rowv (m := 2) (fun _ => rfl) ht (by omega)
      obtain ⟨A2, c2, a1, r2⟩ := hsl 1 _ _ rfl
      have a0 : wr.cell? ⟨b, off + k * 2, none⟩ = some (.string t.name) := hv 0 _ rfl
      obtain ⟨b', off', rfl, hGb, hv', hsl'⟩ := (s.out.under hS.1 hG.out).rowv (m := 2) (fun _ => rfl) ht (by omega)
      obtain ⟨B2, d2, b1, s2⟩ := hsl' 1 _ _ rfl
      have b0 : wr.cell? ⟨b', off' + k * 2, none⟩ = some (.string t.name) := hv' 0 _ rfl
      have g0 : (0 : Int) ≤ (k : Int) := by omega
      have g1 : (k : Int) < l.length := by omega
      replace r2 := Lib.hid r2
      replace s2 := Lib.hid s2
      have hS' := Lib.hid hS
      clear hv hsl hv' hsl' hS ht
      have e0 := (World.block_lt_of_cell? wr _ a0)
      have e1 := (World.block_lt_of_cell? wr _ b0)
      go_wp2
      go_quiet ((go_at_call 24; exact Calls.quiet_of (k1.out _ _ _ _ _ _ _ hs2 _ (r2.out.drewN _) (s2.out.drewN _))))
      go_wp2
      go_roundw
      case rel => exact ⟨k + 1, by omega, by go_num, hS'.out.drewN _⟩
      case measure => simp [intOf]; omega
    · obtain rfl : k = l.length := by omega
      go_wp2
      go_ret
      exact ⟨rfl, hS.1⟩
set_option maxHeartbeats 2000000 in
theorem sameChanges_k (A B : Option Addr) (c d : Nat) (F G : Nat → Prop) (l : List Cg) (hl : l.length ≤ 1048576) (hC : ∀ c ∈ l, SzC c) (w : World) (hF : ∀ b, F b → b < w.heap.size) (hG : ∀ b, G b → b < w.heap.size) (r : Rd w F (.slice A l.length c) (.sl l.length (l.flatMap cgD))) (s : Rd w G (.slice B l.length d) (.sl l.length (l.flatMap cgD))) :
    Calls Tryd.prog 12 #[.slice A l.length c, .slice B l.length d] w fun e w' => e = .returned (.bool true) ∧ Below w.heap.size w w' := by
  have k1 := Lib.hid sameTexts_q
  replace hC := Lib.hid hC
  replace hF := Lib.hid hF
  replace hG := Lib.hid hG
  replace r := Lib.hid r
  replace s := Lib.hid s
  go_enter Tryd.func12, Tryd.ntmps12
  go_wp2
  go_loopw [5] (fun x wr => ∃ k : Nat, k ≤ l.length ∧ x = .int .i64 k ∧ Below w.heap.size w wr) (fun x _ => l.length - (intOf x).toNat)
  case atStart => exact ⟨0, Nat.zero_le _, rfl, Below.refl _ _⟩
  case round =>
    obtain ⟨k, hk, rfl, hB⟩ := hrel
    by_cases hlt : k < l.length
    · obtain ⟨x, hx⟩ := getx hlt
      have hxs := (hC.out x (List.mem_of_getElem? hx)).ats.1
      obtain ⟨b, off, rfl, hFb, hv, hsl⟩ := (r.out.under hB hF.out).rowv (m := 6) (fun _ => rfl) hx (by omega)
      obtain ⟨A2, c2, a4, r2⟩ := hsl 4 _ _ rfl
      have a0 : wr.cell? ⟨b, off + k * 6, none⟩ = some (.int .i64 x.kd) := hv 0 _ rfl
      have a1 : wr.cell? ⟨b, off + k * 6 + 1, none⟩ = some (.string x.ty) := hv 1 _ rfl
      have a2 : wr.cell? ⟨b, off + k * 6 + 2, none⟩ = some (.string x.at_) := hv 2 _ rfl
      have a3 : wr.cell? ⟨b, off + k * 6 + 3, none⟩ = some (.string x.nm) := hv 3 _ rfl
      replace a4 : wr.cell? ⟨b, off + k * 6 + 4, none⟩ = some (.slice A2 x.ats.length c2) := a4
      have a5 : wr.cell? ⟨b, off + k * 6 + 5, none⟩ = some (.int .i64 x.n) := hv 5 _ rfl
      obtain ⟨b', off', rfl, hGb, hv', hsl'⟩ := (s.out.under hB hG.out).rowv (m := 6) (fun _ => rfl) hx (by omega)
      obtain ⟨B2, d2, b4, s2⟩ := hsl' 4 _ _ rfl
      have b0 : wr.cell? ⟨b', off' + k * 6, none⟩ = some (.int .i64 x.kd) := hv' 0 _ rfl
      have b1 : wr.cell? ⟨b', off' + k * 6 + 1, none⟩ = some (.string x.ty) := hv' 1 _ rfl
      have b2 : wr.cell? ⟨b', off' + k * 6 + 2, none⟩ = some (.string x.at_) := hv' 2 _ rfl
      have b3 : wr.cell? ⟨b', off' + k * 6 + 3, none⟩ = some (.string x.nm) := hv' 3 _ rfl
      replace b4 : wr.cell? ⟨b', off' + k * 6 + 4, none⟩ = some (.slice B2 x.ats.length d2) := b4
      have b5 : wr.cell? ⟨b', off' + k * 6 + 5, none⟩ = some (.int .i64 x.n) := hv' 5 _ rfl
      have g0 : (0 : Int) ≤ (k : Int) := by omega
      have g1 : (k : Int) < l.length := by omega
      have e0 := (World.block_lt_of_cell? wr _ a0)
      have e1 := (World.block_lt_of_cell? wr _ b0)
      have hb2 : Below w.heap.size w ((wr.alloc (.cells ⟨cgC x A2 c2⟩ 60)).alloc (.cells ⟨cgC x B2 d2⟩ 60)) := (hB.alloc hB.size _).alloc (by have := hB.size; simp; omega) _
      have kk : Calls Tryd.prog 24 #[.slice A2 x.ats.length c2, .slice B2 x.ats.length d2] ((wr.alloc (.cells ⟨cgC x A2 c2⟩ 60)).alloc (.cells ⟨cgC x B2 d2⟩ 60)) fun e w' => e = .returned (.bool true) ∧ ∃ q, w' = ((wr.alloc (.cells ⟨cgC x A2 c2⟩ 60)).alloc (.cells ⟨cgC x B2 d2⟩ 60)).drewN q :=
        k1.out _ _ _ _ _ _ _ hxs _ ((r2.alloc _).alloc _) ((s2.alloc _).alloc _)
      replace kk := Lib.hid kk
      replace hb2 := Lib.hid hb2
      clear hv hsl hv' hsl' hx r2 s2
      go_wp2_with (go_at_call 24; refine kk.out.mono ?_; rintro e w2 ⟨rfl, q, rfl⟩)
      go_roundw
      case rel => exact ⟨k + 1, by omega, by go_num, below_drewN hb2.out q⟩
      case measure => simp [intOf]; omega
    · obtain rfl : k = l.length := by omega
      go_wp2
      go_ret
      exact ⟨rfl, hB⟩
end evW
end Go.Proofs.YtmadafejenjkcaaDoor
