/- What each kind of change does to the design: dropAttr. -/
import Derived.Test.YtmadafejenjkcaaDoorW9
import Derived.Test.YtmadafejenjkcaaDoorWr
namespace Go.Proofs.YtmadafejenjkcaaDoor
open Go.RowKit Go.Deep
set_option linter.unusedVariables false
set_option linter.unusedSimpArgs false

theorem chF_5 {l : List Fd} {c : Cg} {k : Nat} (h : c.kd = 5) (hf : flAt l c.at_ = some k) : chF l c = some (l.eraseIdx k) := by
  unfold chF
  rw [if_neg (by omega), hf]
  exact if_pos h
section
variable {w : World} {B g nl : Nat} {vk vl : Value} {by_ : Int} {l : List (Kd × Value)}
/-- behind a write to a kind's row of fields -/
theorem DX.overF {gk cap i : Nat} {p : Kd × Value} {W1 : World} (h : DX w B g (.slice (some ⟨gk, 0, none⟩) l.length cap) vl by_ nl l) (hp : l[i]? = some p) (hg : w.grownBy W1 p.2.ownBlock) :
    W1.cell? ⟨g, 0, none⟩ = some (.slice (some ⟨gk, 0, none⟩) l.length cap) ∧ W1.cell? ⟨gk, i * 3 + 2, none⟩ = some p.2 ∧ W1.frozen? ⟨gk, i * 3 + 2, none⟩ = false := by
  obtain ⟨a1, _, _, a2, a3⟩ := h.at' hp
  have hf := h.fr p (List.mem_of_getElem? hp)
  have n1 : p.2.ownBlock ≠ some g := hf.neBlk h.bx (by decide)
  have n2 : p.2.ownBlock ≠ some gk := hf.offRow h.kr (by decide)
  have hgk := (h.kr.lt gk rfl).2
  have hb1 : W1.heap[gk]? = w.heap[gk]? := hg.block gk hgk (fun e => n2 e.symm)
  exact ⟨hg.cell a1 (fun e => n1 e.symm), (World.cell?_of_block (a := ⟨gk, i * 3 + 2, none⟩) hb1).trans a2, (World.frozen?_of_block (a := ⟨gk, i * 3 + 2, none⟩) hb1).trans (a3 _)⟩
theorem DX.belowF {gk cap i : Nat} {p : Kd × Value} {w0 W1 : World} {x : Value} (h : DX w B g (.slice (some ⟨gk, 0, none⟩) l.length cap) vl by_ nl l) (hp : l[i]? = some p) (hb : Below B w0 w) (hg : w.grownBy W1 p.2.ownBlock) : Below B w0 (W1.setCell ⟨gk, i * 3 + 2, none⟩ x) :=
  (hb.grown hg (Nat.le_trans h.gB (Nat.le_of_lt h.bx.lt)) (fun q hq => ((h.fr p (List.mem_of_getElem? hp)).lt q hq).1)).setCell (h.kr.lt gk rfl).1 _
end
namespace evW
open nmW
set_option maxHeartbeats 8000000 in
theorem dropAttr_k {w : World} {B g nl : Nat} {vk vl : Value} {by_ : Int} {l : List (Kd × Value)} (h : DX w B g vk vl by_ nl l) (hm : SmK (l.map (·.1))) (hnl : nl ≤ 1048576) (c : Cg) (hc : c.kd = 5) (A : Option Addr) (d : Nat) :
    Calls Tryd.prog 62 #[.pointer (some ⟨g, 0, none⟩), .agg #[.int .i64 c.kd, .string c.ty, .string c.at_, .string c.nm, .slice A c.ats.length d, .int .i64 c.n]] w (DPost (l.map (·.1)) c B g (nl + 1) w) := by
  have h0 : Below w.heap.size w (w.alloc (.cells ⟨cgC c A d⟩ 60)) := (Below.refl _ _).alloc (Nat.le_refl _) _
  have hk1 := at_k (h.stay h0) hm c A d
  have hg := h.bx.lt
  have hBg : B ≤ w.heap.size := Nat.le_trans h.gB (Nat.le_of_lt hg)
  by_cases hok : AtOk (l.map (·.1)) c
  · obtain ⟨i, p, k, x, ht, hp, hp1, hf, hx⟩ := hok.pair
    have hch := chK_4 (by omega) (by omega) ht hp1 (chF_5 hc hf)
    have hpm := List.mem_of_getElem? hp
    have hilt : i < l.length := (List.getElem?_eq_some_iff.1 hp).1
    have hklt : k < p.1.fs.length := (List.getElem?_eq_some_iff.1 hx).1
    have g0 : (0 : Int) ≤ (i : Int) := by omega
    have g1 : (i : Int) < l.length := by omega
    have g2 : (0 : Int) ≤ (k : Int) := by omega
    have g3 : (k : Int) < p.1.fs.length := by omega
    have hfl : p.1.fs.length ≤ 8 := hm.fl p.1 (List.mem_map_of_mem hpm)
    have hwk : IntKind.i64.wrap ((k : Int) + 1) = (k : Int) + 1 := by rw [IntKind.wrap_i64]; omega
    obtain ⟨gk, cap, rfl, h1, h2, _⟩ := h.at_ hp
    obtain ⟨gf, capf, hv, h3, h4, h5, h6⟩ := (h.fr p hpm).row (by omega)
    obtain ⟨dl, hlr⟩ := h.lr
    obtain ⟨A3, c3, rfl⟩ := hlr.form
    have hk2 := fun (i2 k2 : Int) (b : Bool) (hI : AtIs (l.map (·.1)) c i2 k2 b) => hI.good ht hp1 hf
    obtain ⟨u, hu, hru⟩ := h6 (k * 3 + 1) _ (flatMap_get (f := fdD) (m := 3) (fun _ => rfl) hx rfl)
    rw [hru.v_inv] at hu
    have kc : ∀ W, Below w.heap.size w W → W.cell? ⟨g, 0, none⟩ = some (.slice (some ⟨gk, 0, none⟩) l.length cap) ∧ W.cell? ⟨g, 1, none⟩ = some (.slice A3 nl c3) ∧ W.cell? ⟨g, 2, none⟩ = some (.int .i64 by_) ∧ W.cell? ⟨gk, i * 3 + 1, none⟩ = some (.int .i64 p.1.fr) ∧ W.cell? ⟨gk, i * 3 + 2, none⟩ = some (.slice (some ⟨gf, 0, none⟩) p.1.fs.length capf) ∧ W.cell? ⟨gf, k * 3 + 1, none⟩ = some (.int .i64 x.fr) := fun W hW => by
      have hx := h.stay hW
      obtain ⟨a1, _, a2, a3, _⟩ := hx.at' hp
      rw [hv] at a3
      exact ⟨a1, hx.c1, hx.c2, a2, a3, (hW.cell (p := ⟨gf, k * 3 + 1, none⟩) h4).trans hu⟩
    have ko : ∀ W, Below w.heap.size w W → OL W B NoB 177 3 (.slice A3 nl c3) nl dl := fun W hW => hlr.stay hW
    have kd := fun W (hW : Below w.heap.size w W) => h.stay hW
    have hne1 : g ≠ gk := fun e => h.kr.neBlk h.bx (by decide) (by rw [e]; rfl)
    have hne2 : g ≠ gf := fun e => (h.fr p hpm).neBlk h.bx (by decide) (by rw [hv, e]; rfl)
    have kn : ∀ W W1, Below w.heap.size w W → W.grownBy W1 (Value.slice A3 nl c3).ownBlock → ((W1.cell? ⟨g, 0, none⟩ = some (.slice (some ⟨gk, 0, none⟩) l.length cap) ∧ W1.cell? ⟨g, 2, none⟩ = some (.int .i64 by_) ∧ W1.cell? ⟨gk, i * 3 + 1, none⟩ = some (.int .i64 p.1.fr) ∧ W1.cell? ⟨gk, i * 3 + 2, none⟩ = some (.slice (some ⟨gf, 0, none⟩) p.1.fs.length capf) ∧ W1.cell? ⟨gf, k * 3 + 1, none⟩ = some (.int .i64 x.fr)) ∧ W1.cell? ⟨g, 1, none⟩ = some (.slice A3 nl c3)) ∧ W1.frozen? ⟨g, 1, none⟩ = false := fun W W1 hW hgr => by
      have hx := h.stay hW
      obtain ⟨a0, a1, a2, a3, a4, a5⟩ := kc W hW
      obtain ⟨b0, b1, b2⟩ := hx.overL hgr
      have hl := ko W hW
      have n1 : (Value.slice A3 nl c3).ownBlock ≠ some g := hl.neBlk hx.bx (by decide)
      have n2 : (Value.slice A3 nl c3).ownBlock ≠ some gk := hl.offRow hx.kr (by decide)
      have hff := hx.fr p hpm
      rw [hv] at hff
      have n3 : (Value.slice A3 nl c3).ownBlock ≠ some gf := hl.offRow hff (by decide)
      exact ⟨⟨⟨b0, hgr.cell a2 (fun e => n1 e.symm), hgr.cell a3 (fun e => n2 e.symm), hgr.cell a4 (fun e => n2 e.symm), hgr.cell a5 (fun e => n3 e.symm)⟩, b1⟩, b2⟩
    have hmp : ∀ v : Value, (l.set i ({ p.1 with fs := p.1.fs.eraseIdx k }, v)).map (·.1) = (l.map (·.1)).set i { p.1 with fs := p.1.fs.eraseIdx k } := fun v => map_set_fst
    have hel : (p.1.fs.eraseIdx k).length = p.1.fs.length - 1 := List.length_eraseIdx_of_lt hklt
    -- the second half: the field is taken out
    have hsec : ∀ (W : World) (v : Value) (n : Nat), DX W B g (.slice (some ⟨gk, 0, none⟩) l.length cap) v by_ n l → Below B w W →
        W.cell? ⟨g, 0, none⟩ = some (.slice (some ⟨gk, 0, none⟩) l.length cap) ∧ W.cell? ⟨gk, i * 3 + 2, none⟩ = some (.slice (some ⟨gf, 0, none⟩) p.1.fs.length capf) ∧
        Calls Tryd.prog 88 #[.slice (some ⟨gf, 0, none⟩) p.1.fs.length capf, .int .i64 (k : Int), .int .i64 ((k : Int) + 1)] W.drew fun e w' => e = .returned (.slice (some ⟨gf, 0, none⟩) (p.1.fs.length - 1) capf) ∧
          w'.cell? ⟨g, 0, none⟩ = some (.slice (some ⟨gk, 0, none⟩) l.length cap) ∧ w'.cell? ⟨gk, i * 3 + 2, none⟩ = some (.slice (some ⟨gf, 0, none⟩) p.1.fs.length capf) ∧ w'.frozen? ⟨gk, i * 3 + 2, none⟩ = false ∧
          DX (w'.setCell ⟨gk, i * 3 + 2, none⟩ (.slice (some ⟨gf, 0, none⟩) (p.1.fs.length - 1) capf)) B g (.slice (some ⟨gk, 0, none⟩) l.length cap) v by_ n (l.set i ({ p.1 with fs := p.1.fs.eraseIdx k }, .slice (some ⟨gf, 0, none⟩) (p.1.fs.length - 1) capf)) ∧
          Below B w (w'.setCell ⟨gk, i * 3 + 2, none⟩ (.slice (some ⟨gf, 0, none⟩) (p.1.fs.length - 1) capf)) := fun W v n hD hBW => by
      obtain ⟨a1, _, _, a2, _⟩ := hD.at' hp
      rw [hv] at a2
      have hD2 := hD.stay (Below.refl _ _).drew
      have ho := hD2.fr p hpm
      rw [hv] at ho
      refine ⟨a1, a2, (delField_k B gf capf p.1.fs.length k NoB _ _ ho hklt).mono ?_⟩
      rintro e w' ⟨rfl, hO, hgw⟩
      rw [flat_erase (f := fdD) (m := 3) (fun _ => rfl)] at hO
      have hgw' : W.drew.grownBy w' p.2.ownBlock := by rw [hv]; exact hgw
      obtain ⟨b1, b2, b3⟩ := hD2.overF hp hgw'
      rw [hv] at b2
      refine ⟨rfl, b1, b2, b3, hD2.putF hp hgw' (.inr rfl) (by rw [hel]; exact hO) (.inl (by rw [hv]; rfl)), hD2.belowF hp hBW.drew hgw'⟩
    replace hsec := Lib.hid hsec
    replace hch := Lib.hid hch
    replace hk1 := Lib.hid hk1
    replace hk2 := Lib.hid hk2
    replace h0 := Lib.hid h0
    replace kc := Lib.hid kc
    replace ko := Lib.hid ko
    replace kd := Lib.hid kd
    replace kn := Lib.hid kn
    replace hmp := Lib.hid hmp
    clear h hm hok hp hp1 hpm hx hf ht hc h6 hu hru hv hlr hel h5 h3
    go_enter Tryd.func62, Tryd.ntmps62
    go_upto_region 4 with (go_at_call 87; refine hk1.out.mono ?_; rintro e w' ⟨i2, k2, b2, rfl, hI, hB1⟩; obtain ⟨rfl, rfl, rfl⟩ := hk2.out i2 k2 b2 hI; clear hI)
    have hW1 := Lib.hid (h0.out.trans (hB1.mono h0.out.size))
    obtain ⟨q0, q1, q2, q3, q4, q5⟩ := kc.out w' hW1.out
    have hW2 := Lib.hid (show Below w.heap.size w (w'.alloc (.cells ⟨lsV p.1.fr x.fr by_⟩ 177)) from hW1.out.alloc hW1.out.size _)
    have hsz : w.heap.size ≤ w'.heap.size := hW1.out.size
    have hsz1 : gk < w'.heap.size := by omega
    have hsz2 : g < w'.heap.size := by omega
    have hsz3 : gf < w'.heap.size := by omega
    clear hB1
    have hSS : (w'.drew.cell? ⟨g, 0, none⟩ = some (.slice (some ⟨gk, 0, none⟩) l.length cap) ∧ w'.drew.cell? ⟨g, 2, none⟩ = some (.int .i64 by_) ∧ w'.drew.cell? ⟨gk, i * 3 + 1, none⟩ = some (.int .i64 p.1.fr) ∧ w'.drew.cell? ⟨gk, i * 3 + 2, none⟩ = some (.slice (some ⟨gf, 0, none⟩) p.1.fs.length capf) ∧ w'.drew.cell? ⟨gf, k * 3 + 1, none⟩ = some (.int .i64 x.fr)) ∧ w'.drew.cell? ⟨g, 1, none⟩ = some (.slice A3 nl c3) := ⟨⟨q0, q2, q3, q4, q5⟩, q1⟩
    refine G_region (p := 31) (S0 := fun W => W.cell? ⟨g, 0, none⟩ = some (.slice (some ⟨gk, 0, none⟩) l.length cap) ∧ W.cell? ⟨g, 2, none⟩ = some (.int .i64 by_) ∧ W.cell? ⟨gk, i * 3 + 1, none⟩ = some (.int .i64 p.1.fr) ∧ W.cell? ⟨gk, i * 3 + 2, none⟩ = some (.slice (some ⟨gf, 0, none⟩) p.1.fs.length capf) ∧ W.cell? ⟨gf, k * 3 + 1, none⟩ = some (.int .i64 x.fr)) (S1 := fun W => W.cell? ⟨g, 1, none⟩ = some (.slice A3 nl c3)) (by kernel_rfl) ?_
    refine' G_take0 (i := 0) (v := _) rfl (by decide) (by kernel_rfl) (by kernel_rfl) (by kernel_rfl) (fun _ _ _ h => h) hSS (.inl ⟨by rfl, ?hy0⟩) ?rest0
    case hy0 => (intro W hW; (try dsimp only at hW); go_simp <;> with_reducible rfl)
    try simp only [Act.put, List.setIfInBounds_toArray, List.set_cons_zero, List.set_cons_succ]
    refine' G_take0 (i := 1) (v := _) rfl (by decide) (by kernel_rfl) (by kernel_rfl) (by kernel_rfl) (fun _ _ _ h => h) hSS (.inl ⟨by rfl, ?hy1⟩) ?rest1
    case hy1 => (intro W hW; (try dsimp only at hW); go_simp <;> with_reducible rfl)
    try simp only [Act.put, List.setIfInBounds_toArray, List.set_cons_zero, List.set_cons_succ]
    refine' G_take0 (i := 2) (v := _) rfl (by decide) (by kernel_rfl) (by kernel_rfl) (by kernel_rfl) (fun _ _ _ h => h) hSS (.inl ⟨by rfl, ?hy2⟩) ?rest2
    case hy2 => (intro W hW; (try dsimp only at hW); go_simp <;> with_reducible rfl)
    try simp only [Act.put, List.setIfInBounds_toArray, List.set_cons_zero, List.set_cons_succ]
    refine' G_take0 (i := 3) (v := _) rfl (by decide) (by kernel_rfl) (by kernel_rfl) (by kernel_rfl) (fun _ _ _ h => h) hSS (.inl ⟨by rfl, ?hy3⟩) ?rest3
    case hy3 => (intro W hW; (try dsimp only at hW); go_simp <;> with_reducible rfl)
    try simp only [Act.put, List.setIfInBounds_toArray, List.set_cons_zero, List.set_cons_succ]
    refine' G_take1 (i := 4) (v := _) rfl (by decide) (by kernel_rfl) (by kernel_rfl) (by kernel_rfl) rfl (by kernel_rfl) (by kernel_rfl) (fun _ _ _ h => h) hSS (.inl ⟨by rfl, ?hy4⟩) ?rest4
    case hy4 => (intro W hW; (try dsimp only at hW); go_simp <;> with_reducible rfl)
    try simp only [Act.put, List.setIfInBounds_toArray, List.set_cons_zero, List.set_cons_succ]
    refine' G_take0 (i := 5) (v := _) rfl (by decide) (by kernel_rfl) (by kernel_rfl) (by kernel_rfl) (fun _ _ _ h => h) hSS (.inl ⟨by rfl, ?hy5⟩) ?rest5
    case hy5 => (intro W hW; (try dsimp only at hW); go_simp <;> with_reducible rfl)
    try simp only [Act.put, List.setIfInBounds_toArray, List.set_cons_zero, List.set_cons_succ]
    refine' G_take0 (i := 6) (v := _) rfl (by decide) (by kernel_rfl) (by kernel_rfl) (by kernel_rfl) (fun _ _ _ h => h) hSS (.inl ⟨by rfl, ?hy6⟩) ?rest6
    case hy6 => (intro W hW; (try dsimp only at hW); go_simp <;> with_reducible rfl)
    try simp only [Act.put, List.setIfInBounds_toArray, List.set_cons_zero, List.set_cons_succ]
    refine' G_take0 (i := 7) (v := _) rfl (by decide) (by kernel_rfl) (by kernel_rfl) (by kernel_rfl) (fun _ _ _ h => h) hSS (.inl ⟨by rfl, ?hy7⟩) ?rest7
    case hy7 => (intro W hW; (try dsimp only at hW); go_simp <;> with_reducible rfl)
    try simp only [Act.put, List.setIfInBounds_toArray, List.set_cons_zero, List.set_cons_succ]
    refine' G_take0 (i := 8) (v := _) rfl (by decide) (by kernel_rfl) (by kernel_rfl) (by kernel_rfl) (fun _ _ _ h => h) hSS (.inl ⟨by rfl, ?hy8⟩) ?rest8
    case hy8 => (intro W hW; (try dsimp only at hW); go_simp <;> with_reducible rfl)
    try simp only [Act.put, List.setIfInBounds_toArray, List.set_cons_zero, List.set_cons_succ]
    refine' G_take0 (i := 9) (v := _) rfl (by decide) (by kernel_rfl) (by kernel_rfl) (by kernel_rfl) (fun _ _ _ h => h) hSS (.inl ⟨by rfl, ?hy9⟩) ?rest9
    case hy9 => (intro W hW; (try dsimp only at hW); go_simp <;> with_reducible rfl)
    try simp only [Act.put, List.setIfInBounds_toArray, List.set_cons_zero, List.set_cons_succ]
    refine' G_take0 (i := 10) (v := _) rfl (by decide) (by kernel_rfl) (by kernel_rfl) (by kernel_rfl) (fun _ _ _ h => h) hSS (.inl ⟨by rfl, ?hy10⟩) ?rest10
    case hy10 => (intro W hW; (try dsimp only at hW); go_simp <;> with_reducible rfl)
    try simp only [Act.put, List.setIfInBounds_toArray, List.set_cons_zero, List.set_cons_succ]
    refine' G_take0 (i := 11) (v := _) rfl (by decide) (by kernel_rfl) (by kernel_rfl) (by kernel_rfl) (fun _ _ _ h => h) hSS (.inl ⟨by rfl, ?hy11⟩) ?rest11
    case hy11 => (intro W hW; (try dsimp only at hW); go_simp <;> with_reducible rfl)
    try simp only [Act.put, List.setIfInBounds_toArray, List.set_cons_zero, List.set_cons_succ]
    refine' G_take0 (i := 12) (v := _) rfl (by decide) (by kernel_rfl) (by kernel_rfl) (by kernel_rfl) (fun _ _ _ h => h) hSS (.inl ⟨by rfl, ?hy12⟩) ?rest12
    case hy12 => (intro W hW; (try dsimp only at hW); go_simp <;> with_reducible rfl)
    try simp only [Act.put, List.setIfInBounds_toArray, List.set_cons_zero, List.set_cons_succ]
    refine' G_take0 (i := 13) (v := _) rfl (by decide) (by kernel_rfl) (by kernel_rfl) (by kernel_rfl) (fun _ _ _ h => h) hSS (.inl ⟨by rfl, ?hy13⟩) ?rest13
    case hy13 => (intro W hW; (try dsimp only at hW); go_simp <;> with_reducible rfl)
    try simp only [Act.put, List.setIfInBounds_toArray, List.set_cons_zero, List.set_cons_succ]
    refine' G_take0 (i := 14) (v := _) rfl (by decide) (by kernel_rfl) (by kernel_rfl) (by kernel_rfl) (fun _ _ _ h => h) hSS (.inl ⟨by rfl, ?hy14⟩) ?rest14
    case hy14 => (intro W hW; (try dsimp only at hW); go_simp <;> with_reducible rfl)
    try simp only [Act.put, List.setIfInBounds_toArray, List.set_cons_zero, List.set_cons_succ]
    refine' G_take0 (i := 15) (v := _) rfl (by decide) (by kernel_rfl) (by kernel_rfl) (by kernel_rfl) (fun _ _ _ h => h) hSS (.inl ⟨by rfl, ?hy15⟩) ?rest15
    case hy15 => (intro W hW; (try dsimp only at hW); go_simp <;> with_reducible rfl)
    try simp only [Act.put, List.setIfInBounds_toArray, List.set_cons_zero, List.set_cons_succ]
    refine' G_take0 (i := 16) (v := _) rfl (by decide) (by kernel_rfl) (by kernel_rfl) (by kernel_rfl) (fun _ _ _ h => h) hSS (.inl ⟨by rfl, ?hy16⟩) ?rest16
    case hy16 => (intro W hW; (try dsimp only at hW); go_simp <;> with_reducible rfl)
    try simp only [Act.put, List.setIfInBounds_toArray, List.set_cons_zero, List.set_cons_succ]
    refine' G_take0 (i := 17) (v := _) rfl (by decide) (by kernel_rfl) (by kernel_rfl) (by kernel_rfl) (fun _ _ _ h => h) hSS (.inl ⟨by rfl, ?hy17⟩) ?rest17
    case hy17 => (intro W hW; (try dsimp only at hW); go_simp <;> with_reducible rfl)
    try simp only [Act.put, List.setIfInBounds_toArray, List.set_cons_zero, List.set_cons_succ]
    refine' G_take0 (i := 18) (v := _) rfl (by decide) (by kernel_rfl) (by kernel_rfl) (by kernel_rfl) (fun _ _ _ h => h) hSS (.inl ⟨by rfl, ?hy18⟩) ?rest18
    case hy18 => (intro W hW; (try dsimp only at hW); go_simp <;> with_reducible rfl)
    try simp only [Act.put, List.setIfInBounds_toArray, List.set_cons_zero, List.set_cons_succ]
    refine' G_take0 (i := 19) (v := _) rfl (by decide) (by kernel_rfl) (by kernel_rfl) (by kernel_rfl) (fun _ _ _ h => h) hSS (.inl ⟨by rfl, ?hy19⟩) ?rest19
    case hy19 => (intro W hW; (try dsimp only at hW); go_simp <;> with_reducible rfl)
    try simp only [Act.put, List.setIfInBounds_toArray, List.set_cons_zero, List.set_cons_succ]
    refine' G_take0 (i := 20) (v := _) rfl (by decide) (by kernel_rfl) (by kernel_rfl) (by kernel_rfl) (fun _ _ _ h => h) hSS (.inl ⟨by rfl, ?hy20⟩) ?rest20
    case hy20 => (intro W hW; (try dsimp only at hW); go_simp <;> with_reducible rfl)
    try simp only [Act.put, List.setIfInBounds_toArray, List.set_cons_zero, List.set_cons_succ]
    refine' G_take0 (i := 21) (v := _) rfl (by decide) (by kernel_rfl) (by kernel_rfl) (by kernel_rfl) (fun _ _ _ h => h) hSS (.inl ⟨by rfl, ?hy21⟩) ?rest21
    case hy21 => (intro W hW; (try dsimp only at hW); go_simp <;> with_reducible rfl)
    try simp only [Act.put, List.setIfInBounds_toArray, List.set_cons_zero, List.set_cons_succ]
    refine' G_take0 (i := 22) (v := _) rfl (by decide) (by kernel_rfl) (by kernel_rfl) (by kernel_rfl) (fun _ _ _ h => h) hSS (.inl ⟨by rfl, ?hy22⟩) ?rest22
    case hy22 => (intro W hW; (try dsimp only at hW); go_simp <;> with_reducible rfl)
    try simp only [Act.put, List.setIfInBounds_toArray, List.set_cons_zero, List.set_cons_succ]
    refine' G_take0 (i := 23) (v := _) rfl (by decide) (by kernel_rfl) (by kernel_rfl) (by kernel_rfl) (fun _ _ _ h => h) hSS (.inl ⟨by rfl, ?hy23⟩) ?rest23
    case hy23 => (intro W hW; (try dsimp only at hW); go_simp <;> with_reducible rfl)
    try simp only [Act.put, List.setIfInBounds_toArray, List.set_cons_zero, List.set_cons_succ]
    refine' G_take0 (i := 24) (v := _) rfl (by decide) (by kernel_rfl) (by kernel_rfl) (by kernel_rfl) (fun _ _ _ h => h) hSS (.inl ⟨by rfl, ?hy24⟩) ?rest24
    case hy24 => (intro W hW; (try dsimp only at hW); go_simp <;> with_reducible rfl)
    try simp only [Act.put, List.setIfInBounds_toArray, List.set_cons_zero, List.set_cons_succ]
    refine' G_take0 (i := 25) (v := _) rfl (by decide) (by kernel_rfl) (by kernel_rfl) (by kernel_rfl) (fun _ _ _ h => h) hSS (.inl ⟨by rfl, ?hy25⟩) ?rest25
    case hy25 => (intro W hW; (try dsimp only at hW); go_simp <;> with_reducible rfl)
    try simp only [Act.put, List.setIfInBounds_toArray, List.set_cons_zero, List.set_cons_succ]
    refine' G_take0 (i := 26) (v := _) rfl (by decide) (by kernel_rfl) (by kernel_rfl) (by kernel_rfl) (fun _ _ _ h => h) hSS (.inl ⟨by rfl, ?hy26⟩) ?rest26
    case hy26 => (intro W hW; (try dsimp only at hW); go_simp <;> with_reducible rfl)
    try simp only [Act.put, List.setIfInBounds_toArray, List.set_cons_zero, List.set_cons_succ]
    refine' G_take0 (i := 27) (v := _) rfl (by decide) (by kernel_rfl) (by kernel_rfl) (by kernel_rfl) (fun _ _ _ h => h) hSS (.inl ⟨by rfl, ?hy27⟩) ?rest27
    case hy27 => (intro W hW; (try dsimp only at hW); go_simp <;> with_reducible rfl)
    try simp only [Act.put, List.setIfInBounds_toArray, List.set_cons_zero, List.set_cons_succ]
    refine' G_take0 (i := 28) (v := _) rfl (by decide) (by kernel_rfl) (by kernel_rfl) (by kernel_rfl) (fun _ _ _ h => h) hSS (.inl ⟨by rfl, ?hy28⟩) ?rest28
    case hy28 => (intro W hW; (try dsimp only at hW); go_simp <;> with_reducible rfl)
    try simp only [Act.put, List.setIfInBounds_toArray, List.set_cons_zero, List.set_cons_succ]
    refine' G_take0 (i := 29) (v := _) rfl (by decide) (by kernel_rfl) (by kernel_rfl) (by kernel_rfl) (fun _ _ _ h => h) hSS (.inl ⟨by rfl, ?hy29⟩) ?rest29
    case hy29 => (intro W hW; (try dsimp only at hW); go_simp <;> with_reducible rfl)
    try simp only [Act.put, List.setIfInBounds_toArray, List.set_cons_zero, List.set_cons_succ]
    refine G_step (k := 30) (by kernel_rfl) rfl (fun K hK => ?_)
    go_simp
    have hkc := kc.out _ hW2.out
    refine hK.out _ _ ⟨⟨hkc.1, hkc.2.2.1, hkc.2.2.2.1, hkc.2.2.2.2.1, hkc.2.2.2.2.2⟩, fun _ => hkc.2.1⟩ ?_
    refine G_step (k := 31) (by kernel_rfl) rfl (fun K hK => ?_)
    refine step_app (by rfl) (.tmp 21) (.tmp 47) _ (by rfl) (m := 1) (news := lsD p.1.fr x.fr by_) elLoss (by exact (ko.out _ hW2.out).drew) (by rfl) (by rfl) (by exact (Src.lit (ls_rd w' _ p.1.fr x.fr by_)).drew) rfl (by omega) (by omega) (by simp; omega) ?_
    intro v' w1 hO1 hg1 ha1
    obtain ⟨B3, d3, rfl⟩ := hO1.form
    have hg2 := undrew hg1
    obtain ⟨hS3, t2⟩ := kn.out _ _ hW2.out hg2
    refine hK.out _ _ ⟨hS3.1, fun _ => hS3.2⟩ ?_
    have hD := (kd.out _ hW2.out).putL hg2 hO1
    have hBB := (kd.out _ hW2.out).belowL (x := .slice B3 (nl + 1) d3) (hW2.out.mono hBg) hg2
    obtain ⟨s0, s1, hdel⟩ := hsec.out _ _ _ hD hBB
    replace hdel := Lib.hid hdel
    clear hg1 hg2 hO1 ha1 hD hBB hK K hkc
    try simp only [Act.put, List.setIfInBounds_toArray, List.set_cons_zero, List.set_cons_succ]
    refine' G_take0 (i := 32) (v := _) rfl (by decide) (by kernel_rfl) (by kernel_rfl) (by kernel_rfl) (fun _ _ _ h => h) hS3 (.inl ⟨by rfl, ?hy32⟩) ?rest32
    case hy32 => (intro W hW; (try dsimp only at hW); go_simp <;> with_reducible rfl)
    try simp only [Act.put, List.setIfInBounds_toArray, List.set_cons_zero, List.set_cons_succ]
    refine' G_take0 (i := 33) (v := _) rfl (by decide) (by kernel_rfl) (by kernel_rfl) (by kernel_rfl) (fun _ _ _ h => h) hS3 (.inl ⟨by rfl, ?hy33⟩) ?rest33
    case hy33 => (intro W hW; (try dsimp only at hW); go_simp <;> with_reducible rfl)
    try simp only [Act.put, List.setIfInBounds_toArray, List.set_cons_zero, List.set_cons_succ]
    refine G_step (k := 34) (by kernel_rfl) rfl (fun K hK => ?_)
    go_simp
    refine hK.out _ _ ⟨?_, fun h => absurd (h.symm.trans (by kernel_rfl : _ = true)) (by simp)⟩ ?_
    · obtain ⟨⟨a0, a1, a2, a3, a4⟩, _⟩ := hS3
      refine ⟨s0, ?_, ?_, s1, ?_⟩
      · rw [World.cell?_setCell_other _ _ _ _ (by simp)]; exact a1
      · rw [World.cell?_setCell_far _ _ _ _ (by show g ≠ gk; exact hne1)]; exact a2
      · rw [World.cell?_setCell_far _ _ _ _ (by show g ≠ gf; exact hne2)]; exact a4
    refine G_done (by kernel_rfl) ?_ _
    try simp only [Act.put, List.setIfInBounds_toArray, List.set_cons_zero, List.set_cons_succ]
    clear hK K hS3 hSS t2 q0 q1 q2 q3 q4 q5
    generalize w1.setCell ⟨g, 1, none⟩ (.slice B3 (nl + 1) d3) = W3 at *
    go_upto_region 5 with fail
    have hST : (W3.drew.cell? ⟨g, 0, none⟩ = some (.slice (some ⟨gk, 0, none⟩) l.length cap)) ∧ W3.drew.cell? ⟨gk, i * 3 + 2, none⟩ = some (.slice (some ⟨gf, 0, none⟩) p.1.fs.length capf) := ⟨s0, s1⟩
    refine G_region (p := 16) (S0 := fun W => W.cell? ⟨g, 0, none⟩ = some (.slice (some ⟨gk, 0, none⟩) l.length cap)) (S1 := fun W => W.cell? ⟨gk, i * 3 + 2, none⟩ = some (.slice (some ⟨gf, 0, none⟩) p.1.fs.length capf)) (by kernel_rfl) ?_
    refine' G_take0 (i := 0) (v := _) rfl (by decide) (by kernel_rfl) (by kernel_rfl) (by kernel_rfl) (fun _ _ _ h => h) hST (.inl ⟨by rfl, ?hyb0⟩) ?restb0
    case hyb0 => (intro W hW; (try dsimp only at hW); go_simp <;> with_reducible rfl)
    try simp only [Act.put, List.setIfInBounds_toArray, List.set_cons_zero, List.set_cons_succ]
    refine' G_take0 (i := 1) (v := _) rfl (by decide) (by kernel_rfl) (by kernel_rfl) (by kernel_rfl) (fun _ _ _ h => h) hST (.inl ⟨by rfl, ?hyb1⟩) ?restb1
    case hyb1 => (intro W hW; (try dsimp only at hW); go_simp <;> with_reducible rfl)
    try simp only [Act.put, List.setIfInBounds_toArray, List.set_cons_zero, List.set_cons_succ]
    refine' G_take0 (i := 2) (v := _) rfl (by decide) (by kernel_rfl) (by kernel_rfl) (by kernel_rfl) (fun _ _ _ h => h) hST (.inl ⟨by rfl, ?hyb2⟩) ?restb2
    case hyb2 => (intro W hW; (try dsimp only at hW); go_simp <;> with_reducible rfl)
    try simp only [Act.put, List.setIfInBounds_toArray, List.set_cons_zero, List.set_cons_succ]
    refine' G_take0 (i := 3) (v := _) rfl (by decide) (by kernel_rfl) (by kernel_rfl) (by kernel_rfl) (fun _ _ _ h => h) hST (.inl ⟨by rfl, ?hyb3⟩) ?restb3
    case hyb3 => (intro W hW; (try dsimp only at hW); go_simp <;> with_reducible rfl)
    try simp only [Act.put, List.setIfInBounds_toArray, List.set_cons_zero, List.set_cons_succ]
    refine' G_take0 (i := 4) (v := _) rfl (by decide) (by kernel_rfl) (by kernel_rfl) (by kernel_rfl) (fun _ _ _ h => h) hST (.inl ⟨by rfl, ?hyb4⟩) ?restb4
    case hyb4 => (intro W hW; (try dsimp only at hW); go_simp <;> with_reducible rfl)
    try simp only [Act.put, List.setIfInBounds_toArray, List.set_cons_zero, List.set_cons_succ]
    refine' G_take0 (i := 5) (v := _) rfl (by decide) (by kernel_rfl) (by kernel_rfl) (by kernel_rfl) (fun _ _ _ h => h) hST (.inl ⟨by rfl, ?hyb5⟩) ?restb5
    case hyb5 => (intro W hW; (try dsimp only at hW); go_simp <;> with_reducible rfl)
    try simp only [Act.put, List.setIfInBounds_toArray, List.set_cons_zero, List.set_cons_succ]
    refine' G_take0 (i := 6) (v := _) rfl (by decide) (by kernel_rfl) (by kernel_rfl) (by kernel_rfl) (fun _ _ _ h => h) hST (.inl ⟨by rfl, ?hyb6⟩) ?restb6
    case hyb6 => (intro W hW; (try dsimp only at hW); go_simp <;> with_reducible rfl)
    try simp only [Act.put, List.setIfInBounds_toArray, List.set_cons_zero, List.set_cons_succ]
    refine' G_take0 (i := 7) (v := _) rfl (by decide) (by kernel_rfl) (by kernel_rfl) (by kernel_rfl) (fun _ _ _ h => h) hST (.inl ⟨by rfl, ?hyb7⟩) ?restb7
    case hyb7 => (intro W hW; (try dsimp only at hW); go_simp <;> with_reducible rfl)
    try simp only [Act.put, List.setIfInBounds_toArray, List.set_cons_zero, List.set_cons_succ]
    refine' G_take0 (i := 8) (v := _) rfl (by decide) (by kernel_rfl) (by kernel_rfl) (by kernel_rfl) (fun _ _ _ h => h) hST (.inl ⟨by rfl, ?hyb8⟩) ?restb8
    case hyb8 => (intro W hW; (try dsimp only at hW); go_simp <;> with_reducible rfl)
    try simp only [Act.put, List.setIfInBounds_toArray, List.set_cons_zero, List.set_cons_succ]
    refine' G_take0 (i := 9) (v := _) rfl (by decide) (by kernel_rfl) (by kernel_rfl) (by kernel_rfl) (fun _ _ _ h => h) hST (.inl ⟨by rfl, ?hyb9⟩) ?restb9
    case hyb9 => (intro W hW; (try dsimp only at hW); go_simp <;> with_reducible rfl)
    try simp only [Act.put, List.setIfInBounds_toArray, List.set_cons_zero, List.set_cons_succ]
    refine' G_take0 (i := 10) (v := _) rfl (by decide) (by kernel_rfl) (by kernel_rfl) (by kernel_rfl) (fun _ _ _ h => h) hST (.inl ⟨by rfl, ?hyb10⟩) ?restb10
    case hyb10 => (intro W hW; (try dsimp only at hW); go_simp <;> with_reducible rfl)
    try simp only [Act.put, List.setIfInBounds_toArray, List.set_cons_zero, List.set_cons_succ]
    refine' G_take0 (i := 11) (v := _) rfl (by decide) (by kernel_rfl) (by kernel_rfl) (by kernel_rfl) (fun _ _ _ h => h) hST (.inl ⟨by rfl, ?hyb11⟩) ?restb11
    case hyb11 => (intro W hW; (try dsimp only at hW); go_simp <;> with_reducible rfl)
    try simp only [Act.put, List.setIfInBounds_toArray, List.set_cons_zero, List.set_cons_succ]
    refine' G_take1 (i := 12) (v := _) rfl (by decide) (by kernel_rfl) (by kernel_rfl) (by kernel_rfl) rfl (by kernel_rfl) (by kernel_rfl) (fun _ _ _ h => h) hST (.inl ⟨by rfl, ?hyb12⟩) ?restb12
    case hyb12 => (intro W hW; (try dsimp only at hW); go_simp <;> with_reducible rfl)
    try simp only [Act.put, List.setIfInBounds_toArray, List.set_cons_zero, List.set_cons_succ]
    refine' G_take0 (i := 13) (v := _) rfl (by decide) (by kernel_rfl) (by kernel_rfl) (by kernel_rfl) (fun _ _ _ h => h) hST (.inl ⟨by rfl, ?hyb13⟩) ?restb13
    case hyb13 => (intro W hW; (try dsimp only at hW); go_simp <;> with_reducible rfl)
    try simp only [Act.put, List.setIfInBounds_toArray, List.set_cons_zero, List.set_cons_succ]
    refine' G_take0 (i := 14) (v := _) rfl (by decide) (by kernel_rfl) (by kernel_rfl) (by kernel_rfl) (fun _ _ _ h => h) hST (.inl ⟨by rfl, ?hyb14⟩) ?restb14
    case hyb14 => (intro W hW; (try dsimp only at hW); go_simp <;> with_reducible rfl)
    try simp only [Act.put, List.setIfInBounds_toArray, List.set_cons_zero, List.set_cons_succ]
    refine' G_take0 (i := 15) (v := _) rfl (by decide) (by kernel_rfl) (by kernel_rfl) (by kernel_rfl) (fun _ _ _ h => h) hST (.inl ⟨by rfl, ?hyb15⟩) ?restb15
    case hyb15 => (intro W hW; (try dsimp only at hW); go_simp <;> with_reducible rfl)
    try simp only [Act.put, List.setIfInBounds_toArray, List.set_cons_zero, List.set_cons_succ]
    refine G_step (k := 16) (by kernel_rfl) rfl (fun K hK => ?_)
    go_simp
    go_at_call 88
    refine hdel.out.mono ?_
    rintro e w3 ⟨rfl, u0, u1, u2, f1, f2⟩
    replace f1 := Lib.hid f1
    replace f2 := Lib.hid f2
    refine hK.out _ _ ⟨u0, fun _ => u1⟩ ?_
    have hSU : w3.cell? ⟨g, 0, none⟩ = some (.slice (some ⟨gk, 0, none⟩) l.length cap) ∧ w3.cell? ⟨gk, i * 3 + 2, none⟩ = some (.slice (some ⟨gf, 0, none⟩) p.1.fs.length capf) := ⟨u0, u1⟩
    clear hK K hST hdel s0 s1
    try simp only [Act.put, List.setIfInBounds_toArray, List.set_cons_zero, List.set_cons_succ]
    refine' G_take0 (i := 17) (v := _) rfl (by decide) (by kernel_rfl) (by kernel_rfl) (by kernel_rfl) (fun _ _ _ h => h) hSU (.inl ⟨by rfl, ?hyc17⟩) ?restc17
    case hyc17 => (intro W hW; (try dsimp only at hW); go_simp <;> with_reducible rfl)
    try simp only [Act.put, List.setIfInBounds_toArray, List.set_cons_zero, List.set_cons_succ]
    refine' G_take0 (i := 18) (v := _) rfl (by decide) (by kernel_rfl) (by kernel_rfl) (by kernel_rfl) (fun _ _ _ h => h) hSU (.inl ⟨by rfl, ?hyc18⟩) ?restc18
    case hyc18 => (intro W hW; (try dsimp only at hW); go_simp <;> with_reducible rfl)
    try simp only [Act.put, List.setIfInBounds_toArray, List.set_cons_zero, List.set_cons_succ]
    refine G_step (k := 19) (by kernel_rfl) rfl (fun K hK => ?_)
    go_simp
    refine hK.out _ _ ⟨?_, fun h => absurd (h.symm.trans (by kernel_rfl : _ = true)) (by simp)⟩ ?_
    · dsimp only
      rw [World.cell?_setCell_far _ _ _ _ (by show gk ≠ g; exact fun e => hne1 e.symm)]; exact u0
    refine G_done (by kernel_rfl) ?_ _
    try simp only [Act.put, List.setIfInBounds_toArray, List.set_cons_zero, List.set_cons_succ]
    clear hK K hSU u0 u1 u2
    go_wp2
    go_ret
    exact DPost.mk_some hch.out f1.out (hmp.out _) (Nat.le_refl _) f2.out
  · have hch := chK_noAt (by omega) (by omega) hok
    have hk2 := fun (i2 k2 : Int) (b : Bool) (hI : AtIs (l.map (·.1)) c i2 k2 b) => hI.bad hok
    replace hch := Lib.hid hch
    replace hk1 := Lib.hid hk1
    replace hk2 := Lib.hid hk2
    replace h0 := Lib.hid h0
    clear h hm hok hc
    go_enter Tryd.func62, Tryd.ntmps62
    go_wp2_with (go_at_call 87; refine hk1.out.mono ?_; rintro e w' ⟨i2, k2, b2, rfl, hI, hB1⟩; obtain rfl := hk2.out i2 k2 b2 hI; clear hI)
    go_ret
    exact DPost.mk_none hch.out ((h0.out.trans (hB1.mono h0.out.size)).mono hBg)
end evW
end Go.Proofs.YtmadafejenjkcaaDoor
