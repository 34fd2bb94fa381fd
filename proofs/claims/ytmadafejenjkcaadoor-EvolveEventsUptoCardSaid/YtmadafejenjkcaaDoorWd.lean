/- What each kind of change does to the design: moveAttr. -/
import Derived.Test.YtmadafejenjkcaaDoorWb
import Derived.Test.YtmadafejenjkcaaDoorWc
namespace Go.Proofs.YtmadafejenjkcaaDoor
open Go.RowKit Go.Deep
set_option linter.unusedVariables false
set_option linter.unusedSimpArgs false

theorem flat_take {α β : Type} {f : α → List β} {m : Nat} (hf : ∀ x, (f x).length = m) : ∀ (l : List α) (i : Nat), (l.flatMap f).take (i * m) = (l.take i).flatMap f := by
  intro l
  induction l with
  | nil => intro i; simp
  | cons a l ih =>
    intro i
    cases i with
    | zero => simp
    | succ i =>
      have e1 : (i + 1) * m = m + i * m := by rw [Nat.succ_mul]; omega
      rw [List.take_succ_cons, List.flatMap_cons, List.flatMap_cons, ← ih i, e1, List.take_append, hf a, List.take_of_length_le (by rw [hf a]; omega), show m + i * m - m = i * m by omega]
theorem flat_drop {α β : Type} {f : α → List β} {m : Nat} (hf : ∀ x, (f x).length = m) : ∀ (l : List α) (i : Nat), (l.flatMap f).drop (i * m) = (l.drop i).flatMap f := by
  intro l
  induction l with
  | nil => intro i; simp
  | cons a l ih =>
    intro i
    cases i with
    | zero => simp
    | succ i =>
      have e1 : (i + 1) * m = m + i * m := by rw [Nat.succ_mul]; omega
      rw [List.drop_succ_cons, List.flatMap_cons, ← ih i, e1, List.drop_append, hf a, List.drop_of_length_le (by rw [hf a]; omega), List.nil_append, show m + i * m - m = i * m by omega]
theorem mv_flat {l : List Fd} {k n : Nat} {x : Fd} (hx : l[k]? = some x) : ((l.eraseIdx k).flatMap fdD).take (n * 3) ++ fdD x ++ ((l.eraseIdx k).flatMap fdD).drop (n * 3) = (mvF l k n).flatMap fdD := by
  rw [flat_take (m := 3) (fun _ => rfl), flat_drop (m := 3) (fun _ => rfl), mvF, hx]
  simp
theorem mv_len {l : List Fd} {k n : Nat} (hk : k < l.length) : (mvF l k n).length = l.length := by
  obtain ⟨x, hx⟩ := getx hk
  rw [mvF, hx]
  simp [List.length_eraseIdx_of_lt hk]
  omega
theorem chF_7 {l : List Fd} {c : Cg} {k N : Nat} (h : c.kd = 7) (hf : flAt l c.at_ = some k) (hN : c.n = N) (hl : N < l.length) : chF l c = some (mvF l k N) := by
  unfold chF
  rw [if_neg (by omega), hf]
  show (if _ then _ else if _ then _ else if _ then _ else _) = _
  rw [if_neg (by omega), if_neg (by omega), if_pos (by omega), show c.n.toNat = N by omega]
theorem chF_7no {l : List Fd} {c : Cg} {k : Nat} (h : c.kd = 7) (hf : flAt l c.at_ = some k) (hN : ¬ (0 ≤ c.n ∧ c.n < l.length)) : chF l c = none := by
  unfold chF
  rw [if_neg (by omega), hf]
  show (if _ then _ else if _ then _ else if _ then _ else _) = _
  rw [if_neg (by omega), if_neg (by omega), if_neg hN]
namespace evW
open nmW
set_option maxRecDepth 100000 in
set_option maxHeartbeats 8000000 in
theorem moveAttr_k {w : World} {B g nl : Nat} {vk vl : Value} {by_ : Int} {l : List (Kd × Value)} (h : DX w B g vk vl by_ nl l) (hm : SmK (l.map (·.1))) (c : Cg) (hc : c.kd = 7) (A : Option Addr) (d : Nat) :
    Calls Tryd.prog 64 #[.pointer (some ⟨g, 0, none⟩), .agg #[.int .i64 c.kd, .string c.ty, .string c.at_, .string c.nm, .slice A c.ats.length d, .int .i64 c.n]] w (DPost (l.map (·.1)) c B g (nl + 1) w) := by
  have h0 : Below w.heap.size w (w.alloc (.cells ⟨cgC c A d⟩ 60)) := (Below.refl _ _).alloc (Nat.le_refl _) _
  have hX0 : Blk (w.alloc (.cells ⟨cgC c A d⟩ 60)) w.heap.size 60 (cgC c A d) := Blk.new _ _ _
  have hk1 := at_k (h.stay h0) hm c A d
  have hg := h.bx.lt
  have hBg : B ≤ w.heap.size := Nat.le_trans h.gB (Nat.le_of_lt hg)
  by_cases hok : AtOk (l.map (·.1)) c
  · obtain ⟨i, p, k, x, ht, hp, hp1, hf, hx⟩ := hok.pair
    have hpm := List.mem_of_getElem? hp
    have hilt : i < l.length := (List.getElem?_eq_some_iff.1 hp).1
    have hklt : k < p.1.fs.length := (List.getElem?_eq_some_iff.1 hx).1
    have hfl : p.1.fs.length ≤ 8 := hm.fl p.1 (List.mem_map_of_mem hpm)
    have g0 : (0 : Int) ≤ (i : Int) := by omega
    have g1 : (i : Int) < l.length := by omega
    have g2 : (0 : Int) ≤ (k : Int) := by omega
    have g3 : (k : Int) < p.1.fs.length := by omega
    have hwk : IntKind.i64.wrap ((k : Int) + 1) = (k : Int) + 1 := by rw [IntKind.wrap_i64]; omega
    have hwl : IntKind.i64.wrap ((p.1.fs.length : Int) - 1) = (p.1.fs.length : Int) - 1 := by rw [IntKind.wrap_i64]; omega
    obtain ⟨gk, cap, rfl, h1, h2, _⟩ := h.at_ hp
    obtain ⟨gf, capf, hv, h3, h4, h5, h6⟩ := (h.fr p hpm).row (by omega)
    have hk2 := fun (i2 k2 : Int) (b : Bool) (hI : AtIs (l.map (·.1)) c i2 k2 b) => hI.good ht hp1 hf
    have kc : ∀ W, Below w.heap.size w W → W.cell? ⟨g, 0, none⟩ = some (.slice (some ⟨gk, 0, none⟩) l.length cap) ∧ W.cell? ⟨gk, i * 3 + 2, none⟩ = some (.slice (some ⟨gf, 0, none⟩) p.1.fs.length capf) ∧
        W.cell? ⟨gf, k * 3, none⟩ = some (.string x.nm) ∧ W.cell? ⟨gf, k * 3 + 1, none⟩ = some (.int .i64 x.fr) ∧ W.cell? ⟨gf, k * 3 + 2, none⟩ = some (.int .i64 x.fl) := fun W hW => by
      obtain ⟨a1, _, _, a2, _⟩ := (h.stay hW).at' hp
      rw [hv] at a2
      obtain ⟨u0, b0, r0⟩ := h6 (k * 3 + 0) _ (flatMap_get (f := fdD) (m := 3) (fun _ => rfl) hx rfl)
      obtain ⟨u1, b1, r1⟩ := h6 (k * 3 + 1) _ (flatMap_get (f := fdD) (m := 3) (fun _ => rfl) hx rfl)
      obtain ⟨u2, b2, r2⟩ := h6 (k * 3 + 2) _ (flatMap_get (f := fdD) (m := 3) (fun _ => rfl) hx rfl)
      rw [r0.v_inv] at b0
      rw [r1.v_inv] at b1
      rw [r2.v_inv] at b2
      exact ⟨a1, a2, (hW.cell (p := ⟨gf, k * 3, none⟩) h4).trans b0, (hW.cell (p := ⟨gf, k * 3 + 1, none⟩) h4).trans b1, (hW.cell (p := ⟨gf, k * 3 + 2, none⟩) h4).trans b2⟩
    by_cases hN : 0 ≤ c.n ∧ c.n < p.1.fs.length
    · obtain ⟨N, hNn⟩ : ∃ N : Nat, c.n = N := ⟨c.n.toNat, by omega⟩
      have hNl : N < p.1.fs.length := by omega
      have hch := chK_4 (by omega) (by omega) ht hp1 (chF_7 hc hf hNn hNl)
      have n0 : decide ((N : Int) < 0) = false := decide_eq_false (by omega)
      have n0' : ¬ (N : Int) < 0 := by omega
      have n1 : decide ((N : Int) > (p.1.fs.length : Int) - 1) = false := decide_eq_false (by omega)
      have n1' : ¬ (p.1.fs.length : Int) - 1 < (N : Int) := by omega
      have hmp : ∀ v : Value, (l.set i ({ p.1 with fs := mvF p.1.fs k N }, v)).map (·.1) = (l.map (·.1)).set i { p.1 with fs := mvF p.1.fs k N } := fun v => map_set_fst
      have hne1 : gk ≠ g := fun e => h.kr.neBlk h.bx (by decide) (by rw [← e]; rfl)
      have hsec : ∀ W, Below w.heap.size w W → w.heap.size < W.heap.size → W.cell? ⟨w.heap.size, 5, none⟩ = some (.int .i64 (N : Int)) →
          Calls Tryd.prog 88 #[.slice (some ⟨gf, 0, none⟩) p.1.fs.length capf, .int .i64 (k : Int), .int .i64 ((k : Int) + 1)] (W.alloc (.cells ⟨fdV x⟩ 113)) fun e w2 => e = .returned (.slice (some ⟨gf, 0, none⟩) (p.1.fs.length - 1) capf) ∧
            (w2.cell? ⟨g, 0, none⟩ = some (.slice (some ⟨gk, 0, none⟩) l.length cap) ∧ w2.cell? ⟨w.heap.size, 5, none⟩ = some (.int .i64 (N : Int)) ∧ w2.cell? ⟨W.heap.size, 0, none⟩ = some (.string x.nm) ∧ w2.cell? ⟨W.heap.size, 1, none⟩ = some (.int .i64 x.fr) ∧ w2.cell? ⟨W.heap.size, 2, none⟩ = some (.int .i64 x.fl)) ∧ w.heap.size < w2.heap.size ∧
            Calls Tryd.prog 89 #[.slice (some ⟨gf, 0, none⟩) (p.1.fs.length - 1) capf, .int .i64 (N : Int), .slice (some ⟨w2.heap.size, 0, none⟩) 1 1] (w2.drew.alloc (.cells ⟨fdV x⟩ 113)) fun e w4 => ∃ A4 n4 c4, e = .returned (.slice A4 n4 c4) ∧
              (w4.cell? ⟨g, 0, none⟩ = some (.slice (some ⟨gk, 0, none⟩) l.length cap) ∧ w4.cell? ⟨w.heap.size, 5, none⟩ = some (.int .i64 (N : Int)) ∧ w4.cell? ⟨W.heap.size, 0, none⟩ = some (.string x.nm) ∧ w4.cell? ⟨W.heap.size, 1, none⟩ = some (.int .i64 x.fr) ∧ w4.cell? ⟨W.heap.size, 2, none⟩ = some (.int .i64 x.fl)) ∧ w4.cell? ⟨gk, i * 3 + 2, none⟩ = some (.slice (some ⟨gf, 0, none⟩) p.1.fs.length capf) ∧ w4.frozen? ⟨gk, i * 3 + 2, none⟩ = false ∧
              DX (w4.setCell ⟨gk, i * 3 + 2, none⟩ (.slice A4 n4 c4)) B g (.slice (some ⟨gk, 0, none⟩) l.length cap) vl by_ nl (l.set i ({ p.1 with fs := mvF p.1.fs k N }, .slice A4 n4 c4)) ∧ Below B w (w4.setCell ⟨gk, i * 3 + 2, none⟩ (.slice A4 n4 c4)) := fun W hW hWs hX5 => by
        have hWa : Below w.heap.size w (W.alloc (.cells ⟨fdV x⟩ 113)) := hW.alloc hW.size _
        have hD1 := h.stay hWa
        have ho := hD1.fr p hpm
        rw [hv] at ho
        have hcapf : p.1.fs.length ≤ capf := by obtain ⟨cs, _, _, a, _⟩ := ho.blk; exact a
        have key : ∀ w2, (W.alloc (.cells ⟨fdV x⟩ 113)).grownBy w2 (some gf) → (w2.cell? ⟨g, 0, none⟩ = some (.slice (some ⟨gk, 0, none⟩) l.length cap) ∧ w2.cell? ⟨w.heap.size, 5, none⟩ = some (.int .i64 (N : Int)) ∧ w2.cell? ⟨W.heap.size, 0, none⟩ = some (.string x.nm) ∧ w2.cell? ⟨W.heap.size, 1, none⟩ = some (.int .i64 x.fr) ∧ w2.cell? ⟨W.heap.size, 2, none⟩ = some (.int .i64 x.fl)) := fun w2 hgw => by
          have hbf := (Blk.new W 113 (fdV x)).grown hgw (by simp; omega)
          have hgw' : (W.alloc (.cells ⟨fdV x⟩ 113)).grownBy w2 p.2.ownBlock := by rw [hv]; exact hgw
          refine ⟨(hD1.overF hp hgw').1, ?_, hbf.cell 0, hbf.cell 1, hbf.cell 2⟩
          exact hgw.cell (World.cell?_alloc_lt _ _ _ hWs |>.trans hX5) (by simp; omega)
        refine (delField_k B gf capf p.1.fs.length k NoB _ _ ho hklt).mono ?_
        rintro e w2 ⟨rfl, hO, hgw⟩
        rw [flat_erase (f := fdD) (m := 3) (fun _ => rfl)] at hO
        have hs2 : W.heap.size < w2.heap.size := by have := hgw.size; simp at this; omega
        refine ⟨rfl, key w2 hgw, by omega, ?_⟩
        have hO2 := (hO.drew).alloc (.cells ⟨fdV x⟩ 113)
        refine (insField_k B gf capf (p.1.fs.length - 1) N w2.heap.size NoB _ x _ hO2 (by omega) (by omega) (by omega) (by omega) (Blk.new w2.drew _ _)).mono ?_
        rintro e w4 ⟨v', rfl, hO4, hg4, hv4⟩
        obtain ⟨A4, c4, rfl⟩ := hO4.form
        have hg24 : (W.alloc (.cells ⟨fdV x⟩ 113)).grownBy w4 (some gf) := grown_trans hgw (undrew (grown_trans (World.grownBy_alloc w2.drew _ _) hg4))
        have hg24' : (W.alloc (.cells ⟨fdV x⟩ 113)).grownBy w4 p.2.ownBlock := by rw [hv]; exact hg24
        rw [mv_flat hx] at hO4
        have hln : p.1.fs.length - 1 + 1 = (mvF p.1.fs k N).length := by rw [mv_len hklt]; omega
        obtain ⟨_, b2, b3⟩ := hD1.overF hp hg24'
        rw [hv] at b2
        refine ⟨_, _, _, rfl, key w4 hg24, b2, b3, hD1.putF hp hg24' (.inr rfl) (by rw [← hln]; exact hO4) ?_, hD1.belowF hp (hWa.mono hBg) hg24'⟩
        rcases hv4 with e | e
        · rw [hv]; exact .inl e
        · refine .inr fun q hq => ?_
          rw [e] at hq; injection hq with hq
          simp at hq ⊢
          omega
      have kX : ∀ w', Below (w.alloc (.cells ⟨cgC c A d⟩ 60)).heap.size (w.alloc (.cells ⟨cgC c A d⟩ 60)) w' → w.heap.size < w'.heap.size ∧ w'.cell? ⟨w.heap.size, 5, none⟩ = some (.int .i64 (N : Int)) := fun w' hB => by
        refine ⟨(hX0.stay hB).lt, ?_⟩
        rw [← hNn]
        exact (hX0.stay hB).cell 5
      replace hsec := Lib.hid hsec
      replace hch := Lib.hid hch
      replace hk1 := Lib.hid hk1
      replace hk2 := Lib.hid hk2
      replace h0 := Lib.hid h0
      replace kc := Lib.hid kc
      replace kX := Lib.hid kX
      replace hmp := Lib.hid hmp
      clear h hm hok hp hp1 hpm hx hf ht hc h6 hv h5 h3 hN hX0 hNn
      go_enter Tryd.func64, Tryd.ntmps64
      go_upto_region 2 with (go_at_call 87; refine hk1.out.mono ?_; rintro e w' ⟨i2, k2, b2, rfl, hI, hB1⟩; obtain ⟨rfl, rfl, rfl⟩ := hk2.out i2 k2 b2 hI; clear hI)
      have hW1 := Lib.hid (h0.out.trans (hB1.mono h0.out.size))
      obtain ⟨q0, q1, _, _, _⟩ := kc.out w' hW1.out
      obtain ⟨hsz, q5⟩ := kX.out w' hB1
      clear hB1
      go_quiet (fail)
      have hWq := Lib.hid (below_drewN hW1.out nq)
      have q5' : (w'.drewN nq).cell? ⟨w.heap.size, 5, none⟩ = some (.int .i64 (N : Int)) := by simpa using q5
      have hszq : w.heap.size < (w'.drewN nq).heap.size := by simpa using hsz
      clear q0 q1 q5 hsz hW1
      generalize w'.drewN nq = wq at *
      obtain ⟨q0, q1, q2, q3, q4⟩ := kc.out wq hWq.out
      have hs := Lib.hid (hsec.out wq hWq.out hszq q5')
      have hsz1 : gk < wq.heap.size := by omega
      have hsz2 : g < wq.heap.size := by omega
      have hsz3 : gf < wq.heap.size := by omega
      go_wp2_with (go_at_call 88; refine hs.out.mono ?_; rintro e w2 ⟨rfl, hS2, hs2, hins⟩; replace hins := Lib.hid hins; clear q0 q1 q2 q3 q4 q5')
      have hSS : (w2.drew.cell? ⟨g, 0, none⟩ = some (.slice (some ⟨gk, 0, none⟩) l.length cap) ∧ w2.drew.cell? ⟨w.heap.size, 5, none⟩ = some (.int .i64 (N : Int)) ∧ w2.drew.cell? ⟨wq.heap.size, 0, none⟩ = some (.string x.nm) ∧ w2.drew.cell? ⟨wq.heap.size, 1, none⟩ = some (.int .i64 x.fr) ∧ w2.drew.cell? ⟨wq.heap.size, 2, none⟩ = some (.int .i64 x.fl)) ∧ True := ⟨hS2, trivial⟩
      refine G_region (p := 10) (S0 := fun W => W.cell? ⟨g, 0, none⟩ = some (.slice (some ⟨gk, 0, none⟩) l.length cap) ∧ W.cell? ⟨w.heap.size, 5, none⟩ = some (.int .i64 (N : Int)) ∧ W.cell? ⟨wq.heap.size, 0, none⟩ = some (.string x.nm) ∧ W.cell? ⟨wq.heap.size, 1, none⟩ = some (.int .i64 x.fr) ∧ W.cell? ⟨wq.heap.size, 2, none⟩ = some (.int .i64 x.fl)) (S1 := fun _ => True) (by kernel_rfl) ?_
      refine' G_take0 (i := 0) (v := _) rfl (by decide) (by kernel_rfl) (by kernel_rfl) (by kernel_rfl) (fun _ _ _ h => h) hSS (.inl ⟨by rfl, ?hy0⟩) ?rest0
      case hy0 => (intro W hW; (try dsimp only at hW); go_simp <;> with_reducible rfl)
      try simp only [Act.put, List.setIfInBounds_toArray, List.set_cons_zero, List.set_cons_succ]
      refine' G_take0 (i := 1) (v := _) rfl (by decide) (by kernel_rfl) (by kernel_rfl) (by kernel_rfl) (fun _ _ _ h => h) hSS (.inl ⟨by rfl, ?hy1⟩) ?rest1
      case hy1 => (intro W hW; (try dsimp only at hW); go_simp <;> with_reducible rfl)
      try simp only [Act.put, List.setIfInBounds_toArray, List.set_cons_zero, List.set_cons_succ]
      refine' G_take0 (i := 2) (v := _) rfl (by decide) (by kernel_rfl) (by kernel_rfl) (by kernel_rfl) (fun _ _ _ h => h) hSS (.inl ⟨by rfl, ?hy2⟩) ?rest2
      case hy2 => (intro W hW; (try dsimp only at hW); go_simp <;> with_reducible rfl)
      try simp only [Act.put, List.setIfInBounds_toArray, List.set_cons_zero, List.set_cons_succ]
      refine' G_take0 (i := 3) (v := _) rfl (by decide) (by kernel_rfl) (by kernel_rfl) (by kernel_rfl) (fun _ _ _ h => h) hSS (.inl ⟨by rfl, ?hy3⟩) ?rest3
      case hy3 => (intro W hW; (try dsimp only at hW); go_simp <;> with_reducible rfl)
      try simp only [Act.put, List.setIfInBounds_toArray, List.set_cons_zero, List.set_cons_succ]
      refine' G_take0 (i := 4) (v := _) rfl (by decide) (by kernel_rfl) (by kernel_rfl) (by kernel_rfl) (fun _ _ _ h => h) hSS (.inl ⟨by rfl, ?hy4⟩) ?rest4
      case hy4 => (intro W hW; (try dsimp only at hW); go_simp <;> with_reducible rfl)
      try simp only [Act.put, List.setIfInBounds_toArray, List.set_cons_zero, List.set_cons_succ]
      refine' G_take0 (i := 5) (v := _) rfl (by decide) (by kernel_rfl) (by kernel_rfl) (by kernel_rfl) (fun _ _ _ h => h) hSS (.inl ⟨by rfl, ?hy5⟩) ?rest5
      case hy5 => (intro W hW; (try dsimp only at hW); go_simp <;> with_reducible rfl)
      try simp only [Act.put, List.setIfInBounds_toArray, List.set_cons_zero, List.set_cons_succ]
      refine' G_take0 (i := 6) (v := _) rfl (by decide) (by kernel_rfl) (by kernel_rfl) (by kernel_rfl) (fun _ _ _ h => h) hSS (.inl ⟨by rfl, ?hy6⟩) ?rest6
      case hy6 => (intro W hW; (try dsimp only at hW); go_simp <;> with_reducible rfl)
      try simp only [Act.put, List.setIfInBounds_toArray, List.set_cons_zero, List.set_cons_succ]
      refine' G_take0 (i := 7) (v := _) rfl (by decide) (by kernel_rfl) (by kernel_rfl) (by kernel_rfl) (fun _ _ _ h => h) hSS (.inl ⟨by rfl, ?hy7⟩) ?rest7
      case hy7 => (intro W hW; (try dsimp only at hW); go_simp <;> with_reducible rfl)
      try simp only [Act.put, List.setIfInBounds_toArray, List.set_cons_zero, List.set_cons_succ]
      refine' G_take0 (i := 8) (v := _) rfl (by decide) (by kernel_rfl) (by kernel_rfl) (by kernel_rfl) (fun _ _ _ h => h) hSS (.inl ⟨by rfl, ?hy8⟩) ?rest8
      case hy8 => (intro W hW; (try dsimp only at hW); go_simp <;> with_reducible rfl)
      try simp only [Act.put, List.setIfInBounds_toArray, List.set_cons_zero, List.set_cons_succ]
      refine G_step (k := 9) (by kernel_rfl) rfl (fun K hK => ?_)
      go_simp
      refine hK.out _ _ ⟨?_, fun _ => trivial⟩ ?_
      · obtain ⟨a0, a1, a2, a3, a4⟩ := hS2
        exact ⟨(World.cell?_alloc_some w2.drew ⟨g, 0, none⟩ _ (by show (w2.cell? _).isSome = true; rw [a0]; rfl)).trans a0, (World.cell?_alloc_some w2.drew ⟨w.heap.size, 5, none⟩ _ (by show (w2.cell? _).isSome = true; rw [a1]; rfl)).trans a1,
          (World.cell?_alloc_some w2.drew ⟨wq.heap.size, 0, none⟩ _ (by show (w2.cell? _).isSome = true; rw [a2]; rfl)).trans a2, (World.cell?_alloc_some w2.drew ⟨wq.heap.size, 1, none⟩ _ (by show (w2.cell? _).isSome = true; rw [a3]; rfl)).trans a3,
          (World.cell?_alloc_some w2.drew ⟨wq.heap.size, 2, none⟩ _ (by show (w2.cell? _).isSome = true; rw [a4]; rfl)).trans a4⟩
      refine G_step (k := 10) (by kernel_rfl) rfl (fun K hK => ?_)
      go_simp
      go_at_call 89
      refine hins.out.mono ?_
      rintro e w4 ⟨A4, n4, c4, rfl, hS4, u1, u2, f1, f2⟩
      replace f1 := Lib.hid f1
      replace f2 := Lib.hid f2
      refine hK.out _ _ ⟨hS4, fun _ => trivial⟩ ?_
      have hST : (w4.cell? ⟨g, 0, none⟩ = some (.slice (some ⟨gk, 0, none⟩) l.length cap) ∧ w4.cell? ⟨w.heap.size, 5, none⟩ = some (.int .i64 (N : Int)) ∧ w4.cell? ⟨wq.heap.size, 0, none⟩ = some (.string x.nm) ∧ w4.cell? ⟨wq.heap.size, 1, none⟩ = some (.int .i64 x.fr) ∧ w4.cell? ⟨wq.heap.size, 2, none⟩ = some (.int .i64 x.fl)) ∧ True := ⟨hS4, trivial⟩
      clear hK K hSS hS2 hins
      try simp only [Act.put, List.setIfInBounds_toArray, List.set_cons_zero, List.set_cons_succ]
      refine' G_take0 (i := 11) (v := _) rfl (by decide) (by kernel_rfl) (by kernel_rfl) (by kernel_rfl) (fun _ _ _ h => h) hST (.inl ⟨by rfl, ?hyb11⟩) ?restb11
      case hyb11 => (intro W hW; (try dsimp only at hW); go_simp <;> with_reducible rfl)
      try simp only [Act.put, List.setIfInBounds_toArray, List.set_cons_zero, List.set_cons_succ]
      refine' G_take0 (i := 12) (v := _) rfl (by decide) (by kernel_rfl) (by kernel_rfl) (by kernel_rfl) (fun _ _ _ h => h) hST (.inl ⟨by rfl, ?hyb12⟩) ?restb12
      case hyb12 => (intro W hW; (try dsimp only at hW); go_simp <;> with_reducible rfl)
      try simp only [Act.put, List.setIfInBounds_toArray, List.set_cons_zero, List.set_cons_succ]
      refine G_step (k := 13) (by kernel_rfl) rfl (fun K hK => ?_)
      go_simp
      refine hK.out _ _ ⟨?_, fun _ => trivial⟩ ?_
      · obtain ⟨a0, a1, a2, a3, a4⟩ := hS4
        refine ⟨?_, ?_, ?_, ?_, ?_⟩
        · rw [World.cell?_setCell_far _ _ _ _ (by show gk ≠ g; exact hne1)]; exact a0
        · rw [World.cell?_setCell_far _ _ _ _ (by show gk ≠ w.heap.size; omega)]; exact a1
        · rw [World.cell?_setCell_far _ _ _ _ (by show gk ≠ wq.heap.size; omega)]; exact a2
        · rw [World.cell?_setCell_far _ _ _ _ (by show gk ≠ wq.heap.size; omega)]; exact a3
        · rw [World.cell?_setCell_far _ _ _ _ (by show gk ≠ wq.heap.size; omega)]; exact a4
      refine G_done (by kernel_rfl) ?_ _
      try simp only [Act.put, List.setIfInBounds_toArray, List.set_cons_zero, List.set_cons_succ]
      clear hK K hST hS4 u1 u2
      go_wp2
      go_ret
      exact DPost.mk_some hch.out f1.out (hmp.out _) (Nat.le_succ _) f2.out
    · have hch := chK_none (by omega) ht hp1 (chF_7no hc hf hN)
      have kX : ∀ w', Below (w.alloc (.cells ⟨cgC c A d⟩ 60)).heap.size (w.alloc (.cells ⟨cgC c A d⟩ 60)) w' → w'.cell? ⟨w.heap.size, 5, none⟩ = some (.int .i64 c.n) := fun w' hB => (hX0.stay hB).cell 5
      replace hch := Lib.hid hch
      replace hk1 := Lib.hid hk1
      replace hk2 := Lib.hid hk2
      replace h0 := Lib.hid h0
      replace kc := Lib.hid kc
      replace kX := Lib.hid kX
      clear h hm hok hp hp1 hpm hx hf ht hc h6 hv h5 h3 hX0
      have hNN : c.n < 0 ∨ (0 ≤ c.n ∧ (p.1.fs.length : Int) ≤ c.n) := by omega
      clear hN
      rcases hNN with hlo | ⟨hhi1, hhi2⟩
      · have n0 : decide (c.n < 0) = true := decide_eq_true hlo
        go_enter Tryd.func64, Tryd.ntmps64
        go_upto_region 2 with (go_at_call 87; refine hk1.out.mono ?_; rintro e w' ⟨i2, k2, b2, rfl, hI, hB1⟩; obtain ⟨rfl, rfl, rfl⟩ := hk2.out i2 k2 b2 hI; clear hI)
        have hW1 := Lib.hid (h0.out.trans (hB1.mono h0.out.size))
        have q5 := kX.out w' hB1
        clear hB1
        go_quiet (fail)
        go_wp2
        go_ret
        exact DPost.mk_none hch.out ((below_drewN hW1.out _).mono hBg)
      · have n0 : decide (c.n < 0) = false := decide_eq_false (by omega)
        have n0' : ¬ c.n < 0 := by omega
        have n1 : decide (c.n > (p.1.fs.length : Int) - 1) = true := decide_eq_true (by omega)
        have n1' : (p.1.fs.length : Int) - 1 < c.n := by omega
        go_enter Tryd.func64, Tryd.ntmps64
        go_upto_region 2 with (go_at_call 87; refine hk1.out.mono ?_; rintro e w' ⟨i2, k2, b2, rfl, hI, hB1⟩; obtain ⟨rfl, rfl, rfl⟩ := hk2.out i2 k2 b2 hI; clear hI)
        have hW1 := Lib.hid (h0.out.trans (hB1.mono h0.out.size))
        have q5 := kX.out w' hB1
        obtain ⟨q0, q1, _, _, _⟩ := kc.out w' hW1.out
        clear hB1
        go_quiet (fail)
        go_wp2
        go_ret
        exact DPost.mk_none hch.out ((below_drewN hW1.out _).mono hBg)
  · have hch := chK_noAt (by omega) (by omega) hok
    have hk2 := fun (i2 k2 : Int) (b : Bool) (hI : AtIs (l.map (·.1)) c i2 k2 b) => hI.bad hok
    replace hch := Lib.hid hch
    replace hk1 := Lib.hid hk1
    replace hk2 := Lib.hid hk2
    replace h0 := Lib.hid h0
    clear h hm hok hc hX0
    go_enter Tryd.func64, Tryd.ntmps64
    go_upto_region 2 with (go_at_call 87; refine hk1.out.mono ?_; rintro e w' ⟨i2, k2, b2, rfl, hI, hB1⟩; obtain rfl := hk2.out i2 k2 b2 hI; clear hI)
    go_quiet (fail)
    go_wp2
    go_ret
    exact DPost.mk_none hch.out ((below_drewN (h0.out.trans (hB1.mono h0.out.size)) _).mono hBg)
end evW
end Go.Proofs.YtmadafejenjkcaaDoor
