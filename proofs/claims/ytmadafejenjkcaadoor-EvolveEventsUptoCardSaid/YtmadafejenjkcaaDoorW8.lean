/- What each kind of change does to the design: addAttr. -/
import Derived.Test.YtmadafejenjkcaaDoorW7
import Derived.Test.YtmadafejenjkcaaDoorWr
namespace Go.Proofs.YtmadafejenjkcaaDoor
open Go.RowKit Go.Deep
set_option linter.unusedVariables false
set_option linter.unusedSimpArgs false
namespace evW
open nmW
set_option maxHeartbeats 4000000 in
theorem addAttr_k {w : World} {B g nl : Nat} {vk vl : Value} {by_ : Int} {l : List (Kd × Value)} (h : DX w B g vk vl by_ nl l) (hm : SmK (l.map (·.1))) (c : Cg) (hc : c.kd = 4) (A : Option Addr) (d : Nat) :
    Calls Tryd.prog 61 #[.pointer (some ⟨g, 0, none⟩), .agg #[.int .i64 c.kd, .string c.ty, .string c.at_, .string c.nm, .slice A c.ats.length d, .int .i64 c.n]] w (DPost (l.map (·.1)) c B g (nl + 1) w) := by
  have hll : l.length ≤ 1048576 := by have := hm.len; simp at this; omega
  have h0 : Below w.heap.size w (w.alloc (.cells ⟨cgC c A d⟩ 60)) := (Below.refl _ _).alloc (Nat.le_refl _) _
  have hX0 : Blk (w.alloc (.cells ⟨cgC c A d⟩ 60)) w.heap.size 60 (cgC c A d) := Blk.new _ _ _
  have hk1 := find_k (h.stay h0) hll c.ty
  have hg := h.bx.lt
  have hBg : B ≤ w.heap.size := Nat.le_trans h.gB (Nat.le_of_lt hg)
  cases hty : tyAt (l.map (·.1)) c.ty with
  | none =>
    rw [hty, show optI none = -1 from rfl] at hk1
    have hch := chK_no (l := l.map (·.1)) (c := c) (by omega) hty
    replace hch := Lib.hid hch
    replace hk1 := Lib.hid hk1
    replace h0 := Lib.hid h0
    clear h hm hX0 hc
    go_enter Tryd.func61, Tryd.ntmps61
    go_wp2_with (go_at_call 85; refine hk1.out.mono ?_; rintro e w' ⟨rfl, hB1⟩)
    go_ret
    exact DPost.mk_none hch.out ((h0.out.trans (hB1.mono h0.out.size)).mono hBg)
  | some i =>
    rw [hty, show optI (some i) = (i : Int) from rfl] at hk1
    obtain ⟨p1, hp1⟩ := getx (tyAt_lt hty)
    rw [List.getElem?_map] at hp1
    obtain ⟨p, hp, rfl⟩ := Option.map_eq_some_iff.1 hp1
    have hp1 : (l.map (·.1))[i]? = some p.1 := by rw [List.getElem?_map, hp]; rfl
    have hpm := List.mem_of_getElem? hp
    have hfl : p.1.fs.length ≤ 8 := hm.fl p.1 (List.mem_map_of_mem hpm)
    have hilt : i < l.length := (List.getElem?_eq_some_iff.1 hp).1
    have g0 : (0 : Int) ≤ (i : Int) := by omega
    have g1 : (i : Int) < l.length := by omega
    obtain ⟨gk, cap, rfl, h1, h2, _⟩ := h.at_ hp
    obtain ⟨A2, c2, hv2⟩ := (h.fr p hpm).form
    have hch := chK_4 (fs := p.1.fs ++ [⟨c.nm, -1, c.n⟩]) (by omega) (by omega) hty hp1 (by unfold chF; rw [if_pos hc])
    have kc : ∀ W, Below w.heap.size w W → W.cell? ⟨g, 0, none⟩ = some (.slice (some ⟨gk, 0, none⟩) l.length cap) ∧ W.cell? ⟨gk, i * 3 + 2, none⟩ = some (.slice A2 p.1.fs.length c2) ∧ W.frozen? ⟨gk, i * 3 + 2, none⟩ = false := fun W hW => by
      obtain ⟨a1, _, _, a2, a3⟩ := (h.stay hW).at' hp
      rw [hv2] at a2
      exact ⟨a1, a2, a3 _⟩
    have ko : ∀ W, Below w.heap.size w W → OL W B NoB 113 3 (.slice A2 p.1.fs.length c2) p.1.fs.length (p.1.fs.flatMap fdD) := fun W hW => by
      have := (h.stay hW).fr p hpm
      rw [hv2] at this
      exact this
    -- what lies in the row of kinds is not in the row of fields
    have kn : ∀ W W1, Below w.heap.size w W → W.grownBy W1 (Value.slice A2 p.1.fs.length c2).ownBlock → W1.cell? ⟨g, 0, none⟩ = some (.slice (some ⟨gk, 0, none⟩) l.length cap) ∧ W1.cell? ⟨gk, i * 3 + 2, none⟩ = some (.slice A2 p.1.fs.length c2) ∧ W1.frozen? ⟨gk, i * 3 + 2, none⟩ = false := fun W W1 hW hgr => by
      obtain ⟨a1, a2, a3⟩ := kc W hW
      have hx := h.stay hW
      have n1 : (Value.slice A2 p.1.fs.length c2).ownBlock ≠ some g := (ko W hW).neBlk hx.bx (by decide)
      have n2 : (Value.slice A2 p.1.fs.length c2).ownBlock ≠ some gk := (ko W hW).offRow hx.kr (by decide)
      have hb1 : W1.heap[gk]? = W.heap[gk]? := hgr.block gk (Nat.lt_of_lt_of_le h2 hW.size) (fun e => n2 e.symm)
      exact ⟨hgr.cell a1 (fun e => n1 e.symm), (World.cell?_of_block (a := ⟨gk, i * 3 + 2, none⟩) hb1).trans a2, (World.frozen?_of_block (a := ⟨gk, i * 3 + 2, none⟩) hb1).trans a3⟩
    have kx : ∀ W, Below w.heap.size w W → some w.heap.size ≠ (Value.slice A2 p.1.fs.length c2).ownBlock := fun W hW e => by have := ((ko w (Below.refl _ _)).lt _ e.symm).2; omega
    have hne1 : gk ≠ g := fun e => h.kr.neBlk h.bx (by decide) (by rw [← e]; rfl)
    have kd : ∀ W W1 v', Below w.heap.size w W → W.grownBy W1 (Value.slice A2 p.1.fs.length c2).ownBlock → OL W1 B NoB 113 3 v' (p.1.fs.length + 1) (p.1.fs.flatMap fdD ++ fdD ⟨c.nm, -1, c.n⟩) → (v'.ownBlock = (Value.slice A2 p.1.fs.length c2).ownBlock ∨ v'.ownBlock = some W.heap.size) →
        DX (W1.setCell ⟨gk, i * 3 + 2, none⟩ v') B g (.slice (some ⟨gk, 0, none⟩) l.length cap) vl by_ nl (l.set i ({ p.1 with fs := p.1.fs ++ [⟨c.nm, -1, c.n⟩] }, v')) ∧ Below B w (W1.setCell ⟨gk, i * 3 + 2, none⟩ v') := fun W W1 v' hW hgr hv hvn => by
      refine ⟨(h.stay hW).putF hp hgr (.inr (by rw [hv2])) (by simpa using hv) ?_, ?_⟩
      · rcases hvn with e | e
        · rw [hv2]; exact .inl e
        · exact .inr fun q hq => by rw [e] at hq; injection hq with hq; omega
      · exact ((hW.mono hBg).grown hgr (Nat.le_trans hBg hW.size) (fun q hq => ((ko W hW).lt q hq).1)).setCell h1 _
    have hmp : ∀ v', (l.set i ({ p.1 with fs := p.1.fs ++ [⟨c.nm, -1, c.n⟩] }, v')).map (·.1) = (l.map (·.1)).set i { p.1 with fs := p.1.fs ++ [⟨c.nm, -1, c.n⟩] } := fun v' => map_set_fst
    replace hch := Lib.hid hch
    replace hk1 := Lib.hid hk1
    replace h0 := Lib.hid h0
    replace hX0 := Lib.hid hX0
    replace kc := Lib.hid kc
    replace ko := Lib.hid ko
    replace kn := Lib.hid kn
    replace kx := Lib.hid kx
    replace kd := Lib.hid kd
    replace hmp := Lib.hid hmp
    clear h hm hp hp1 hpm hty hc hv2
    go_enter Tryd.func61, Tryd.ntmps61
    go_upto_region 3 with (go_at_call 85; refine hk1.out.mono ?_; rintro e w' ⟨rfl, hB1⟩)
    have hW1 := Lib.hid (h0.out.trans (hB1.mono h0.out.size))
    obtain ⟨q0, q1, q2⟩ := kc.out w' hW1.out
    have q3 : w'.cell? ⟨w.heap.size, 3, none⟩ = some (.string c.nm) := (hX0.out.stay hB1).cell 3
    have q4 : w'.cell? ⟨w.heap.size, 5, none⟩ = some (.int .i64 c.n) := (hX0.out.stay hB1).cell 5
    have hW2 := Lib.hid (show Below w.heap.size w (w'.alloc (.cells ⟨fdV ⟨c.nm, -1, c.n⟩⟩ 113)) from hW1.out.alloc hW1.out.size _)
    have hsz : w.heap.size < w'.heap.size := (hX0.out.stay hB1).lt
    have hX1 := Lib.hid (hX0.out.stay hB1)
    have hsz1 : gk < w'.heap.size := by omega
    have hsz2 : g < w'.heap.size := by omega
    have hB1' := Lib.hid hB1
    clear hB1
    have hSS : (w'.drew.cell? ⟨g, 0, none⟩ = some (.slice (some ⟨gk, 0, none⟩) l.length cap) ∧ w'.drew.cell? ⟨w.heap.size, 3, none⟩ = some (.string c.nm) ∧ w'.drew.cell? ⟨w.heap.size, 5, none⟩ = some (.int .i64 c.n)) ∧ w'.drew.cell? ⟨gk, i * 3 + 2, none⟩ = some (.slice A2 p.1.fs.length c2) := ⟨⟨q0, q3, q4⟩, q1⟩
    refine G_region (p := 19) (S0 := fun W => W.cell? ⟨g, 0, none⟩ = some (.slice (some ⟨gk, 0, none⟩) l.length cap) ∧ W.cell? ⟨w.heap.size, 3, none⟩ = some (.string c.nm) ∧ W.cell? ⟨w.heap.size, 5, none⟩ = some (.int .i64 c.n)) (S1 := fun W => W.cell? ⟨gk, i * 3 + 2, none⟩ = some (.slice A2 p.1.fs.length c2)) (by kernel_rfl) ?_
    refine' G_take0 (i := 0) (v := _) rfl (by decide) (by kernel_rfl) (by kernel_rfl) (by kernel_rfl) (fun _ _ _ h => h) hSS (.inl ⟨by rfl, ?hy0⟩) ?rest0
    case hy0 => (intro W hW; (try dsimp only at hW); go_simp <;> with_reducible rfl)
    try simp only [Act.put, List.setIfInBounds_toArray, List.set_cons_zero, List.set_cons_succ]
    refine' G_take0 (i := 1) (v := _) rfl (by decide) (by kernel_rfl) (by kernel_rfl) (by kernel_rfl) (fun _ _ _ h => h) hSS (.inl ⟨by rfl, ?hy1⟩) ?rest1
    case hy1 => (intro W hW; (try dsimp only at hW); go_simp <;> with_reducible rfl)
    try simp only [Act.put, List.setIfInBounds_toArray, List.set_cons_zero, List.set_cons_succ]
    refine' G_take0 (i := 2) (v := _) rfl (by decide) (by kernel_rfl) (by kernel_rfl) (by kernel_rfl) (fun _ _ _ h => h) hSS (.inl ⟨by rfl, ?hy2⟩) ?rest2
    case hy2 => (intro W hW; (try dsimp only at hW); go_simp <;> with_reducible rfl)
    try simp only [Act.put, List.setIfInBounds_toArray, List.set_cons_zero, List.set_cons_succ]
    refine' G_take0 (i := 3) (v := _) rfl (by decide) (by kernel_rfl) (by kernel_rfl) (by kernel_rfl) (fun _ _ _ h => h) hSS (.inl ⟨by rfl, ?hy3⟩) ?rest3
    case hy3 => (intro W hW; (try dsimp only at hW); go_simp <;> with_reducible rfl)
    try simp only [Act.put, List.setIfInBounds_toArray, List.set_cons_zero, List.set_cons_succ]
    refine' G_take0 (i := 4) (v := _) rfl (by decide) (by kernel_rfl) (by kernel_rfl) (by kernel_rfl) (fun _ _ _ h => h) hSS (.inl ⟨by rfl, ?hy4⟩) ?rest4
    case hy4 => (intro W hW; (try dsimp only at hW); go_simp <;> with_reducible rfl)
    try simp only [Act.put, List.setIfInBounds_toArray, List.set_cons_zero, List.set_cons_succ]
    refine' G_take0 (i := 5) (v := _) rfl (by decide) (by kernel_rfl) (by kernel_rfl) (by kernel_rfl) (fun _ _ _ h => h) hSS (.inl ⟨by rfl, ?hy5⟩) ?rest5
    case hy5 => (intro W hW; (try dsimp only at hW); go_simp <;> with_reducible rfl)
    try simp only [Act.put, List.setIfInBounds_toArray, List.set_cons_zero, List.set_cons_succ]
    refine' G_take0 (i := 6) (v := _) rfl (by decide) (by kernel_rfl) (by kernel_rfl) (by kernel_rfl) (fun _ _ _ h => h) hSS (.inl ⟨by rfl, ?hy6⟩) ?rest6
    case hy6 => (intro W hW; (try dsimp only at hW); go_simp <;> with_reducible rfl)
    try simp only [Act.put, List.setIfInBounds_toArray, List.set_cons_zero, List.set_cons_succ]
    refine' G_take0 (i := 7) (v := _) rfl (by decide) (by kernel_rfl) (by kernel_rfl) (by kernel_rfl) (fun _ _ _ h => h) hSS (.inl ⟨by rfl, ?hy7⟩) ?rest7
    case hy7 => (intro W hW; (try dsimp only at hW); go_simp <;> with_reducible rfl)
    try simp only [Act.put, List.setIfInBounds_toArray, List.set_cons_zero, List.set_cons_succ]
    refine' G_take0 (i := 8) (v := _) rfl (by decide) (by kernel_rfl) (by kernel_rfl) (by kernel_rfl) (fun _ _ _ h => h) hSS (.inl ⟨by rfl, ?hy8⟩) ?rest8
    case hy8 => (intro W hW; (try dsimp only at hW); go_simp <;> with_reducible rfl)
    try simp only [Act.put, List.setIfInBounds_toArray, List.set_cons_zero, List.set_cons_succ]
    refine' G_take0 (i := 9) (v := _) rfl (by decide) (by kernel_rfl) (by kernel_rfl) (by kernel_rfl) (fun _ _ _ h => h) hSS (.inl ⟨by rfl, ?hy9⟩) ?rest9
    case hy9 => (intro W hW; (try dsimp only at hW); go_simp <;> with_reducible rfl)
    try simp only [Act.put, List.setIfInBounds_toArray, List.set_cons_zero, List.set_cons_succ]
    refine' G_take0 (i := 10) (v := _) rfl (by decide) (by kernel_rfl) (by kernel_rfl) (by kernel_rfl) (fun _ _ _ h => h) hSS (.inl ⟨by rfl, ?hy10⟩) ?rest10
    case hy10 => (intro W hW; (try dsimp only at hW); go_simp <;> with_reducible rfl)
    try simp only [Act.put, List.setIfInBounds_toArray, List.set_cons_zero, List.set_cons_succ]
    refine' G_take0 (i := 11) (v := _) rfl (by decide) (by kernel_rfl) (by kernel_rfl) (by kernel_rfl) (fun _ _ _ h => h) hSS (.inl ⟨by rfl, ?hy11⟩) ?rest11
    case hy11 => (intro W hW; (try dsimp only at hW); go_simp <;> with_reducible rfl)
    try simp only [Act.put, List.setIfInBounds_toArray, List.set_cons_zero, List.set_cons_succ]
    refine' G_take1 (i := 12) (v := _) rfl (by decide) (by kernel_rfl) (by kernel_rfl) (by kernel_rfl) rfl (by kernel_rfl) (by kernel_rfl) (fun _ _ _ h => h) hSS (.inl ⟨by rfl, ?hy12⟩) ?rest12
    case hy12 => (intro W hW; (try dsimp only at hW); go_simp <;> with_reducible rfl)
    try simp only [Act.put, List.setIfInBounds_toArray, List.set_cons_zero, List.set_cons_succ]
    refine' G_take0 (i := 13) (v := _) rfl (by decide) (by kernel_rfl) (by kernel_rfl) (by kernel_rfl) (fun _ _ _ h => h) hSS (.inl ⟨by rfl, ?hy13⟩) ?rest13
    case hy13 => (intro W hW; (try dsimp only at hW); go_simp <;> with_reducible rfl)
    try simp only [Act.put, List.setIfInBounds_toArray, List.set_cons_zero, List.set_cons_succ]
    refine' G_take0 (i := 14) (v := _) rfl (by decide) (by kernel_rfl) (by kernel_rfl) (by kernel_rfl) (fun _ _ _ h => h) hSS (.inl ⟨by rfl, ?hy14⟩) ?rest14
    case hy14 => (intro W hW; (try dsimp only at hW); go_simp <;> with_reducible rfl)
    try simp only [Act.put, List.setIfInBounds_toArray, List.set_cons_zero, List.set_cons_succ]
    refine' G_take0 (i := 15) (v := _) rfl (by decide) (by kernel_rfl) (by kernel_rfl) (by kernel_rfl) (fun _ _ _ h => h) hSS (.inl ⟨by rfl, ?hy15⟩) ?rest15
    case hy15 => (intro W hW; (try dsimp only at hW); go_simp <;> with_reducible rfl)
    try simp only [Act.put, List.setIfInBounds_toArray, List.set_cons_zero, List.set_cons_succ]
    refine' G_take0 (i := 16) (v := _) rfl (by decide) (by kernel_rfl) (by kernel_rfl) (by kernel_rfl) (fun _ _ _ h => h) hSS (.inl ⟨by rfl, ?hy16⟩) ?rest16
    case hy16 => (intro W hW; (try dsimp only at hW); go_simp <;> with_reducible rfl)
    try simp only [Act.put, List.setIfInBounds_toArray, List.set_cons_zero, List.set_cons_succ]
    refine' G_take0 (i := 17) (v := _) rfl (by decide) (by kernel_rfl) (by kernel_rfl) (by kernel_rfl) (fun _ _ _ h => h) hSS (.inl ⟨by rfl, ?hy17⟩) ?rest17
    case hy17 => (intro W hW; (try dsimp only at hW); go_simp <;> with_reducible rfl)
    try simp only [Act.put, List.setIfInBounds_toArray, List.set_cons_zero, List.set_cons_succ]
    refine G_step (k := 18) (by kernel_rfl) rfl (fun K hK => ?_)
    go_simp
    refine hK.out _ _ ⟨?_, fun _ => ?_⟩ ?_
    · exact ⟨(kc.out _ hW2.out).1, (hX1.out.alloc _).cell 3, (hX1.out.alloc _).cell 5⟩
    · exact (kc.out _ hW2.out).2.1
    refine G_step (k := 19) (by kernel_rfl) rfl (fun K hK => ?_)
    refine step_app (by rfl) (.tmp 24) (.tmp 30) _ (by rfl) (m := 1) (news := fdD ⟨c.nm, -1, c.n⟩) elField (by exact (ko.out _ hW2.out).drew) (by rfl) (by rfl) (by exact (Src.lit (fdD_rd w' _ ⟨c.nm, -1, c.n⟩)).drew) rfl (by omega) (by omega) (by simp; omega) ?_
    intro v' w1 hO1 hg1 ha1
    obtain ⟨B3, d3, rfl⟩ := hO1.form
    have hg2 := undrew hg1
    obtain ⟨t0, t1, t2⟩ := kn.out _ _ hW2.out hg2
    have hx1 := ((hX1.out.alloc (.cells ⟨fdV ⟨c.nm, -1, c.n⟩⟩ 113)).grown hg2 (kx.out _ hW2.out))
    have hS3 : (w1.cell? ⟨g, 0, none⟩ = some (.slice (some ⟨gk, 0, none⟩) l.length cap) ∧ w1.cell? ⟨w.heap.size, 3, none⟩ = some (.string c.nm) ∧ w1.cell? ⟨w.heap.size, 5, none⟩ = some (.int .i64 c.n)) ∧ w1.cell? ⟨gk, i * 3 + 2, none⟩ = some (.slice A2 p.1.fs.length c2) := ⟨⟨t0, hx1.cell 3, hx1.cell 5⟩, t1⟩
    refine hK.out _ _ ⟨hS3.1, fun _ => hS3.2⟩ ?_
    obtain ⟨f1, f2⟩ := kd.out _ _ _ hW2.out hg2 hO1 ha1
    replace f1 := Lib.hid f1
    replace f2 := Lib.hid f2
    clear hg1 hg2 hO1 ha1 hx1 hK K
    try simp only [Act.put, List.setIfInBounds_toArray, List.set_cons_zero, List.set_cons_succ]
    refine' G_take0 (i := 20) (v := _) rfl (by decide) (by kernel_rfl) (by kernel_rfl) (by kernel_rfl) (fun _ _ _ h => h) hS3 (.inl ⟨by rfl, ?hy20⟩) ?rest20
    case hy20 => (intro W hW; (try dsimp only at hW); go_simp <;> with_reducible rfl)
    try simp only [Act.put, List.setIfInBounds_toArray, List.set_cons_zero, List.set_cons_succ]
    refine' G_take0 (i := 21) (v := _) rfl (by decide) (by kernel_rfl) (by kernel_rfl) (by kernel_rfl) (fun _ _ _ h => h) hS3 (.inl ⟨by rfl, ?hy21⟩) ?rest21
    case hy21 => (intro W hW; (try dsimp only at hW); go_simp <;> with_reducible rfl)
    try simp only [Act.put, List.setIfInBounds_toArray, List.set_cons_zero, List.set_cons_succ]
    refine G_step (k := 22) (by kernel_rfl) rfl (fun K hK => ?_)
    go_simp
    refine hK.out _ _ ⟨?_, fun h => absurd (h.symm.trans (by kernel_rfl : _ = true)) (by simp)⟩ ?_
    · obtain ⟨⟨s0, s1, s2⟩, s3⟩ := hS3
      refine ⟨?_, ?_, ?_⟩
      · rw [World.cell?_setCell_far _ _ _ _ (by show gk ≠ g; exact hne1)]; exact s0
      · rw [World.cell?_setCell_far _ _ _ _ (by show gk ≠ w.heap.size; omega)]; exact s1
      · rw [World.cell?_setCell_far _ _ _ _ (by show gk ≠ w.heap.size; omega)]; exact s2
    refine G_done (by kernel_rfl) ?_ _
    try simp only [Act.put, List.setIfInBounds_toArray, List.set_cons_zero, List.set_cons_succ]
    clear hK K hS3 hSS t0 t1 t2 q0 q1 q2 q3 q4
    go_wp2
    go_ret
    exact DPost.mk_some hch.out f1.out (hmp.out _) (Nat.le_succ _) f2.out
end evW
end Go.Proofs.YtmadafejenjkcaaDoor
