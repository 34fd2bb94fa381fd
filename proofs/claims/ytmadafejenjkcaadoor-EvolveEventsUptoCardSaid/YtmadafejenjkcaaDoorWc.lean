/- slices.Insert of one struct into an own row that has room. -/
import Derived.Test.YtmadafejenjkcaaDoorW2
import Derived.Laws.Externs
namespace Go.Proofs.YtmadafejenjkcaaDoor
open Go.RowKit Go.Deep
set_option linter.unusedVariables false
set_option linter.unusedSimpArgs false

theorem step_copy_r {P : Program} {ops : Array Oper} {o : Oper} {a : Act} {w : World} {K : Act → World → Prop} {Q : Exit → Act → World → Prop} {E : Prop}
    (hg : o.guard = none) (d x : Operand) (dT sT : TypeId) (hop : o.op = Op.call { callee := Callee.builtin Builtin.copy, args := #[d, x], argTypes := #[dT, sT] })
    (v u : Value) (hd : a.eval d = v) (hx : a.eval x = u) {v' : Value} {w' : World} (hr : (Builtin.copy_ #[dT, sT] o.type #[v, u]).run P w = .ok v' w') (hK : K (a.put o.dst v') w') :
    if Region.wanted o (yielded ops a.tmps) = true then Oper.wp P o a w K Q else E := by
  have hw : Region.wanted o (yielded ops a.tmps) = true := by simp [Region.wanted, hg]
  rw [if_pos hw]
  unfold Oper.wp
  simp [execOp, hop, resolve, invoke, builtin, hd, hx, hr, Result.andThen]
  exact hK
theorem wpList_copy_r {P : Program} (w : World) {ops : Array Oper} {rest : List Oper} {o : Oper} {a : Act} {Q : Exit → Act → World → Prop} (hgd : o.guard = none) (d s : Operand) (t t' : TypeId)
    (ho : o.op = .call { callee := .builtin .copy, args := #[d, s], argTypes := #[t, t'] }) (v u : Value) (hd : a.eval d = v) (hs : a.eval s = u) {v' : Value} {w' : World}
    (hr : (Builtin.copy_ #[t, t'] o.type #[v, u]).run P w = .ok v' w') (h : wpList P ops Q rest (a.put o.dst v') w') : wpList P ops Q (o :: rest) a w :=
  wpList_plain hgd fun _ hK => by
    unfold Oper.wp execOp
    simp only [ho, resolve, invoke, builtin, Sem.run_bind, Sem.run_pure, Result.andThen_ok, List.map_toArray, List.map_cons, List.map_nil, hd, hs, hr]
    exact hK _ _ h
theorem Blk.shape {w : World} {g t : Nat} {cs : List Value} (h : Blk w g t cs) : w.shape? g = some (t, cs.length) := by
  unfold Blk at h
  simp [World.shape?, h]
theorem Blk.one {w : World} {n : Nat} {F : Nat → Prop} {cs : List Value} {ds : List D} (hd : ds.length = n) (hr : ∀ (k : Nat) (d : D), ds[k]? = some d → ∃ u, cs[k]? = some u ∧ Rd w F u d) : ∀ u ∈ cs.take n, u.oneCell' = true := by
  intro u hu
  obtain ⟨j, hj⟩ := List.getElem?_of_mem hu
  rw [List.getElem?_take] at hj
  split at hj
  · obtain ⟨u', hu', hx⟩ := hr j _ (List.getElem?_eq_getElem (by omega))
    rw [hj] at hu'; injection hu' with e; subst e
    exact hx.one
  · cases hj
/-- the row behind both copies -/
theorem ins_cells {cs vs A : List Value} {a n : Nat} (ha : a ≤ n) (hn : n + vs.length ≤ cs.length) (hA : A = (cs.take n).drop a) :
    let c1 := cs.take (a + vs.length) ++ A ++ cs.drop (a + vs.length + A.length)
    (c1.take a ++ vs ++ c1.drop (a + vs.length)).take (n + vs.length) = cs.take a ++ vs ++ (cs.take n).drop a := by
  intro c1
  have hAl : A.length = n - a := by rw [hA]; simp; omega
  have e1 : (cs.take (a + vs.length)).length = a + vs.length := by simp; omega
  have e2 : c1.take a = cs.take a := by
    show (cs.take (a + vs.length) ++ A ++ cs.drop (a + vs.length + A.length)).take a = _
    rw [List.append_assoc, List.take_append_of_le_length (by omega), List.take_take, Nat.min_eq_left (by omega)]
  have e3 : c1.drop (a + vs.length) = A ++ cs.drop (a + vs.length + A.length) := by
    show (cs.take (a + vs.length) ++ A ++ cs.drop (a + vs.length + A.length)).drop (a + vs.length) = _
    rw [List.append_assoc]
    have := List.drop_left (l₁ := cs.take (a + vs.length)) (l₂ := A ++ cs.drop (a + vs.length + A.length))
    rw [e1] at this
    exact this
  rw [e2, e3, ← hA]
  have e4 : (cs.take a ++ vs ++ A).length = n + vs.length := by simp; omega
  rw [← List.append_assoc (cs.take a ++ vs), ← e4, List.take_left]

def InsPost (w : World) (B g n k : Nat) (F : Nat → Prop) (ds vd : List D) (e : Ending) (w' : World) : Prop :=
  ∃ v', e = .returned v' ∧ OL w' B F 113 3 v' (n + 1) (ds.take (k * 3) ++ vd ++ ds.drop (k * 3)) ∧ w.grownBy w' (some g) ∧ (v'.ownBlock = some g ∨ v'.ownBlock = some w.heap.size)
namespace evW
open nmW
set_option maxRecDepth 100000 in
set_option maxHeartbeats 4000000 in
theorem insField_k (B g cap n k vb : Nat) (F : Nat → Prop) (ds : List D) (x : Fd) (w : World) (h : OL w B F 113 3 (.slice (some ⟨g, 0, none⟩) n cap) n ds) (hk : k ≤ n) (hroom : n + 1 ≤ cap) (hn : n ≤ 1048576)
    (hvb : vb ≠ g) (hv : Blk w vb 113 (fdV x)) :
    Calls Tryd.prog 89 #[.slice (some ⟨g, 0, none⟩) n cap, .int .i64 (k : Int), .slice (some ⟨vb, 0, none⟩) 1 1] w (InsPost w B g n k F ds (fdD x)) := by
  have hlt := h.lt g rfl
  have hdl := h.len
  by_cases hkn : k = n
  · subst hkn
    have e1 : ds.take (k * 3) ++ fdD x ++ ds.drop (k * 3) = ds ++ fdD x := by rw [List.take_of_length_le (by omega), List.drop_of_length_le (by omega), List.append_nil]
    have hsrc : Src w (some ⟨vb, 0, none⟩) (fdD x) (fun b => F b ∧ some b ≠ (Value.slice (some ⟨g, 0, none⟩) k cap).ownBlock) := fun _ => ⟨vb, 0, rfl, fun j d hd => by
      obtain ⟨u, hu, hr⟩ := (fdD_rd w (fun b => F b ∧ some b ≠ (Value.slice (some ⟨g, 0, none⟩) k cap).ownBlock) x).get hd
      exact ⟨u, by rw [Nat.zero_add, hv.cell]; exact hu, hr⟩⟩
    have hol := Lib.hid h
    replace hsrc := Lib.hid hsrc
    replace e1 := Lib.hid e1
    have hB := hlt.1
    have hB2 := hlt.2
    clear h hv hlt
    go_enter Tryd.func89, Tryd.ntmps89
    go_wp2_with (at_builtin; refine wpList_app rfl (.tmp 23) (.tmp 24) _ rfl (m := 1) (news := fdD x) elField hol.out rfl rfl hsrc.out rfl (by omega) (by omega) (by omega) ?_; intro v' w1 hO1 hg1 ha1)
    go_ret
    exact ⟨_, rfl, by rw [e1.out]; exact hO1, hg1, ha1⟩
  · obtain ⟨cs, hB, hb, hnc, hm, hlen, hd, hr⟩ := h.blk
    obtain ⟨A, hA⟩ : ∃ A, A = (cs.take (n * 3)).drop (k * 3) := ⟨_, rfl⟩
    have hAl : A.length = (n - k) * 3 := by rw [hA]; simp; omega
    have hone : ∀ u ∈ A, u.oneCell' = true := fun u hu => Blk.one hd hr u (by rw [hA] at hu; exact List.mem_of_mem_drop hu)
    have hone2 : ∀ u ∈ fdV x, u.oneCell' = true := by intro u hu; simp [fdV] at hu; rcases hu with rfl | rfl | rfl <;> rfl
    have hb1 := Blk.setCells A (k * 3 + 3) w.drew cs hb (by rw [hAl, hlen]; omega)
    obtain ⟨W1, hW1⟩ : ∃ W1, W1 = w.drew.setCells g (k * 3 + 3) A := ⟨_, rfl⟩
    rw [← hW1] at hb1
    obtain ⟨hb1, hg1⟩ := hb1
    have hl1 : (cs.take (k * 3 + 3) ++ A ++ cs.drop (k * 3 + 3 + A.length)).length = cs.length := by simp; omega
    have hb2 := Blk.setCells (fdV x) (k * 3) W1 _ hb1 (by rw [hl1, hlen]; show k * 3 + 3 ≤ _; omega)
    have hv1 : Blk W1 vb 113 (fdV x) := (show Blk w.drew _ _ _ from hv).grown hg1 (by simpa using hvb)
    have hov : ∀ lb cb, (callFunc 119 #[.slice (some ⟨vb, 0, none⟩) 1 1, .slice (some ⟨g, k * 3 + 3, none⟩) lb cb]).run Tryd.prog w = .ok (.value (.bool false)) w := fun lb cb => by
      rw [run_callFunc_extern Tryd.func119 (by kernel_rfl) (by kernel_rfl) (by kernel_rfl) (e := Extern.SlicesOverlaps.overlaps #[109, 109] #[4]) (by kernel_rfl),
        Lib.run_overlaps_apart w 109 4 113 elField.sl 3 (fun W => by obtain ⟨i, z, hi, _, hs, _⟩ := elField.info; simp [sizeOf, typeInfo, hi, hs]) ⟨vb, 0, none⟩ ⟨g, k * 3 + 3, none⟩ 1 1 lb cb hvb _ _ _ _ hv.shape hb.shape (by omega) (hv.frozen _) (hv.frozen _)]
      rfl
    have hcp1 : ∀ ty dc sc, (Builtin.copy_ #[109, 109] ty #[.slice (some ⟨g, k * 3 + 3, none⟩) (n - k) dc, .slice (some ⟨g, k * 3, none⟩) (n + 1 - k) sc]).run Tryd.prog w.drew = .ok (goInt ((n - k : Nat) : Int)) W1 := fun ty dc sc => by
      rw [hW1]
      refine run_copy_row ty elField w.drew g (k * 3 + 3) (n - k) dc ⟨g, k * 3, none⟩ (n + 1 - k) sc (n - k) A ?_ hAl ?_ ?_ ?_ hone
      · show n - k = min (n + 1 - k) (n - k); omega
      · intro j v hj
        rw [addr_add]
        show w.cell? _ = _
        rw [hb.cell]
        rw [hA, List.getElem?_drop, List.getElem?_take] at hj
        split at hj
        · exact hj
        · cases hj
      · intro j hj; show (w.cell? _).isSome = true; rw [hb.cell]; simp; omega
      · intro j hj; exact hb.frozen _
    have hcp2 : ∀ ty dc, (Builtin.copy_ #[109, 109] ty #[.slice (some ⟨g, k * 3, none⟩) (n + 1 - k) dc, .slice (some ⟨vb, 0, none⟩) 1 1]).run Tryd.prog W1 = .ok (goInt 1) (W1.setCells g (k * 3) (fdV x)) := fun ty dc => by
      refine run_copy_row ty elField W1 g (k * 3) (n + 1 - k) dc ⟨vb, 0, none⟩ 1 1 1 (fdV x) ?_ rfl ?_ ?_ ?_ hone2
      · show 1 = min 1 (n + 1 - k); omega
      · intro j v hj
        rw [addr_add, hv1.cell, Nat.zero_add]
        exact hj
      · intro j hj; rw [hb1.cell]; have : j < 3 := hj; simp; omega
      · intro j hj; exact hb1.frozen _
    have hg2 : w.grownBy (W1.setCells g (k * 3) (fdV x)) (some g) := by
      have hg1' : w.grownBy W1 (some g) := undrew hg1
      have h2 := hb2.2
      exact ⟨h2.os.trans hg1'.os, h2.tape.trans hg1'.tape, h2.output.trans hg1'.output, Nat.le_trans hg1'.size h2.size, fun j hj hne => (h2.block j (Nat.lt_of_lt_of_le hj hg1'.size) hne).trans (hg1'.block j hj hne)⟩
    have hfin : InsPost w B g n k F ds (fdD x) (.returned (.slice (some ⟨g, 0, none⟩) (n + 1) cap)) (W1.setCells g (k * 3) (fdV x)) := by
      refine ⟨_, rfl, h.put_in hg2 hk hroom hb hb2.1 ?_ rfl rfl (fun j d hd => (fdD_rd w _ x).get hd) ?_, hg2, .inl rfl⟩
      · have : (fdV x).length = 3 := rfl
        simp [this]; omega
      · have := ins_cells (cs := cs) (vs := fdV x) (A := A) (a := k * 3) (n := n * 3) (by omega) (by show n * 3 + 3 ≤ _; omega) hA
        rw [show (n + 1) * 3 = n * 3 + 3 by omega]
        exact this
    have hwk : IntKind.i64.wrap ((k : Int) + 1) = (k : Int) + 1 := by rw [IntKind.wrap_i64]; omega
    have htn : ((k : Int) + 1).toNat = k + 1 := by omega
    have z1 : ¬ (k : Int) = (n : Int) := by omega
    have z2 : ((k : Int) == (n : Int)) = false := by simp; omega
    have z3 : (0 : Int) ≤ (k : Int) := by omega
    have z4 : (k : Int) ≤ (n : Int) := by omega
    have z5 : (k : Int) + 1 ≤ (n : Int) + 1 := by omega
    have z6 : (0 : Int) ≤ (k : Int) + 1 := by omega
    have z7 : ¬ cap = k := by omega
    have z8 : ¬ cap = k + 1 := by omega
    have z9 : (n : Int) + 1 ≤ (cap : Int) := by omega
    have z10 : ¬ (n : Int) + 1 > (cap : Int) := by omega
    have z11 : (k : Int) ≤ (n : Int) + 1 := by omega
    have z12 : (0 : Int) ≤ (n : Int) + 1 := by omega
    have z13 : n + 1 - (k + 1) = n - k := by omega
    have z14 : (k + 1) * 3 = k * 3 + 3 := by omega
    replace hov := Lib.hid hov
    replace hcp1 := Lib.hid hcp1
    replace hcp2 := Lib.hid hcp2
    replace hfin := Lib.hid hfin
    replace hlen := Lib.hid hlen
    clear h hr hb hb1 hb2 hg1 hg2 hv hv1 hW1 hone hone2 hA hAl hl1 hdl hlt hd
    go_enter Tryd.func89, Tryd.ntmps89
    go_upto_region 15 with (simp only [hov.out])
    go_region_law ((refine step_copy_r (by rfl) (.tmp 73) (.tmp 76) 109 109 (by rfl) _ _ (by simp [Act.eval, Act.put]) (by simp [Act.eval, Act.put]) (hcp1.out _ (cap - (k + 1)) (cap - k)) ?_))
    all_goals
      go_wp2_with (simp only [hcp2.out])
      go_ret
      exact hfin.out
end evW
end Go.Proofs.YtmadafejenjkcaaDoor
