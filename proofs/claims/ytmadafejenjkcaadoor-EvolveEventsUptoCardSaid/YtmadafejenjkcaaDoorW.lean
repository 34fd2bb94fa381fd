/- Own rows of memory under clear, copy, and writing a stretch of cells. No conditions, no program. -/
import Derived.Test.YtmadafejenjkcaaDoorV
import Derived.Lib.SliceRun
import Derived.Lib.Overlaps
import Derived.Laws.IdiomCopy
namespace Go.Proofs.YtmadafejenjkcaaDoor
open Go.RowKit Go.Deep
set_option linter.unusedVariables false

/-- a stretch of a block is written -/
theorem Blk.setCells {g t : Nat} (cs' : List Value) : ∀ (o : Nat) (w : World) (cs : List Value), Blk w g t cs → o + cs'.length ≤ cs.length → Blk (w.setCells g o cs') g t (cs.take o ++ cs' ++ cs.drop (o + cs'.length)) ∧ w.grownBy (w.setCells g o cs') (some g) := by
  induction cs' with
  | nil =>
    intro o w cs h hl
    simp only [World.setCells, List.append_nil, List.length_nil, Nat.add_zero, List.take_append_drop]
    exact ⟨h, World.grownBy.refl w _⟩
  | cons v r ih =>
    intro o w cs h hl
    simp only [List.length_cons] at hl
    obtain ⟨h1, h2⟩ := ih (o + 1) (w.setCell ⟨g, o, none⟩ v) (cs.set o v) (h.set_ o v) (by simp; omega)
    refine ⟨?_, ?_⟩
    · have e1 : (cs.set o v).take (o + 1) = cs.take o ++ [v] := by
        rw [List.take_add_one, List.getElem?_set, if_pos rfl, if_pos (by omega), List.take_set_of_le (Nat.le_refl _)]; rfl
      have e2 : (cs.set o v).drop (o + 1 + r.length) = cs.drop (o + (v :: r).length) := by
        rw [List.drop_set_of_lt (by omega), List.length_cons, show o + 1 + r.length = o + (r.length + 1) by omega]
      rw [e1, e2] at h1
      simpa [World.setCells] using h1
    · refine ⟨h2.os, h2.tape, h2.output, ?_, fun k hk hne => ?_⟩
      · have := h2.size
        refine Nat.le_trans ?_ this
        simp [World.setCell]
      · show (((w.setCell ⟨g, o, none⟩ v).setCells g (o + 1) r).heap[k]?) = _
        rw [h2.block k (by simpa [World.setCell] using hk) hne]
        exact Below.heap_setCell _ _ _ _ (fun e => hne (by rw [e]))
theorem setCells_size (g : Nat) (cs : List Value) : ∀ (o : Nat) (w : World), (w.setCells g o cs).heap.size = w.heap.size := by
  induction cs with
  | nil => intro o w; rfl
  | cons v r ih => intro o w; rw [World.setCells, ih]; simp [World.setCell]

/-- clear on elements of any size -/
theorem run_clear_row {P : Program} {t e size bytes : Nat} (T : ElT P t e size bytes) (h1 : ((P.info? e).bind (·.zero)).map (fun z => z.cells.toList.all Value.oneCell') = some true) (n : Nat) (hn : 0 < n) :
    ∃ zs : List Value, zs.length = n * size ∧ ∀ (ty : Nat) (w : World) (b o c : Nat), (∀ j, j < n * size → (w.cell? ⟨b, o + j, none⟩).isSome = true) → (∀ j, j < n * size → w.frozen? ⟨b, o + j, none⟩ = false) →
      (Builtin.clear_ #[t] ty #[.slice (some ⟨b, o, none⟩) n c]).run P w = .ok (.tuple #[]) (w.setCells b o zs) := by
  obtain ⟨ht, ⟨i, z, hi, hz, hsize, hby, hzs⟩, hp⟩ := T
  rw [hi] at h1
  simp only [Option.bind_some, hz, Option.map_some, Option.some.injEq] at h1
  have hv : ∀ w, (zeroValue e).run P w = .ok z w := fun w => by simp [zeroValue, typeInfo, hi, hz]
  refine ⟨(Builtin.zeroCells z.cells n).toList, by simp [Builtin.zeroCells, hzs], fun ty w b o c hc hf => ?_⟩
  have hl : (Builtin.zeroCells z.cells n).toList.length = n * size := by simp [Builtin.zeroCells, hzs]
  have hone : ∀ v ∈ (Builtin.zeroCells z.cells n).toList, v.oneCell' = true := by
    intro v hv
    simp only [Builtin.zeroCells, Array.toList_map, List.mem_map] at hv
    obtain ⟨k, _, rfl⟩ := hv
    have hk : k % z.cells.size < z.cells.size := Nat.mod_lt _ (by omega)
    rw [getElem!_pos z.cells _ hk]
    exact List.all_eq_true.1 h1 _ (Array.getElem_mem_toList hk)
  have hst := run_storeCells_cells (P := P) b o (Builtin.zeroCells z.cells n).toList 0 w (by rw [hl]; simpa using hc) (by rw [hl]; simpa using hf) hone
  simp only [Nat.add_zero] at hst
  obtain ⟨m, rfl⟩ : ∃ m, n = m + 1 := ⟨n - 1, by omega⟩
  simp [Builtin.clear_, run_underlying ht, hv, hst]

/-- copy on elements of any size -/
theorem run_copy_row {P : Program} {t e size bytes : Nat} (ty : Nat) (T : ElT P t e size bytes) (w : World) (b o dLen dCap : Nat) (a : Addr) (sLen sCap m : Nat) (cs : List Value) (hm : m = Nat.min sLen dLen) (hn : cs.length = m * size)
    (hsrc : ∀ j v, cs[j]? = some v → w.cell? (a.add j) = some v) (hc : ∀ j, j < cs.length → (w.cell? ⟨b, o + j, none⟩).isSome = true) (hf : ∀ j, j < cs.length → w.frozen? ⟨b, o + j, none⟩ = false) (h1 : ∀ v ∈ cs, v.oneCell' = true) :
    (Builtin.copy_ #[t, t] ty #[.slice (some ⟨b, o, none⟩) dLen dCap, .slice (some a) sLen sCap]).run P w = .ok (goInt m) (w.setCells b o cs) := by
  obtain ⟨ht, ⟨i, z, hi, hz, hsize, hby, hzs⟩, hp⟩ := T
  have hl := run_loadCells_list (P := P) w a cs hsrc
  have hst := run_storeCells_cells (P := P) b o cs 0 w (by simpa using hc) (by simpa using hf) h1
  rw [hn] at hl
  simp [Builtin.copy_, run_underlying ht, Builtin.lenOf, Builtin.firstCells, sizeOf, typeInfo, hi, hsize, ← hm, hl, hst]

/-- the call's own row, whole: its block -/
theorem OL.blk {w : World} {B e size n g cap : Nat} {F : Nat → Prop} {ds : List D} (h : OL w B F e size (.slice (some ⟨g, 0, none⟩) n cap) n ds) :
    ∃ cs, B ≤ g ∧ Blk w g e cs ∧ n ≤ cap ∧ cap ≤ maxLen ∧ cs.length = cap * size ∧ ds.length = n * size ∧ ∀ (k : Nat) (d : D), ds[k]? = some d → ∃ u, cs[k]? = some u ∧ Rd w (fun b => F b ∧ b ≠ g) u d := by
  obtain ⟨cells, ⟨h1, h2⟩, h3, h4⟩ := h
  rcases h2 with ⟨h2, _⟩ | ⟨g', cap', cur, h2, hB, hb, hnc, hm, hs, ht⟩
  · cases h2
  · injection h2 with e1 e2 e3
    injection e1 with e1
    injection e1 with e1 e4
    subst e1 e3
    refine ⟨cur.toList, hB, hb, hnc, hm, by simpa using hs, by rw [h3, h1], fun k d hd => ?_⟩
    obtain ⟨u, hu, hr⟩ := h4 k d hd
    refine ⟨u, ?_, hr.mono fun b hb' _ => ⟨hb'.1, fun e => hb'.2 (by rw [e]; rfl)⟩⟩
    rw [← ht, List.getElem?_take] at hu
    split at hu
    · exact hu
    · cases hu
theorem OL.of_blk {w : World} {B e size n g cap : Nat} {F : Nat → Prop} {ds : List D} {cs : List Value} (hB : B ≤ g) (hb : Blk w g e cs) (hn : n ≤ cap) (hm : cap ≤ maxLen) (hl : cs.length = cap * size) (hd : ds.length = n * size)
    (h : ∀ (k : Nat) (d : D), ds[k]? = some d → ∃ u, cs[k]? = some u ∧ Rd w (fun b => F b ∧ b ≠ g) u d) : OL w B F e size (.slice (some ⟨g, 0, none⟩) n cap) n ds := by
  have hns : n * size ≤ cap * size := Nat.mul_le_mul hn (Nat.le_refl _)
  refine ⟨cs.take (n * size), ⟨by simp; omega, .inr ⟨g, cap, ⟨cs⟩, rfl, hB, hb, hn, hm, by simpa using hl, rfl⟩⟩, by simp; omega, fun k d hk => ?_⟩
  obtain ⟨u, hu, hr⟩ := h k d hk
  refine ⟨u, ?_, hr.mono fun b hb' _ => ⟨hb'.1, fun e => hb'.2 (by simpa [Value.ownBlock] using e)⟩⟩
  have := (List.getElem?_eq_some_iff.1 hk).1
  rw [List.getElem?_take, if_pos (by omega)]
  exact hu

/-- an element is taken out: the cells behind it move ahead, the rest is written over -/
theorem OL.cut {w w2 : World} {B e size n g cap k : Nat} {F : Nat → Prop} {ds : List D} {cs cs2 : List Value} (h : OL w B F e size (.slice (some ⟨g, 0, none⟩) n cap) n ds) (hg : w.grownBy w2 (some g)) (hk : k < n)
    (hb : Blk w g e cs) (hb2 : Blk w2 g e cs2) (hl : cs2.length = cs.length) (hc : cs2.take ((n - 1) * size) = cs.take (k * size) ++ (cs.take (n * size)).drop ((k + 1) * size)) :
    OL w2 B F e size (.slice (some ⟨g, 0, none⟩) (n - 1) cap) (n - 1) (ds.take (k * size) ++ ds.drop ((k + 1) * size)) := by
  obtain ⟨cs', hB, hb', hnc, hm, hlen, hd, hr⟩ := h.blk
  have e1 : cs' = cs := by
    unfold Blk at hb hb'
    rw [hb] at hb'
    injection hb' with e; injection e with e; injection e with e; exact e.symm
  subst e1
  have hm1 : k * size + size ≤ n * size := by rw [← Nat.succ_mul]; exact Nat.mul_le_mul hk (Nat.le_refl _)
  have hm2 : (k + 1) * size = k * size + size := Nat.succ_mul _ _
  have hm3 : (n - 1) * size + size = n * size := by rw [← Nat.succ_mul, show (n - 1).succ = n by omega]
  have hnc2 : n * size ≤ cap * size := Nat.mul_le_mul hnc (Nat.le_refl _)
  refine OL.of_blk hB hb2 (by omega) hm (by omega) (by simp; omega) fun j d hj => ?_
  have hjl := (List.getElem?_eq_some_iff.1 hj).1
  simp at hjl
  have hc2 : cs2[j]? = (cs2.take ((n - 1) * size))[j]? := by rw [List.getElem?_take, if_pos (by omega)]
  rw [hc2, hc]
  have hrg : ∀ u y, Rd w (fun b => F b ∧ b ≠ g) u y → Rd w2 (fun b => F b ∧ b ≠ g) u y := fun u y h => h.grown hg fun b hb => by simpa using hb.2
  by_cases hjk : j < k * size
  · rw [List.getElem?_append_left (by simp; omega), List.getElem?_take, if_pos hjk] at hj
    obtain ⟨u, hu, hx⟩ := hr j d hj
    exact ⟨u, by rw [List.getElem?_append_left (by simp; omega), List.getElem?_take, if_pos hjk]; exact hu, hrg _ _ hx⟩
  · have e5 : (ds.take (k * size)).length = k * size := by simp; omega
    have e6 : (cs'.take (k * size)).length = k * size := by simp; omega
    rw [List.getElem?_append_right (by omega), e5, List.getElem?_drop] at hj
    obtain ⟨u, hu, hx⟩ := hr _ d hj
    refine ⟨u, ?_, hrg _ _ hx⟩
    have := (List.getElem?_eq_some_iff.1 hj).1
    rw [List.getElem?_append_right (by omega), e6, List.getElem?_drop, List.getElem?_take, if_pos (by omega)]
    exact hu
theorem cut_cells {cs news zs cs3 : List Value} {a b X : Nat} (hX : X = a + news.length) (ha : a ≤ cs.length) : ((cs.take a ++ news ++ cs.drop b).take X ++ zs ++ cs3).take X = cs.take a ++ news := by
  have e1 : (cs.take a).length = a := by simp; omega
  have e2 : (cs.take a ++ news).length = X := by rw [List.length_append, e1, hX]
  have e3 : (cs.take a ++ news ++ cs.drop b).take X = cs.take a ++ news := by rw [← e2, List.take_left]
  rw [e3, List.append_assoc, ← e2, List.take_left]
/-- an element is put in: the cells behind its place move on -/
theorem OL.put_in {w w2 : World} {B e size n g cap k : Nat} {F : Nat → Prop} {ds vd : List D} {vs cs cs2 : List Value} (h : OL w B F e size (.slice (some ⟨g, 0, none⟩) n cap) n ds) (hg : w.grownBy w2 (some g)) (hk : k ≤ n) (hnc1 : n + 1 ≤ cap)
    (hb : Blk w g e cs) (hb2 : Blk w2 g e cs2) (hl : cs2.length = cs.length) (hvl : vs.length = size) (hvd : vd.length = size) (hv : ∀ (j : Nat) d, vd[j]? = some d → ∃ u, vs[j]? = some u ∧ Rd w (fun b => F b ∧ b ≠ g) u d)
    (hc : cs2.take ((n + 1) * size) = cs.take (k * size) ++ vs ++ (cs.take (n * size)).drop (k * size)) :
    OL w2 B F e size (.slice (some ⟨g, 0, none⟩) (n + 1) cap) (n + 1) (ds.take (k * size) ++ vd ++ ds.drop (k * size)) := by
  obtain ⟨cs', hB, hb', hnc, hm, hlen, hd, hr⟩ := h.blk
  have e1 : cs' = cs := by
    unfold Blk at hb hb'
    rw [hb] at hb'
    injection hb' with e; injection e with e; injection e with e; exact e.symm
  subst e1
  have hm1 : k * size ≤ n * size := Nat.mul_le_mul hk (Nat.le_refl _)
  have hm2 : (n + 1) * size = n * size + size := Nat.succ_mul _ _
  have hnc2 : (n + 1) * size ≤ cap * size := Nat.mul_le_mul hnc1 (Nat.le_refl _)
  refine OL.of_blk hB hb2 hnc1 hm (by omega) (by simp; omega) fun j d hj => ?_
  have hjl := (List.getElem?_eq_some_iff.1 hj).1
  simp at hjl
  have hc2 : cs2[j]? = (cs2.take ((n + 1) * size))[j]? := by rw [List.getElem?_take, if_pos (by omega)]
  rw [hc2, hc]
  have hrg : ∀ u y, Rd w (fun b => F b ∧ b ≠ g) u y → Rd w2 (fun b => F b ∧ b ≠ g) u y := fun u y h => h.grown hg fun b hb => by simpa using hb.2
  have e5 : (ds.take (k * size)).length = k * size := by simp; omega
  have e6 : (cs'.take (k * size)).length = k * size := by simp; omega
  rw [List.append_assoc] at hj ⊢
  by_cases hjk : j < k * size
  · rw [List.getElem?_append_left (by omega), List.getElem?_take, if_pos hjk] at hj
    obtain ⟨u, hu, hx⟩ := hr j d hj
    exact ⟨u, by rw [List.getElem?_append_left (by omega), List.getElem?_take, if_pos hjk]; exact hu, hrg _ _ hx⟩
  · rw [List.getElem?_append_right (by omega), e5] at hj
    rw [List.getElem?_append_right (by omega), e6]
    by_cases hj2 : j - k * size < size
    · rw [List.getElem?_append_left (by omega)] at hj
      obtain ⟨u, hu, hx⟩ := hv _ d hj
      exact ⟨u, by rw [List.getElem?_append_left (by omega)]; exact hu, hrg _ _ hx⟩
    · rw [List.getElem?_append_right (by omega), hvd, List.getElem?_drop] at hj
      obtain ⟨u, hu, hx⟩ := hr _ d hj
      refine ⟨u, ?_, hrg _ _ hx⟩
      have := (List.getElem?_eq_some_iff.1 hj).1
      rw [List.getElem?_append_right (by omega), hvl, List.getElem?_drop, List.getElem?_take, if_pos (by omega)]
      exact hu
end Go.Proofs.YtmadafejenjkcaaDoor
