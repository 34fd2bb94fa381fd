/- slices.Delete on an own row of structs: one element is taken out. -/
import Derived.Test.YtmadafejenjkcaaDoorW
import Derived.Deep.RegionLaw
namespace Go.Proofs.YtmadafejenjkcaaDoor
open Go.RowKit Go.Deep
set_option linter.unusedVariables false

theorem elKind : ElT Tryd.prog 105 111 3 48 := .of Tryd.underlying105 (by kernel_rfl) (by omega)
theorem elField : ElT Tryd.prog 109 113 3 32 := .of Tryd.underlying109 (by kernel_rfl) (by omega)
theorem zKind : ((Tryd.prog.info? 111).bind (·.zero)).map (fun z => z.cells.toList.all Value.oneCell') = some true := by kernel_rfl
theorem zField : ((Tryd.prog.info? 113).bind (·.zero)).map (fun z => z.cells.toList.all Value.oneCell') = some true := by kernel_rfl

namespace evW
open nmW
set_option maxRecDepth 100000 in
set_option maxHeartbeats 2000000 in
theorem delField_k (B g cap n k : Nat) (F : Nat → Prop) (ds : List D) (w : World) (h : OL w B F 113 3 (.slice (some ⟨g, 0, none⟩) n cap) n ds) (hk : k < n) :
    Calls Tryd.prog 88 #[.slice (some ⟨g, 0, none⟩) n cap, .int .i64 (k : Int), .int .i64 ((k : Int) + 1)] w fun e w' => e = .returned (.slice (some ⟨g, 0, none⟩) (n - 1) cap) ∧
      OL w' B F 113 3 (.slice (some ⟨g, 0, none⟩) (n - 1) cap) (n - 1) (ds.take (k * 3) ++ ds.drop ((k + 1) * 3)) ∧ w.grownBy w' (some g) := by
  obtain ⟨cs, hB, hb, hnc, hm, hlen, hd, hr⟩ := h.blk
  obtain ⟨i0, z0, hi0, hz0, hs0, hb0, hzs0⟩ := elField.info
  obtain ⟨news, hnews⟩ : ∃ news, news = (cs.take (n * 3)).drop ((k + 1) * 3) := ⟨_, rfl⟩
  have hnl : news.length = (n - (k + 1)) * 3 := by rw [hnews]; simp; omega
  have hone : ∀ u ∈ news, u.oneCell' = true := by
    intro u hu
    rw [hnews] at hu
    obtain ⟨j, hj⟩ := List.getElem?_of_mem hu
    rw [List.getElem?_drop, List.getElem?_take] at hj
    split at hj
    · obtain ⟨u', hu', hx⟩ := hr ((k + 1) * 3 + j) _ (List.getElem?_eq_getElem (by omega))
      rw [hj] at hu'; injection hu' with e; subst e
      exact hx.one
    · cases hj
  obtain ⟨A, hA, hsrc⟩ : ∃ A : Addr, (if cap = k + 1 then some (⟨g, 0, none⟩ : Addr) else some ⟨g, (k + 1) * 3, none⟩) = some A ∧ Hid (∀ t u, news[t]? = some u → w.drew.cell? (A.add t) = some u) := by
    by_cases hc : cap = k + 1
    · refine ⟨⟨g, 0, none⟩, by simp [hc], Lib.hid fun t u hu => ?_⟩
      have h0 : news.length = 0 := by rw [hnl]; omega
      rw [List.length_eq_zero_iff.1 h0] at hu
      simp at hu
    · refine ⟨⟨g, (k + 1) * 3, none⟩, by simp [hc], Lib.hid fun t u hu => ?_⟩
      rw [hnews, List.getElem?_drop, List.getElem?_take] at hu
      split at hu
      · rw [addr_add]
        exact (hb.cell _).trans hu
      · cases hu
  have hb1 := Blk.setCells news (k * 3) w.drew cs hb (by rw [hnl, hlen]; omega)
  obtain ⟨W1, hW1⟩ : ∃ W1, W1 = w.drew.setCells g (k * 3) news := ⟨_, rfl⟩
  rw [← hW1] at hb1
  obtain ⟨hb1, hg1⟩ := hb1
  obtain ⟨zs, hzl, hcl⟩ := run_clear_row (P := Tryd.prog) elField zField (n - (n - 1)) (by omega)
  have hcs1 : (cs.take (k * 3) ++ news ++ cs.drop (k * 3 + news.length)).length = cs.length := by simp; omega
  have hb2 := Blk.setCells zs ((n - 1) * 3) W1 _ hb1 (by rw [hcs1, hzl]; omega)
  have hrun : ∀ ty c, (Builtin.clear_ #[109] ty #[.slice (some ⟨g, (n - 1) * 3, none⟩) (n - (n - 1)) c]).run Tryd.prog W1 = .ok (.tuple #[]) (W1.setCells g ((n - 1) * 3) zs) := fun ty c =>
    hcl ty W1 g _ c (fun j hj => by rw [hb1.cell]; simp; omega) (fun j hj => hb1.frozen _)
  have s1 : Hid (news.length = (n - (k + 1)) * 3) := Lib.hid hnl
  have s2 := Lib.hid hone
  have s3 : Hid (∀ t, t < news.length → (w.drew.cell? ⟨g, 0 + k * 3 + t, none⟩).isSome = true ∧ w.drew.frozen? ⟨g, 0 + k * 3 + t, none⟩ = false) := Lib.hid fun t ht => by
    refine ⟨?_, hb.frozen _⟩
    show (w.cell? _).isSome = true
    rw [hb.cell]; simp; omega
  have hW : Hid (W1 = w.drew.setCells g (0 + k * 3) news) := Lib.hid (by rw [Nat.zero_add]; exact hW1)
  have hfin : OL (W1.setCells g ((n - 1) * 3) zs) B F 113 3 (.slice (some ⟨g, 0, none⟩) (n - 1) cap) (n - 1) (ds.take (k * 3) ++ ds.drop ((k + 1) * 3)) ∧ w.grownBy (W1.setCells g ((n - 1) * 3) zs) (some g) := by
    have hg : w.grownBy (W1.setCells g ((n - 1) * 3) zs) (some g) := by
      have hg1' : w.grownBy W1 (some g) := undrew hg1
      exact ⟨hb2.2.os.trans hg1'.os, hb2.2.tape.trans hg1'.tape, hb2.2.output.trans hg1'.output, Nat.le_trans hg1'.size hb2.2.size, fun j hj hne => (hb2.2.block j (Nat.lt_of_lt_of_le hj hg1'.size) hne).trans (hg1'.block j hj hne)⟩
    refine ⟨h.cut hg hk hb hb2.1 ?_ ?_, hg⟩
    · simp; omega
    · rw [cut_cells (X := (n - 1) * 3) (a := k * 3) (by omega) (by omega)]
      rw [hnews]
  have hic : k ≤ cap := by omega
  have p0 : (0 : Int) ≤ (k : Int) + 1 := by omega
  have p1 : (k : Int) + 1 ≤ (n : Int) := by omega
  have p2 : (k : Int) ≤ (cap : Int) := by omega
  have p3 : ¬ cap = n - 1 := by omega
  have hjc : k + 1 ≤ cap := by omega
  have hkn : k + (n - (k + 1)) = n - 1 := by omega
  clear hcl hb2 hb1 hg1 hcs1 hnews hone hW1 hr
  replace hrun := Lib.hid hrun
  replace hfin := Lib.hid hfin
  go_enter Tryd.func88, Tryd.ntmps88
  go_upto_region 5 with fail
  go_region_law ((refine step_append_room rfl (.tmp 22) (.tmp 25) 109 rfl 113 i0 3 elField.sl hi0 hs0 g 0 k cap (by simp [Act.eval, Act.put]) A (n - (k + 1)) (cap - (k + 1)) news (by simp [Act.eval, Act.put]) s1.out hsrc.out s2.out (by omega) s3.out ?_; rw [← hW.out]))
  all_goals
    go_wp2_with (simp only [hrun.out])
    go_ret
    exact ⟨rfl, hfin.out⟩
set_option maxRecDepth 100000 in
set_option maxHeartbeats 2000000 in
theorem delKind_k (B g cap n k : Nat) (F : Nat → Prop) (ds : List D) (w : World) (h : OL w B F 111 3 (.slice (some ⟨g, 0, none⟩) n cap) n ds) (hk : k < n) :
    Calls Tryd.prog 86 #[.slice (some ⟨g, 0, none⟩) n cap, .int .i64 (k : Int), .int .i64 ((k : Int) + 1)] w fun e w' => e = .returned (.slice (some ⟨g, 0, none⟩) (n - 1) cap) ∧
      OL w' B F 111 3 (.slice (some ⟨g, 0, none⟩) (n - 1) cap) (n - 1) (ds.take (k * 3) ++ ds.drop ((k + 1) * 3)) ∧ w.grownBy w' (some g) := by
  obtain ⟨cs, hB, hb, hnc, hm, hlen, hd, hr⟩ := h.blk
  obtain ⟨i0, z0, hi0, hz0, hs0, hb0, hzs0⟩ := elKind.info
  obtain ⟨news, hnews⟩ : ∃ news, news = (cs.take (n * 3)).drop ((k + 1) * 3) := ⟨_, rfl⟩
  have hnl : news.length = (n - (k + 1)) * 3 := by rw [hnews]; simp; omega
  have hone : ∀ u ∈ news, u.oneCell' = true := by
    intro u hu
    rw [hnews] at hu
    obtain ⟨j, hj⟩ := List.getElem?_of_mem hu
    rw [List.getElem?_drop, List.getElem?_take] at hj
    split at hj
    · obtain ⟨u', hu', hx⟩ := hr ((k + 1) * 3 + j) _ (List.getElem?_eq_getElem (by omega))
      rw [hj] at hu'; injection hu' with e; subst e
      exact hx.one
    · cases hj
  obtain ⟨A, hA, hsrc⟩ : ∃ A : Addr, (if cap = k + 1 then some (⟨g, 0, none⟩ : Addr) else some ⟨g, (k + 1) * 3, none⟩) = some A ∧ Hid (∀ t u, news[t]? = some u → w.drew.cell? (A.add t) = some u) := by
    by_cases hc : cap = k + 1
    · refine ⟨⟨g, 0, none⟩, by simp [hc], Lib.hid fun t u hu => ?_⟩
      have h0 : news.length = 0 := by rw [hnl]; omega
      rw [List.length_eq_zero_iff.1 h0] at hu
      simp at hu
    · refine ⟨⟨g, (k + 1) * 3, none⟩, by simp [hc], Lib.hid fun t u hu => ?_⟩
      rw [hnews, List.getElem?_drop, List.getElem?_take] at hu
      split at hu
      · rw [addr_add]
        exact (hb.cell _).trans hu
      · cases hu
  have hb1 := Blk.setCells news (k * 3) w.drew cs hb (by rw [hnl, hlen]; omega)
  obtain ⟨W1, hW1⟩ : ∃ W1, W1 = w.drew.setCells g (k * 3) news := ⟨_, rfl⟩
  rw [← hW1] at hb1
  obtain ⟨hb1, hg1⟩ := hb1
  obtain ⟨zs, hzl, hcl⟩ := run_clear_row (P := Tryd.prog) elKind zKind (n - (n - 1)) (by omega)
  have hcs1 : (cs.take (k * 3) ++ news ++ cs.drop (k * 3 + news.length)).length = cs.length := by simp; omega
  have hb2 := Blk.setCells zs ((n - 1) * 3) W1 _ hb1 (by rw [hcs1, hzl]; omega)
  have hrun : ∀ ty c, (Builtin.clear_ #[105] ty #[.slice (some ⟨g, (n - 1) * 3, none⟩) (n - (n - 1)) c]).run Tryd.prog W1 = .ok (.tuple #[]) (W1.setCells g ((n - 1) * 3) zs) := fun ty c =>
    hcl ty W1 g _ c (fun j hj => by rw [hb1.cell]; simp; omega) (fun j hj => hb1.frozen _)
  have s1 : Hid (news.length = (n - (k + 1)) * 3) := Lib.hid hnl
  have s2 := Lib.hid hone
  have s3 : Hid (∀ t, t < news.length → (w.drew.cell? ⟨g, 0 + k * 3 + t, none⟩).isSome = true ∧ w.drew.frozen? ⟨g, 0 + k * 3 + t, none⟩ = false) := Lib.hid fun t ht => by
    refine ⟨?_, hb.frozen _⟩
    show (w.cell? _).isSome = true
    rw [hb.cell]; simp; omega
  have hW : Hid (W1 = w.drew.setCells g (0 + k * 3) news) := Lib.hid (by rw [Nat.zero_add]; exact hW1)
  have hfin : OL (W1.setCells g ((n - 1) * 3) zs) B F 111 3 (.slice (some ⟨g, 0, none⟩) (n - 1) cap) (n - 1) (ds.take (k * 3) ++ ds.drop ((k + 1) * 3)) ∧ w.grownBy (W1.setCells g ((n - 1) * 3) zs) (some g) := by
    have hg : w.grownBy (W1.setCells g ((n - 1) * 3) zs) (some g) := by
      have hg1' : w.grownBy W1 (some g) := undrew hg1
      exact ⟨hb2.2.os.trans hg1'.os, hb2.2.tape.trans hg1'.tape, hb2.2.output.trans hg1'.output, Nat.le_trans hg1'.size hb2.2.size, fun j hj hne => (hb2.2.block j (Nat.lt_of_lt_of_le hj hg1'.size) hne).trans (hg1'.block j hj hne)⟩
    refine ⟨h.cut hg hk hb hb2.1 ?_ ?_, hg⟩
    · simp; omega
    · rw [cut_cells (X := (n - 1) * 3) (a := k * 3) (by omega) (by omega)]
      rw [hnews]
  have hic : k ≤ cap := by omega
  have p0 : (0 : Int) ≤ (k : Int) + 1 := by omega
  have p1 : (k : Int) + 1 ≤ (n : Int) := by omega
  have p2 : (k : Int) ≤ (cap : Int) := by omega
  have p3 : ¬ cap = n - 1 := by omega
  have hjc : k + 1 ≤ cap := by omega
  have hkn : k + (n - (k + 1)) = n - 1 := by omega
  clear hcl hb2 hb1 hg1 hcs1 hnews hone hW1 hr
  replace hrun := Lib.hid hrun
  replace hfin := Lib.hid hfin
  go_enter Tryd.func86, Tryd.ntmps86
  go_upto_region 5 with fail
  go_region_law ((refine step_append_room rfl (.tmp 22) (.tmp 25) 105 rfl 111 i0 3 elKind.sl hi0 hs0 g 0 k cap (by simp [Act.eval, Act.put]) A (n - (k + 1)) (cap - (k + 1)) news (by simp [Act.eval, Act.put]) s1.out hsrc.out s2.out (by omega) s3.out ?_; rw [← hW.out]))
  all_goals
    go_wp2_with (simp only [hrun.out])
    go_ret
    exact ⟨rfl, hfin.out⟩
end evW
end Go.Proofs.YtmadafejenjkcaaDoor
