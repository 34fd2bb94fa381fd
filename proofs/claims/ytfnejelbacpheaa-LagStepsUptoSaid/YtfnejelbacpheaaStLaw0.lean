/- An append behind which the old slice can still be read; halves of lists. -/
import Derived.Test.YtfnejelbacpheaaStTw
import Derived.Test.YtfnejelbacpheaaStDis
import Derived.Test.YtfnejelbacpheaaStRef
import Derived.Deep.DeepAppendRoom
namespace Go.Proofs.Ytfnejelbacpheaa
open Go.RowKit Go.Deep
set_option linter.unusedVariables false

section
variable {P : Program} {w : World}
theorem run_append_keep {t ty e size bytes B g n cap m c : Nat} (T : ElT P t e size bytes) {xs news : List Value} {ad : Addr} (hown : w.ownsRow B e size (.slice (some ⟨g, 0, none⟩) n cap) n xs)
    (hl : news.length = m * size) (hnews : ∀ j u, news[j]? = some u → w.cell? (ad.add j) = some u) (h1 : ∀ u ∈ news, u.oneCell' = true) (hn : n + m ≤ 4294967296) (hb : bytes ≤ 32768) (hm : 0 < m) :
    ∃ g' cap' w', (Builtin.append_ #[t, t] ty #[.slice (some ⟨g, 0, none⟩) n cap, .slice (some ad) m c]).run P w = .ok (.slice (some ⟨g', 0, none⟩) (n + m) cap') w' ∧ w.grownBy w' (some g) ∧ (g' = g ∨ g' = w.heap.size) ∧
      (∀ j u, xs[j]? = some u → w'.cell? ⟨g, j, none⟩ = some u) ∧ (∀ j u, (xs ++ news)[j]? = some u → w'.cell? ⟨g', j, none⟩ = some u) := by
  obtain ⟨ht, ⟨i, z, hi, hz, hsize, hby, hzs⟩, hp⟩ := T
  by_cases hroom : n + m ≤ cap
  · obtain ⟨w', hr, ho, hg⟩ := run_append_own_spare (P := P) w B t ty e i size ht hi hsize g n cap xs hown ad m c news hl hnews h1 hroom
    have hc := ho.cells (g := g) rfl
    refine ⟨g, cap, w', hr, hg, .inl rfl, fun j u hj => ?_, fun j u hj => ?_⟩
    · have := hc j u (by rw [List.getElem?_append_left (List.getElem?_eq_some_iff.1 hj).1]; exact hj)
      rwa [addr_add0] at this
    · have := hc j u hj
      rwa [addr_add0] at this
  · subst hsize hby
    have holds : ∀ j u, xs[j]? = some u → w.cell? ((⟨g, 0, none⟩ : Addr).add j) = some u := hown.cells (g := g) rfl
    have hbytes : (n + m) * i.bytes ≤ 140737488355328 := Nat.le_trans (Nat.mul_le_mul hn hb) (by decide)
    have hr := run_append_grow (P := P) w t ty e i z ht hi hz ⟨g, 0, none⟩ n cap xs hown.1 holds ad m c news hl hnews (by omega) (by omega) (growslice_fits (by omega) hbytes)
    refine ⟨_, _, _, hr, ⟨rfl, rfl, rfl, by simp, fun k hk _ => Below.heap_alloc w.drew _ k hk⟩, .inr rfl, fun j u hj => ?_, fun j u hj => ?_⟩
    · have h2 := holds j u hj
      rw [addr_add0] at h2
      have hlt := World.block_lt_of_cell? w _ h2
      exact (World.cell?_of_block (w := w) (Below.heap_alloc w.drew _ g hlt)).trans h2
    · show (w.drew.alloc _).cell? ⟨w.drew.heap.size, j, none⟩ = _
      rw [cell_of_row _ _ j _ e (0, 0) (heap_alloc_new w.drew _)]
      have hj' := (List.getElem?_eq_some_iff.1 hj).1
      simp only [Array.getElem?_append, List.size_toArray, Array.size_append]
      simp only [List.length_append] at hj'
      rw [if_pos (by omega)]
      simp only [List.getElem?_append] at hj
      split at hj
      · rw [if_pos ‹_›]; simpa using hj
      · rw [if_neg ‹_›]; simpa using hj

theorem wpList_append_keep {ops : Array Oper} {rest : List Oper} {o : Oper} {a : Act} {Q : Exit → Act → World → Prop} (hgd : o.guard = none) (s x : Operand) (t : TypeId)
    (ho : o.op = .call { callee := .builtin .append, args := #[s, x], argTypes := #[t, t] }) {e size bytes B g n cap m c : Nat} (T : ElT P t e size bytes) {xs news : List Value} {ad : Addr} (hs : a.eval s = .slice (some ⟨g, 0, none⟩) n cap) (hx : a.eval x = .slice (some ad) m c)
    (hown : w.ownsRow B e size (.slice (some ⟨g, 0, none⟩) n cap) n xs) (hl : news.length = m * size) (hnews : ∀ j u, news[j]? = some u → w.cell? (ad.add j) = some u) (h1 : ∀ u ∈ news, u.oneCell' = true) (hn : n + m ≤ 4294967296) (hb : bytes ≤ 32768) (hm : 0 < m)
    (h : ∀ g' cap' w', w.grownBy w' (some g) → (g' = g ∨ g' = w.heap.size) → (∀ j u, xs[j]? = some u → w'.cell? ⟨g, j, none⟩ = some u) → (∀ j u, (xs ++ news)[j]? = some u → w'.cell? ⟨g', j, none⟩ = some u) → wpList P ops Q rest (a.put o.dst (.slice (some ⟨g', 0, none⟩) (n + m) cap')) w') : wpList P ops Q (o :: rest) a w := by
  refine wpList_plain hgd fun K hK => ?_
  obtain ⟨g', cap', w', hrun, h2, h3, h4, h5⟩ := run_append_keep (P := P) (ty := o.type) T hown hl hnews h1 hn hb hm (c := c)
  unfold Oper.wp execOp
  simp only [ho, resolve, invoke, builtin, Sem.run_bind, Sem.run_pure, Result.andThen_ok, List.map_toArray, List.map_cons, List.map_nil, hs, hx, hrun]
  exact hK _ _ (h g' cap' w' h2 h3 h4 h5)
end

theorem evD_take (l : List Ev) (h : Nat) : (l.take h).flatMap evD = (l.flatMap evD).take (h * 11) := by
  induction l generalizing h with
  | nil => simp
  | cons a l ih =>
    cases h with
    | zero => simp
    | succ h => rw [List.take_succ_cons, List.flatMap_cons, List.flatMap_cons, ih, List.take_append, show (evD a).length = 11 from rfl, List.take_of_length_le (l := evD a) (i := (h + 1) * 11) (by show 11 ≤ _; omega), show (h + 1) * 11 - 11 = h * 11 by omega]
/-- the first half of a list of events -/
theorem Rd.half {w : World} {F : Nat → Prop} {A : Option Addr} {c : Nat} {l : List Ev} (h : Rd w F (.slice A l.length c) (.sl l.length (l.flatMap evD))) (k : Nat) (hk : k ≤ l.length) : Rd w F (.slice A k c) (.sl k ((l.take k).flatMap evD)) := by
  rw [evD_take]; exact h.take _ hk
end Go.Proofs.Ytfnejelbacpheaa
