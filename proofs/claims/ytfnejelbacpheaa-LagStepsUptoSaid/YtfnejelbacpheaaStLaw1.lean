/- A struct of a slice of the call's own is written over. -/
import Derived.Test.YtfnejelbacpheaaStLaw0
namespace Go.Proofs.Ytfnejelbacpheaa
open Go.RowKit Go.Deep
set_option linter.unusedVariables false

def setL : List D → Nat → List D → List D
  | ds, _, [] => ds
  | ds, o, d :: r => setL (ds.set o d) (o + 1) r
theorem setL_eq (news : List D) : ∀ (ds : List D) (o : Nat), o + news.length ≤ ds.length → setL ds o news = ds.take o ++ news ++ ds.drop (o + news.length) := by
  induction news with
  | nil => intro ds o _; simp [setL]
  | cons d r ih =>
    intro ds o h
    simp only [List.length_cons] at h
    rw [setL, ih _ _ (by simp; omega)]
    rw [List.take_add_one, List.take_set_of_le (Nat.le_refl _), List.getElem?_set, if_pos rfl, if_pos (by omega), List.drop_set_of_lt (by omega)]
    simp [Nat.add_comm, Nat.add_left_comm]
theorem stD_take (l : List St) (h : Nat) : (l.take h).flatMap stD = (l.flatMap stD).take (h * 13) := by
  induction l generalizing h with
  | nil => simp
  | cons a l ih =>
    cases h with
    | zero => simp
    | succ h => rw [List.take_succ_cons, List.flatMap_cons, List.flatMap_cons, ih, List.take_append, show (stD a).length = 13 from rfl, List.take_of_length_le (l := stD a) (i := (h + 1) * 13) (by show 13 ≤ _; omega), show (h + 1) * 13 - 13 = h * 13 by omega]
theorem stD_drop (l : List St) (h : Nat) : (l.drop h).flatMap stD = (l.flatMap stD).drop (h * 13) := by
  induction l generalizing h with
  | nil => simp
  | cons a l ih =>
    cases h with
    | zero => simp
    | succ h => rw [List.drop_succ_cons, List.flatMap_cons, ih, List.drop_append, show (stD a).length = 13 from rfl, List.drop_of_length_le (l := stD a) (i := (h + 1) * 13) (by show 13 ≤ _; omega), show (h + 1) * 13 - 13 = h * 13 by omega]; simp
theorem stD_len (l : List St) : (l.flatMap stD).length = l.length * 13 := flatMap_length (f := stD) (m := 13) (fun _ => rfl) l
theorem setL_st (l : List St) (k : Nat) (x : St) (hk : k < l.length) : setL (l.flatMap stD) (k * 13) (stD x) = (l.set k x).flatMap stD := by
  have h13 : (stD x).length = 13 := rfl
  rw [setL_eq _ _ _ (by rw [stD_len, h13]; omega), h13, show k * 13 + 13 = (k + 1) * 13 by omega, ← stD_take, ← stD_drop]
  rw [List.set_eq_take_append_cons_drop, if_pos hk]
  simp

theorem setCells_grown (g : Nat) (cs : List Value) : ∀ (o : Nat) (w : World), w.grownBy (w.setCells g o cs) (some g) := by
  induction cs with
  | nil => intro o w; exact World.grownBy.refl w _
  | cons v r ih =>
    intro o w
    have h2 := ih (o + 1) (w.setCell ⟨g, o, none⟩ v)
    refine ⟨h2.os, h2.tape, h2.output, ?_, fun k hk hne => ?_⟩
    · have := h2.size
      refine Nat.le_trans ?_ this
      simp [World.setCell]
    · have := h2.block k (by simpa [World.setCell] using hk) hne
      exact this.trans (Below.heap_setCell _ _ _ _ (fun e => hne (by rw [e])))
theorem OL.setCells {B e size g n cap : Nat} (cs : List Value) : ∀ (news : List D) (o : Nat) (w : World) (ds : List D), OL w B (fun _ => False) e size (.slice (some ⟨g, 0, none⟩) n cap) n ds → (∀ w', RdL w' (fun b => False ∧ b ≠ g) cs news) →
    OL (w.setCells g o cs) B (fun _ => False) e size (.slice (some ⟨g, 0, none⟩) n cap) n (setL ds o news) := by
  induction cs with
  | nil =>
    intro news o w ds h hn
    cases news with
    | nil => exact h
    | cons d r => exact (hn w).elim
  | cons v r ih =>
    intro news o w ds h hn
    cases news with
    | nil => exact (hn w).elim
    | cons d rn => exact ih rn (o + 1) (w.setCell ⟨g, o, none⟩ v) (ds.set o d) (h.set (hn w).1) (fun w' => (hn w').2)

/-- the arm of a walk: a struct stored into a row -/
theorem wpList_store_row {P : Program} {w : World} {ops : Array Oper} {rest : List Oper} {op : Oper} {a : Act} {Q : Exit → Act → World → Prop} (hgd : op.guard = none) (ty : TypeId) (x y : Operand) (ho : op.op = .store ty x y)
    {g o : Nat} {cs' : List Value} (T : AggT P ty cs'.length) (hx : a.eval x = .pointer (some ⟨g, o, none⟩)) (hy : a.eval y = .agg ⟨cs'⟩) (h1 : cs'.all (·.oneCell') = true)
    (hc : ∀ j, j < cs'.length → (∃ u, w.cell? ⟨g, o + j, none⟩ = some u) ∧ w.frozen? ⟨g, o + j, none⟩ = false)
    (hk : wpList P ops Q rest (a.put op.dst undef) (w.setCells g o cs')) : wpList P ops Q (op :: rest) a w := by
  obtain ⟨d, hu, hd, hi⟩ := T
  refine wpList_store_mid hgd ty x y ho g o ⟨cs'⟩ hx hy (fun j hj => ?_) hi (by simpa using h1) hk
  obtain ⟨⟨u, hu⟩, hf⟩ := hc j (by simpa using hj)
  exact ⟨by rw [hu]; rfl, hf⟩
end Go.Proofs.Ytfnejelbacpheaa
