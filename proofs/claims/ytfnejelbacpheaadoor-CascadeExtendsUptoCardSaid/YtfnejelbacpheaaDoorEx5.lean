/- cascade.Extend answers the plain extension. -/
import Derived.Test.YtfnejelbacpheaaDoorEx4
namespace Go.Proofs.YtfnejelbacpheaaDoor
open Go.RowKit Go.Deep Go.Maps
set_option linter.unusedVariables false

/-- the schema behind the first k rules -/
noncomputable def SK (S : List Td) (rs : List Ru) (k : Nat) : List Td := (rs.take k).foldl addR S
theorem SK_succ {S : List Td} {rs : List Ru} {k : Nat} {r : Ru} (h : rs[k]? = some r) : SK S rs (k + 1) = addR (SK S rs k) r := by
  unfold SK; rw [List.take_add_one, h, List.foldl_append]; rfl
theorem addR_len (S : List Td) (r : Ru) : (addR S r).length ≤ S.length + 1 := by
  by_cases e : r.into = ByteArray.empty
  · rw [addR_e e]; omega
  · rw [addR_n e]; simp
theorem SK_sz {S : List Td} {rs : List Ru} (hS : SzT S) (hl : S.length ≤ 900000) (hr : SzR rs) : ∀ k, k ≤ rs.length → k ≤ 1000 → SzT (SK S rs k) ∧ (SK S rs k).length ≤ S.length + k := by
  intro k
  induction k with
  | zero => intro _ _; exact ⟨hS, Nat.le_refl _⟩
  | succ k ih =>
    intro h1 h2
    obtain ⟨a, b⟩ := ih (by omega) (by omega)
    obtain ⟨r, hr'⟩ := getx (l := rs) (i := k) (by omega)
    rw [SK_succ hr']
    have := addR_len (SK S rs k) r
    exact ⟨a.addR (by omega) (hr.2 r (List.mem_of_getElem? hr')), by omega⟩
def OkAt (S : List Td) (rs : List Ru) (p : Nat) : Prop := ∀ r, rs[p]? = some r → OkR (SK S rs p) r

/-- what Extend answers -/
def ExtIs (S : List Td) (rs : List Ru) (T : List Td) (code at_ : Int) : Prop :=
  (scC S ≠ 0 ∧ T = [] ∧ code = scC S ∧ at_ = 0) ∨
  (scC S = 0 ∧ (rs.length < 1 ∨ 8 < rs.length) ∧ T = [] ∧ code = 240 ∧ at_ = 0) ∨
  (scC S = 0 ∧ 1 ≤ rs.length ∧ rs.length ≤ 8 ∧ ∃ k : Nat, k < rs.length ∧ (∀ p, p < k → OkAt S rs p) ∧ ¬ OkAt S rs k ∧ T = [] ∧ code = 241 ∧ at_ = k) ∨
  (scC S = 0 ∧ 1 ≤ rs.length ∧ rs.length ≤ 8 ∧ (∀ p, p < rs.length → OkAt S rs p) ∧ T = SK S rs rs.length ∧ code = 0 ∧ at_ = 0)

theorem ExtIs.uniq {S : List Td} {rs : List Ru} {T T' : List Td} {c c' a a' : Int} (h : ExtIs S rs T c a) (h' : ExtIs S rs T' c' a') : T' = T ∧ c' = c ∧ a' = a := by
  rcases h with ⟨h1, rfl, rfl, rfl⟩ | ⟨h1, h2, rfl, rfl, rfl⟩ | ⟨h1, h2, h3, k, hk, h4, h5, rfl, rfl, rfl⟩ | ⟨h1, h2, h3, h4, rfl, rfl, rfl⟩ <;>
  rcases h' with ⟨g1, rfl, rfl, rfl⟩ | ⟨g1, g2, rfl, rfl, rfl⟩ | ⟨g1, g2, g3, k', hk', g4, g5, rfl, rfl, rfl⟩ | ⟨g1, g2, g3, g4, rfl, rfl, rfl⟩
  all_goals first
    | exact ⟨rfl, rfl, rfl⟩
    | exact absurd h1 g1
    | exact absurd g1 h1
    | omega
    | skip
  · obtain rfl : k = k' := by
      rcases Nat.lt_trichotomy k k' with h | h | h
      · exact absurd (g4 k h) h5
      · exact h
      · exact absurd (h4 k' h) g5
    exact ⟨rfl, rfl, rfl⟩
  · exact absurd (g4 k hk) h5
  · exact absurd (h4 k' hk') g5

def ExtPost (S : List Td) (rs : List Ru) (w : World) (e : Ending) (w' : World) : Prop :=
  ∃ (v : Value) (T : List Td) (code at_ : Int), e = .returned (.tuple #[.agg #[v], .int .i64 code, .int .i64 at_]) ∧ ExtIs S rs T code at_ ∧ Rd w' (fun b => w.heap.size ≤ b ∧ b < w'.heap.size) v (.sl T.length (T.flatMap tdD)) ∧ Below w.heap.size w w'
theorem ExtPost.bad {S : List Td} {rs : List Ru} {w w' : World} {code at_ : Int} (h : ExtIs S rs [] code at_) (hb : Below w.heap.size w w') : ExtPost S rs w (.returned (.tuple #[.agg #[.slice none 0 0], .int .i64 code, .int .i64 at_])) w' :=
  ⟨_, [], _, _, rfl, h, .nil _ _, hb⟩
end Go.Proofs.YtfnejelbacpheaaDoor
