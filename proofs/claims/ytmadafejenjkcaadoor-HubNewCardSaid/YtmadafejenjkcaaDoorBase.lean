/- Plain data in memory: what a value reads as, which blocks that reading goes through, and that it stays. No conditions. -/
import Derived.WalkKit
import Derived.WalkSpells
import Derived.WalkLawsBesides
import Derived.Lib.Hide
import Derived.Deep.Slices
import Derived.OpenShut
import Derived.Maps.AppendAt
namespace Go.Proofs.YtmadafejenjkcaaDoor
open Go.RowKit Go.Deep
set_option linter.unusedVariables false

/-- a datum: a value of one cell, or a slice of n elements that lie in these cells -/
inductive D where
  | v (x : Value)
  | sl (n : Nat) (ds : List D)

/-- the value reads as the datum; all blocks that are met are in F -/
inductive Rd (w : World) (F : Nat → Prop) : Value → D → Prop
  | v (x : Value) : x.oneCell' = true → Rd w F x (.v x)
  | sl (A : Option Addr) (n c b off : Nat) (ds : List D) (f : Nat → Value) : n ≤ c → c ≤ maxLen → (ds ≠ [] → A = some ⟨b, off, none⟩ ∧ F b) →
      (∀ k d, ds[k]? = some d → w.cell? ⟨b, off + k, none⟩ = some (f k)) → (∀ k d, ds[k]? = some d → Rd w F (f k) d) → Rd w F (.slice A n c) (.sl n ds)

theorem ne_nil_of_get {α : Type} {l : List α} {k : Nat} {x : α} (h : l[k]? = some x) : l ≠ [] := by
  intro e; subst e; simp at h

theorem Rd.keep {w w' : World} {F : Nat → Prop} {u : Value} {d : D} (h : Rd w F u d) (hk : ∀ b, F b → w'.heap[b]? = w.heap[b]?) : Rd w' F u d := by
  induction h with
  | v x h1 => exact .v x h1
  | sl A n c b off ds f hn hc hA hf hr ih =>
    refine .sl A n c b off ds f hn hc hA (fun k d hd => ?_) ih
    rw [World.cell?_of_block (w := w) (hk b (hA (ne_nil_of_get hd)).2)]
    exact hf k d hd

theorem Rd.mono {w : World} {F G : Nat → Prop} {u : Value} {d : D} (h : Rd w F u d) (hk : ∀ b, F b → b < w.heap.size → G b) : Rd w G u d := by
  induction h with
  | v x h1 => exact .v x h1
  | sl A n c b off ds f hn hc hA hf hr ih =>
    refine .sl A n c b off ds f hn hc (fun h => ?_) hf ih
    obtain ⟨e, hF⟩ := hA h
    obtain ⟨d, ds', rfl⟩ := List.exists_cons_of_ne_nil h
    have := World.block_lt_of_cell? w _ (hf 0 d rfl)
    exact ⟨e, hk b hF this⟩

theorem Rd.v_inv {w : World} {F : Nat → Prop} {u x : Value} (h : Rd w F u (.v x)) : u = x := by cases h; rfl
theorem Rd.one {w : World} {F : Nat → Prop} {u : Value} {d : D} (h : Rd w F u d) : u.oneCell' = true := by
  cases h with
  | v x h => exact h
  | sl => rfl

theorem Rd.sl_inv {w : World} {F : Nat → Prop} {u : Value} {n : Nat} {ds : List D} (h : Rd w F u (.sl n ds)) : ∃ A c, u = .slice A n c ∧ n ≤ c ∧ c ≤ maxLen := by
  cases h; exact ⟨_, _, rfl, ‹_›, ‹_›⟩

/-- the cells of a slice -/
theorem Rd.cells {w : World} {F : Nat → Prop} {A : Option Addr} {n c m : Nat} {ds : List D} (h : Rd w F (.slice A n c) (.sl m ds)) (hne : ds ≠ []) :
    ∃ b off, A = some ⟨b, off, none⟩ ∧ F b ∧ ∀ k d, ds[k]? = some d → ∃ u, w.cell? ⟨b, off + k, none⟩ = some u ∧ Rd w F u d := by
  cases h with
  | sl _ _ _ b off _ f hn hc hA hf hr =>
    obtain ⟨e, hF⟩ := hA hne
    exact ⟨b, off, e, hF, fun k d hd => ⟨f k, hf k d hd, hr k d hd⟩⟩

theorem Rd.under {w w' : World} {F : Nat → Prop} {u : Value} {d : D} {B : Nat} (h : Rd w F u d) (hb : Below B w w') (hF : ∀ b, F b → b < B) : Rd w' F u d :=
  h.keep fun b hb' => hb.block b (hF b hb')

/-- what lies below the heap's size is kept by whatever only makes new blocks -/
theorem Rd.stay {w w' : World} {F : Nat → Prop} {u : Value} {d : D} (h : Rd w F u d) (hb : Below w.heap.size w w') : Rd w' F u d :=
  ((h.mono (G := fun b => F b ∧ b < w.heap.size) fun b a c => ⟨a, c⟩).keep fun b hb' => hb.block b hb'.2).mono fun b a _ => a.1

theorem Rd.drewN {w : World} {F : Nat → Prop} {u : Value} {d : D} (h : Rd w F u d) (k : Nat) : Rd (w.drewN k) F u d := h.keep fun _ _ => by simp
theorem Rd.drew {w : World} {F : Nat → Prop} {u : Value} {d : D} (h : Rd w F u d) : Rd w.drew F u d := h.keep fun _ _ => rfl
theorem Rd.alloc {w : World} {F : Nat → Prop} {u : Value} {d : D} (h : Rd w F u d) (o : Obj) : Rd (w.alloc o) F u d :=
  h.stay ((Below.refl _ _).alloc (Nat.le_refl _) o)
theorem Rd.setCell {w : World} {F : Nat → Prop} {u : Value} {d : D} (h : Rd w F u d) {p : Addr} (hp : ¬ F p.block) (x : Value) : Rd (w.setCell p x) F u d :=
  h.keep fun b hb => Below.heap_setCell _ _ _ _ (fun e => hp (e ▸ hb))
theorem Rd.grown {w w' : World} {F : Nat → Prop} {u : Value} {d : D} {row : Option Nat} (h : Rd w F u d) (hg : w.grownBy w' row) (hp : ∀ b, F b → some b ≠ row) : Rd w' F u d :=
  ((h.mono (G := fun b => F b ∧ b < w.heap.size) fun b a c => ⟨a, c⟩).keep fun b hb' => hg.block b hb'.2 (hp b hb'.1)).mono fun b a _ => a.1

/-- the first k elements -/
theorem Rd.take {w : World} {F : Nat → Prop} {A : Option Addr} {n c : Nat} {ds : List D} (h : Rd w F (.slice A n c) (.sl n ds)) {k : Nat} (j : Nat) (hk : k ≤ n) : Rd w F (.slice A k c) (.sl k (ds.take j)) := by
  cases h with
  | sl _ _ _ b off _ f hn hc hA hf hr =>
    refine .sl A k c b off _ f (by omega) hc (fun hne => hA (fun e => hne (by simp [e]))) (fun i d hd => ?_) (fun i d hd => ?_)
    all_goals
      rw [List.getElem?_take] at hd
      split at hd
      · first | exact hf i d hd | exact hr i d hd
      · cases hd

/-! ### rows of structs -/
theorem flatMap_length {α β : Type} {f : α → List β} {m : Nat} (hf : ∀ x, (f x).length = m) (l : List α) : (l.flatMap f).length = l.length * m := by
  induction l with
  | nil => simp
  | cons a l ih => simp [hf, ih, Nat.succ_mul, Nat.add_comm]

theorem flatMap_get {α β : Type} {f : α → List β} {m : Nat} (hf : ∀ x, (f x).length = m) {l : List α} {i : Nat} {x : α} (hx : l[i]? = some x) {j : Nat} {y : β} (hy : (f x)[j]? = some y) : (l.flatMap f)[i * m + j]? = some y := by
  induction l generalizing i with
  | nil => simp at hx
  | cons a l ih =>
    cases i with
    | zero =>
      simp at hx
      subst hx
      have : j < (f a).length := (List.getElem?_eq_some_iff.1 hy).1
      simp [List.getElem?_append_left this, hy]
    | succ i =>
      simp at hx
      rw [List.flatMap_cons, List.getElem?_append_right (by rw [hf, Nat.succ_mul]; omega)]
      rw [hf, show (i + 1) * m + j - m = i * m + j by rw [Nat.succ_mul]; omega]
      exact ih hx

/-- the cells of the i-th struct of a slice -/
theorem Rd.row {w : World} {F : Nat → Prop} {A : Option Addr} {n c m : Nat} {α : Type} {f : α → List D} (hf : ∀ x, (f x).length = m) {l : List α} {x : α} {i : Nat}
    (h : Rd w F (.slice A n c) (.sl n (l.flatMap f))) (hx : l[i]? = some x) (hm : 0 < m) :
    ∃ b off, A = some ⟨b, off, none⟩ ∧ F b ∧ ∀ j d, (f x)[j]? = some d → ∃ u, w.cell? ⟨b, off + i * m + j, none⟩ = some u ∧ Rd w F u d := by
  have hne : l.flatMap f ≠ [] := by
    intro e
    have h1 := flatMap_length hf l
    rw [e] at h1
    have h2 := (List.getElem?_eq_some_iff.1 hx).1
    have : 0 < l.length * m := Nat.mul_pos (by omega) hm
    simp at h1; omega
  obtain ⟨b, off, e, hF, hc⟩ := h.cells hne
  refine ⟨b, off, e, hF, fun j d hd => ?_⟩
  rw [Nat.add_assoc]
  exact hc _ d (flatMap_get hf hx hd)

/-- the plain cells of the i-th struct of a slice -/
theorem Rd.rowv {w : World} {F : Nat → Prop} {A : Option Addr} {n c m : Nat} {α : Type} {f : α → List D} (hf : ∀ x, (f x).length = m) {l : List α} {x : α} {i : Nat}
    (h : Rd w F (.slice A n c) (.sl n (l.flatMap f))) (hx : l[i]? = some x) (hm : 0 < m) :
    ∃ b off, A = some ⟨b, off, none⟩ ∧ F b ∧ (∀ j y, (f x)[j]? = some (.v y) → w.cell? ⟨b, off + i * m + j, none⟩ = some y) ∧
      ∀ j k ds, (f x)[j]? = some (.sl k ds) → ∃ A c, w.cell? ⟨b, off + i * m + j, none⟩ = some (.slice A k c) ∧ Rd w F (.slice A k c) (.sl k ds) := by
  obtain ⟨b, off, e, hF, hc⟩ := h.row hf hx hm
  refine ⟨b, off, e, hF, fun j y hy => ?_, fun j k ds hy => ?_⟩
  · obtain ⟨u, h1, h2⟩ := hc j _ hy
    rw [h1, h2.v_inv]
  · obtain ⟨u, h1, h2⟩ := hc j _ hy
    obtain ⟨A', c', rfl, _, _⟩ := h2.sl_inv
    exact ⟨A', c', h1, h2⟩

/-- one cell an element -/
theorem Rd.at1 {w : World} {F : Nat → Prop} {A : Option Addr} {n c : Nat} {ds : List D} {i : Nat} {y : Value} (h : Rd w F (.slice A n c) (.sl n ds)) (hx : ds[i]? = some (.v y)) :
    ∃ b off, A = some ⟨b, off, none⟩ ∧ F b ∧ w.cell? ⟨b, off + i, none⟩ = some y := by
  obtain ⟨b, off, e, hF, hc⟩ := h.cells (ne_nil_of_get hx)
  obtain ⟨u, h1, h2⟩ := hc i _ hx
  exact ⟨b, off, e, hF, by rw [h1, h2.v_inv]⟩

def intD (k : IntKind) (n : Int) : List D := [.v (.int k n)]
def boolD (b : Bool) : List D := [.v (.bool b)]
def strD (s : ByteArray) : List D := [.v (.string s)]

theorem getx {α : Type} {l : List α} {i : Nat} (h : i < l.length) : ∃ x, l[i]? = some x := ⟨l[i], List.getElem?_eq_getElem h⟩

/-- the i-th of a slice of plain cells -/
theorem Rd.at_ {w : World} {F : Nat → Prop} {A : Option Addr} {n c : Nat} {α : Type} {f : α → Value} {l : List α} {x : α} {i : Nat}
    (h : Rd w F (.slice A n c) (.sl n (l.flatMap fun x => [D.v (f x)]))) (hx : l[i]? = some x) : ∃ b off, A = some ⟨b, off, none⟩ ∧ F b ∧ w.cell? ⟨b, off + i, none⟩ = some (f x) := by
  obtain ⟨b, off, e, hF, hc, _⟩ := h.rowv (m := 1) (fun _ => rfl) hx (by omega)
  have := hc 0 (f x) rfl
  rw [Nat.mul_one, Nat.add_zero] at this
  exact ⟨b, off, e, hF, this⟩

theorem len1 {α : Type} {f : α → D} (l : List α) : (l.flatMap fun x => [f x]).length = l.length := by
  rw [flatMap_length (m := 1) (fun _ => rfl), Nat.mul_one]
theorem get1 {α : Type} {f : α → D} {l : List α} {k : Nat} {d : D} (h : (l.flatMap fun x => [f x])[k]? = some d) : ∃ x, l[k]? = some x ∧ d = f x := by
  have hk : k < l.length := by have := (List.getElem?_eq_some_iff.1 h).1; rwa [len1] at this
  refine ⟨l[k], List.getElem?_eq_getElem hk, ?_⟩
  have := flatMap_get (f := fun x => [f x]) (m := 1) (fun _ => rfl) (List.getElem?_eq_getElem hk) (j := 0) rfl
  rw [Nat.mul_one, Nat.add_zero, h] at this
  injection this

theorem set1 {α : Type} {f : α → D} {l : List α} {k : Nat} {y : α} : (l.flatMap fun x => [f x]).set k (f y) = (l.set k y).flatMap fun x => [f x] := by
  induction l generalizing k with
  | nil => rfl
  | cons a l ih =>
    cases k with
    | zero => rfl
    | succ k => simp only [List.flatMap_cons, List.singleton_append, List.set_cons_succ]; rw [ih]

theorem ret_int {k : IntKind} {a b : Int} (h : a = b) : Ending.returned (.int k a) = .returned (.int k b) := by rw [h]
theorem ret_bool {a b : Bool} (h : a = b) : Ending.returned (.bool a) = .returned (.bool b) := by rw [h]
end Go.Proofs.YtmadafejenjkcaaDoor
