/- A schema of the call's own: the row of types, each type's own row of attributes. -/
import Derived.Test.YtmadafejenjkcaaDoorW4
import Derived.Test.YtmadafejenjkcaaDoorV6
namespace Go.Proofs.YtmadafejenjkcaaDoor
open Go.RowKit Go.Deep
set_option linter.unusedVariables false

def tcD (p : Td × Value) : List D := [.v (.string p.1.name), .v p.2]
structure OSc (w : World) (B : Nat) (v : Value) (l : List (Td × Value)) : Prop where
  kr : OL w B NoB 34 2 v l.length (l.flatMap tcD)
  fr : ∀ p ∈ l, OL w B NoB 9 1 p.2 p.1.attrs.length (p.1.attrs.flatMap strD)
  ne : ∀ (i j : Nat) (p q : Td × Value), l[i]? = some p → l[j]? = some q → i ≠ j → p.2.ownBlock = none ∨ p.2.ownBlock ≠ q.2.ownBlock
section
variable {w : World} {B : Nat} {v : Value} {l : List (Td × Value)}
theorem OSc.nil (w : World) (B : Nat) : OSc w B (.slice none 0 0) [] := ⟨.nil _ _ _ _ _, fun p hp => by simp at hp, fun i j p q hp => by simp at hp⟩
theorem OSc.stay {w2 : World} (h : OSc w B v l) (hb : Below w.heap.size w w2) : OSc w2 B v l := ⟨h.kr.stay hb, fun p hp => (h.fr p hp).stay hb, h.ne⟩
/-- a write to a block that is none of its own -/
theorem OSc.far {p : Addr} {x : Value} (h : OSc w B v l) (hp : p.block < B) : OSc (w.setCell p x) B v l :=
  ⟨h.kr.setCell (fun e => by have := (h.kr.lt _ e).1; omega) (fun h => h) _, fun q hq => (h.fr q hq).setCell (fun e => by have := ((h.fr q hq).lt _ e).1; omega) (fun h => h) _, h.ne⟩
theorem OSc.base {B' : Nat} (h : OSc w B v l) (hB : B' ≤ B) : OSc w B' v l := ⟨h.kr.base hB, fun p hp => (h.fr p hp).base hB, h.ne⟩
/-- one more type -/
theorem OSc.snoc {w1 : World} {v' u : Value} {t : Td} (h : OSc w B v l) (hg : w.grownBy w1 v.ownBlock) (hv : OL w1 B NoB 34 2 v' (l.length + 1) (l.flatMap tcD ++ tcD (t, u)))
    (hu : OL w B NoB 9 1 u t.attrs.length (t.attrs.flatMap strD)) (hne : ∀ p ∈ l, u.ownBlock = none ∨ u.ownBlock ≠ p.2.ownBlock) : OSc w1 B v' (l ++ [(t, u)]) := by
  refine ⟨by simpa using hv, fun p hp => ?_, ?_⟩
  · rcases List.mem_append.1 hp with hp | hp
    · exact (h.fr p hp).kept hg ((h.fr p hp).ne h.kr (by decide)) (fun _ hb => hb.elim)
    · simp at hp; subst hp
      exact hu.kept hg (hu.ne h.kr (by decide)) (fun _ hb => hb.elim)
  · intro a b x y hx hy hab
    have get : ∀ {a : Nat} {x}, (l ++ [(t, u)])[a]? = some x → (a < l.length ∧ l[a]? = some x) ∨ (a = l.length ∧ x = (t, u)) := fun {a x} hx => by
      by_cases ha : a < l.length
      · rw [List.getElem?_append_left ha] at hx; exact .inl ⟨ha, hx⟩
      · rw [List.getElem?_append_right (by omega)] at hx
        have := (List.getElem?_eq_some_iff.1 hx).1
        simp at this
        have e : a - l.length = 0 := by omega
        rw [e] at hx
        exact .inr ⟨by omega, by simpa using hx.symm⟩
    rcases get hx with ⟨h1, h2⟩ | ⟨h1, rfl⟩
    · rcases get hy with ⟨h3, h4⟩ | ⟨h3, rfl⟩
      · exact h.ne a b x y h2 h4 hab
      · exact ne_sym (hne x (List.mem_of_getElem? h2))
    · rcases get hy with ⟨h3, h4⟩ | ⟨h3, rfl⟩
      · exact hne y (List.mem_of_getElem? h4)
      · omega
theorem tc_get {l : List (Td × Value)} {k : Nat} {d : D} (h : ((l.map (·.1)).flatMap tdD)[k]? = some d) : ∃ d', (l.flatMap tcD)[k]? = some d' ∧ (d' = d ∨ ∃ p ∈ l, d' = .v p.2 ∧ d = .sl p.1.attrs.length (p.1.attrs.flatMap strD)) := by
  induction l generalizing k with
  | nil => simp at h
  | cons a l ih =>
    rw [List.map_cons, List.flatMap_cons] at h
    rw [List.flatMap_cons]
    by_cases hk : k < 2
    · rw [List.getElem?_append_left (by show k < 2; omega)] at h
      rw [List.getElem?_append_left (by show k < 2; omega)]
      match k, hk with
      | 0, _ => exact ⟨_, rfl, .inl (Option.some.inj h)⟩
      | 1, _ => exact ⟨_, rfl, .inr ⟨a, List.mem_cons_self, rfl, (Option.some.inj h).symm⟩⟩
    · rw [List.getElem?_append_right (by show 2 ≤ k; omega)] at h
      rw [List.getElem?_append_right (by show 2 ≤ k; omega)]
      obtain ⟨d', h1, h2⟩ := ih h
      refine ⟨d', h1, ?_⟩
      rcases h2 with h2 | ⟨p, hp, h3⟩
      · exact .inl h2
      · exact .inr ⟨p, List.mem_cons_of_mem _ hp, h3⟩
theorem td_len (l : List Td) : (l.flatMap tdD).length = l.length * 2 := flatMap_length (f := tdD) (m := 2) (fun _ => rfl) l
/-- it reads as its types -/
theorem OSc.ol {G : Nat → Prop} (h : OSc w B v l) (hG : ∀ b, B ≤ b → b < w.heap.size → G b) : OL w B G 34 2 v l.length ((l.map (·.1)).flatMap tdD) := by
  obtain ⟨cells, h1, h2, h3⟩ := h.kr
  refine ⟨cells, h1, by rw [td_len, List.length_map, h1.1], fun k d hd => ?_⟩
  obtain ⟨d', hd', hor⟩ := tc_get hd
  obtain ⟨u, hu, hr⟩ := h3 k d' hd'
  refine ⟨u, hu, ?_⟩
  rcases hor with rfl | ⟨p, hp, rfl, rfl⟩
  · exact hr.mono fun b hb _ => hb.1.elim
  · have hv := hr.v_inv
    subst hv
    refine (h.fr p hp).rd' (fun b hb _ => hb.elim) (fun b hb h1 h2 => ⟨hG b h1 h2, fun e => ?_⟩)
    rcases (h.fr p hp).ne h.kr (by decide) with e2 | e2
    · rw [hb] at e2; cases e2
    · exact e2 (by rw [hb, e])
theorem OSc.rd {G : Nat → Prop} (h : OSc w B v l) (hG : ∀ b, B ≤ b → b < w.heap.size → G b) : Rd w G v (.sl l.length ((l.map (·.1)).flatMap tdD)) :=
  (h.ol (G := G) hG).rd (fun b hb _ => hb) hG
end

/-- a schema that is being put together: the box of the result, the box of the schema -/
structure PS (w wr : World) (u : Value) (l : List (Td × Value)) : Prop where
  hb : Below w.heap.size w wr
  b0 : Blk wr w.heap.size 24 [.slice none 0 0]
  b1 : Blk wr (w.heap.size + 1) 24 [u]
  os : OSc wr (w.heap.size + 1 + 1) u l
theorem PS.stay {w wr w2 : World} {u : Value} {l : List (Td × Value)} (h : PS w wr u l) (hb : Below wr.heap.size wr w2) : PS w w2 u l :=
  ⟨h.hb.trans (hb.mono h.hb.size), h.b0.stay hb, h.b1.stay hb, h.os.stay hb⟩
theorem PS.put {w wr w1 : World} {u v : Value} {l l' : List (Td × Value)} (h : PS w wr u l) (hg : wr.grownBy w1 u.ownBlock) (hO : OSc w1 (w.heap.size + 1 + 1) v l') : PS w (w1.setCell ⟨w.heap.size + 1, 0, none⟩ v) v l' := by
  have hr : ∀ q, u.ownBlock = some q → w.heap.size + 1 < q := fun q hq => (h.os.kr.lt q hq).1
  exact ⟨(h.hb.grown hg h.hb.size (fun q hq => by have := hr q hq; omega)).setCell (by show _ ≤ w.heap.size + 1; omega) _, (h.b0.grown hg (fun e => by have := hr _ e.symm; omega)).far (by show w.heap.size ≠ w.heap.size + 1; omega) _, (h.b1.grown hg (fun e => by have := hr _ e.symm; omega)).set_ 0 v, hO.far (by show w.heap.size + 1 < _; omega)⟩
/-- the answer: a schema of new memory -/
def OSPost (T : List Td) (w : World) (e : Ending) (w' : World) : Prop := ∃ v l, e = .returned (.agg #[v]) ∧ OSc w' w.heap.size v l ∧ l.map (·.1) = T ∧ Below w.heap.size w w'
def SRel (w : World) (T : List Td) (x : Value) (wr : World) : Prop := ∃ (j : Nat) (u : Value) (lj : List (Td × Value)), j ≤ T.length ∧ x = .int .i64 j ∧ PS w wr u lj ∧ lj.map (·.1) = T.take j
theorem SRel.mk {w : World} {T : List Td} {x : Value} {wr : World} (j : Nat) (u : Value) (lj : List (Td × Value)) (h1 : j ≤ T.length) (h2 : x = .int .i64 j) (h3 : PS w wr u lj) (h4 : lj.map (·.1) = T.take j) : SRel w T x wr := ⟨j, u, lj, h1, h2, h3, h4⟩
end Go.Proofs.YtmadafejenjkcaaDoor
