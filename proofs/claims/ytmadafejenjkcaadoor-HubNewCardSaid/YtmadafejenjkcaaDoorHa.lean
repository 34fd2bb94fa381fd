/- The document's reader: one definition. -/
import Derived.Test.YtmadafejenjkcaaDoorH9
namespace Go.Proofs.YtmadafejenjkcaaDoor
open Go.RowKit Go.Deep
set_option linter.unusedVariables false
set_option linter.unusedSimpArgs false

theorem aggTd : AggT Tryd.prog 34 2 := ⟨_, Tryd.underlying34, rfl, by kernel_rfl⟩
theorem nm_go {T : ByteArray} {L : List Pc} (hL : ∀ p ∈ L, PcOk T p) {k : Nat} {ts : List Td} : go T ⟨1, ts⟩ (L.drop k) = if nmR T L k ts ≠ 0 then (nmR T L k ts, plA T L k) else go T ⟨2, ts ++ [⟨wtP T L k, []⟩]⟩ (L.drop (k + 1)) := by
  rw [name_step hL]
  unfold nmR
  by_cases h : wdP T L k = false
  · rw [if_pos h, if_pos h, if_pos (by decide)]
  · rw [if_neg h, if_neg h]
theorem at_go {T : ByteArray} {L : List Pc} (hL : ∀ p ∈ L, PcOk T p) {k wnt : Nat} {l : List Td} {t : Td} (hw : wnt = 4 ∨ (wnt = 3 ∧ isP T L k ⟨#[41]⟩ = false)) : go T ⟨wnt, l ++ [t]⟩ (L.drop k) = if atR T L k t.attrs ≠ 0 then (atR T L k t.attrs, plA T L k) else go T ⟨5, l ++ [⟨t.name, t.attrs ++ [wtP T L k]⟩]⟩ (L.drop (k + 1)) := by
  rw [attr_step hL hw]
  unfold atR
  by_cases h : wdP T L k = false
  · rw [if_pos h, if_pos h, if_pos (by decide)]
  · rw [if_neg h, if_neg h]
theorem nmR_zero {T : ByteArray} {L : List Pc} {k : Nat} {ts : List Td} (h : nmR T L k ts = 0) : wdP T L k = true := by
  cases hw : wdP T L k with
  | true => rfl
  | false => unfold nmR at h; rw [if_pos hw] at h; exact absurd h (by decide)
theorem atR_zero {T : ByteArray} {L : List Pc} {k : Nat} {l : List ByteArray} (h : atR T L k l = 0) : wdP T L k = true ∧ l.length ≠ 8 := by
  cases hw : wdP T L k with
  | true =>
    refine ⟨rfl, fun e => ?_⟩
    unfold atR at h
    rw [if_neg (by rw [hw]; decide)] at h
    unfold attrC at h
    rw [e] at h
    split at h <;> simp at h
  | false => unfold atR at h; rw [if_pos hw] at h; exact absurd h (by decide)
theorem isP_lt {T : ByteArray} {L : List Pc} {k : Nat} {x : ByteArray} (h : isP T L k x = true) : k < L.length := by
  rcases Nat.lt_or_ge k L.length with h1 | h1
  · exact h1
  · unfold isP at h; rw [List.getElem?_eq_none h1] at h; cases h

/-- the box of the answer, the box of the type -/
structure DB (w W : World) (nm : ByteArray) (u : Value) (l : List ByteArray) : Prop where
  hb : Below w.heap.size w W
  b0 : Blk W w.heap.size 34 [.string ⟨#[]⟩, .slice none 0 0]
  b1 : Blk W (w.heap.size + 1) 34 [.string nm, u]
  ol : OL W (w.heap.size + 1 + 1) NoB 9 1 u l.length (l.flatMap strD)
theorem DB.start (w : World) : DB w ((w.alloc (.cells ⟨[.string ⟨#[]⟩, .slice none 0 0]⟩ 34)).alloc (.cells ⟨[.string ⟨#[]⟩, .slice none 0 0]⟩ 34)) ⟨#[]⟩ (.slice none 0 0) [] :=
  ⟨((Below.refl _ _).alloc (Nat.le_refl _) _).alloc (by simp) _, (Blk.new _ _ _).alloc _, Blk.new' (by simp), .nil _ _ _ _ _⟩
section
variable {w W W2 : World} {nm : ByteArray} {u : Value} {l : List ByteArray}
theorem DB.stay (h : DB w W nm u l) (hb : Below W.heap.size W W2) : DB w W2 nm u l := ⟨h.hb.trans (hb.mono h.hb.size), h.b0.stay hb, h.b1.stay hb, h.ol.stay hb⟩
theorem DB.name (h : DB w W nm u l) (x : ByteArray) : DB w (W.setCell ⟨w.heap.size + 1, 0, none⟩ (.string x)) x u l :=
  ⟨h.hb.setCell (by show w.heap.size ≤ w.heap.size + 1; omega) _, h.b0.far (by show w.heap.size ≠ w.heap.size + 1; omega) _, h.b1.set_ 0 _, h.ol.setCell (fun e => by have := (h.ol.lt _ e).1; simp at this; omega) (fun h => h) _⟩
theorem DB.put {v : Value} {l' : List ByteArray} (h : DB w W nm u l) (hg : W.grownBy W2 u.ownBlock) (hO : OL W2 (w.heap.size + 1 + 1) NoB 9 1 v l'.length (l'.flatMap strD)) : DB w (W2.setCell ⟨w.heap.size + 1, 1, none⟩ v) nm v l' := by
  have hr : ∀ q, u.ownBlock = some q → w.heap.size + 1 < q := fun q hq => (h.ol.lt q hq).1
  exact ⟨(h.hb.grown hg h.hb.size (fun q hq => by have := hr q hq; omega)).setCell (by show w.heap.size ≤ w.heap.size + 1; omega) _, (h.b0.grown hg (fun e => by have := hr _ e.symm; omega)).far (by show w.heap.size ≠ w.heap.size + 1; omega) _, (h.b1.grown hg (fun e => by have := hr _ e.symm; omega)).set_ 1 v,
    hO.setCell (fun e => by have := (hO.lt _ e).1; simp at this; omega) (fun h => h) _⟩
end
/-- the answer of a definition -/
def DfPost (T : ByteArray) (L : List Pc) (ts : List Td) (i : Nat) (w : World) (e : Ending) (w' : World) : Prop :=
  ∃ (t : Td) (u : Value) (k : Nat) (c : Int), e = .returned (.tuple #[.agg ⟨[.string t.name, u]⟩, .int .i64 k, .int .i64 c]) ∧ Below w.heap.size w w' ∧ OL w' w.heap.size NoB 9 1 u t.attrs.length (t.attrs.flatMap strD) ∧
    (c = 0 → i < k ∧ k ≤ L.length ∧ t.attrs.length ≤ 8 ∧ ts.length ≤ 15 ∧ go T ⟨0, ts⟩ (L.drop i) = go T ⟨0, ts ++ [t]⟩ (L.drop k)) ∧ (c ≠ 0 → go T ⟨0, ts⟩ (L.drop i) = (c, plA T L k))
theorem DB.bad {w W w1 : World} {nm : ByteArray} {u : Value} {l : List ByteArray} {T : ByteArray} {L : List Pc} {ts : List Td} {i k : Nat} {c x : Int} (h : DB w W nm u l) (hg : W.grownBy w1 (some w.heap.size)) (hc : c ≠ 0) (hx : x = k) (he : go T ⟨0, ts⟩ (L.drop i) = (c, plA T L k)) :
    DfPost T L ts i w (.returned (.tuple #[.agg ⟨[.string nm, u]⟩, .int .i64 x, .int .i64 c])) w1 := by
  subst hx
  refine ⟨⟨nm, l⟩, u, k, c, rfl, h.hb.grown hg h.hb.size (fun q hq => by injection hq with hq; omega), ?_, fun h0 => absurd h0 hc, fun _ => he⟩
  exact (h.ol.kept hg (.inr fun e => by have := (h.ol.lt _ e).1; omega) (fun _ hb => hb.elim)).base (by omega)
theorem DB.good {w W w1 : World} {nm : ByteArray} {u : Value} {l : List ByteArray} {T : ByteArray} {L : List Pc} {ts : List Td} {i k : Nat} {x : Int} (h : DB w W nm u l) (hg : W.grownBy w1 (some w.heap.size)) (hx : x = k) (h1 : i < k) (h2 : k ≤ L.length) (h3 : l.length ≤ 8) (h4 : ts.length ≤ 15) (he : go T ⟨0, ts⟩ (L.drop i) = go T ⟨0, ts ++ [⟨nm, l⟩]⟩ (L.drop k)) :
    DfPost T L ts i w (.returned (.tuple #[.agg ⟨[.string nm, u]⟩, .int .i64 x, .int .i64 0])) w1 := by
  subst hx
  refine ⟨⟨nm, l⟩, u, k, 0, rfl, h.hb.grown hg h.hb.size (fun q hq => by injection hq with hq; omega), ?_, fun _ => ⟨h1, h2, h3, h4, he⟩, fun h0 => absurd rfl h0⟩
  exact (h.ol.kept hg (.inr fun e => by have := (h.ol.lt _ e).1; omega) (fun _ hb => hb.elim)).base (by omega)
/-- the attributes so far -/
def DRel (T : ByteArray) (L : List Pc) (ts : List Td) (i : Nat) (w : World) (nm : ByteArray) (x : Value) (wr : World) : Prop :=
  ∃ (k wnt : Nat) (u : Value) (l : List ByteArray), x = .int .i64 k ∧ i < k ∧ k ≤ L.length ∧ l.length ≤ 8 ∧ DB w wr nm u l ∧ (wnt = 4 ∨ (wnt = 3 ∧ isP T L k ⟨#[41]⟩ = false)) ∧ go T ⟨0, ts⟩ (L.drop i) = go T ⟨wnt, ts ++ [⟨nm, l⟩]⟩ (L.drop k)
theorem DRel.mk {T : ByteArray} {L : List Pc} {ts : List Td} {i : Nat} {w wr : World} {nm : ByteArray} {x : Value} (k wnt : Nat) (u : Value) (l : List ByteArray) (hx : x = .int .i64 k) (h1 : i < k) (h2 : k ≤ L.length) (h3 : l.length ≤ 8) (h4 : DB w wr nm u l) (h5 : wnt = 4 ∨ (wnt = 3 ∧ isP T L k ⟨#[41]⟩ = false)) (h6 : go T ⟨0, ts⟩ (L.drop i) = go T ⟨wnt, ts ++ [⟨nm, l⟩]⟩ (L.drop k)) : DRel T L ts i w nm x wr := ⟨k, wnt, u, l, hx, h1, h2, h3, h4, h5, h6⟩
end Go.Proofs.YtmadafejenjkcaaDoor
