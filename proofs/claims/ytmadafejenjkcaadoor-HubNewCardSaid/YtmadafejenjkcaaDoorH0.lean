/- A schema of the call's own rows; the reader's block that holds one. No conditions. -/
import Derived.Test.YtmadafejenjkcaaDoorTw0
namespace Go.Proofs.YtmadafejenjkcaaDoor
open Go.RowKit Go.Deep
set_option linter.unusedVariables false

abbrev NoB : Nat → Prop := fun _ => False
theorem OL.neBlk {w : World} {B e size n g t : Nat} {F : Nat → Prop} {v : Value} {ds : List D} {cs : List Value} (h : OL w B F e size v n ds) (hb : Blk w g t cs) (hne : e ≠ t) : v.ownBlock ≠ some g := by
  obtain ⟨cells, h1, _⟩ := h
  rcases h1.2 with ⟨rfl, _⟩ | ⟨g', cap, cur, rfl, _, hg, _⟩
  · simp [Value.ownBlock]
  · intro he
    simp [Value.ownBlock] at he
    subst he
    unfold Blk at hb
    rw [hg] at hb
    injection hb with hb
    injection hb with _ ht
    exact hne ht
theorem none_row (v : Value) : v.ownBlock = none ∨ v.ownBlock ≠ none := by cases v.ownBlock <;> simp
theorem OL.offRow {w : World} {B e size n B' e' size' n' gk o c m : Nat} {F F' : Nat → Prop} {v : Value} {ds ds' : List D} (h : OL w B F e size v n ds) (hk : OL w B' F' e' size' (.slice (some ⟨gk, o, none⟩) m c) n' ds') (hne : e ≠ e') : v.ownBlock ≠ some gk := by
  rcases h.ne hk hne with e | e
  · rw [e]; simp
  · exact e
theorem grown_set {w : World} {p : Addr} {x : Value} : w.grownBy (w.setCell p x) (some p.block) :=
  ⟨rfl, rfl, rfl, by simp [World.setCell], fun k hk hne => Below.heap_setCell _ _ _ _ (fun e => hne (by rw [e]))⟩
theorem ne_sym {v u : Value} (h : v.ownBlock = none ∨ v.ownBlock ≠ u.ownBlock) : u.ownBlock = none ∨ u.ownBlock ≠ v.ownBlock := by
  rcases h with h | h
  · rw [h]
    cases hu : u.ownBlock with
    | none => exact .inl rfl
    | some q => exact .inr (by simp)
  · exact .inr (fun e => h e.symm)
theorem mem_set_ {α : Type} {l : List α} {i : Nat} {x q : α} (h : q ∈ l.set i x) : q ∈ l ∨ q = x := by
  rcases List.mem_or_eq_of_mem_set h with h | h
  · exact .inl h
  · exact .inr h

def tcD (p : Td × Value) : List D := [.v (.string p.1.name), .v p.2]
structure OSc (w : World) (B : Nat) (v : Value) (l : List (Td × Value)) : Prop where
  kr : OL w B NoB 34 2 v l.length (l.flatMap tcD)
  fr : ∀ p ∈ l, OL w B NoB 9 1 p.2 p.1.attrs.length (p.1.attrs.flatMap strD)
  ne : ∀ (i j : Nat) (p q : Td × Value), l[i]? = some p → l[j]? = some q → i ≠ j → p.2.ownBlock = none ∨ p.2.ownBlock ≠ q.2.ownBlock
section
variable {w : World} {B : Nat} {v : Value} {l : List (Td × Value)}
theorem OSc.nil (w : World) (B : Nat) : OSc w B (.slice none 0 0) [] := ⟨.nil _ _ _ _ _, fun p hp => by simp at hp, fun i j p q hp => by simp at hp⟩
theorem OSc.stay {w2 : World} (h : OSc w B v l) (hb : Below w.heap.size w w2) : OSc w2 B v l := ⟨h.kr.stay hb, fun p hp => (h.fr p hp).stay hb, h.ne⟩
/-- a write to a block that is none of its own -/
theorem OSc.far {p : Addr} {x : Value} (h : OSc w B v l) (hp : p.block < B) : OSc (w.setCell p x) B v l :=
  ⟨h.kr.setCell (fun e => by have := (h.kr.lt _ e).1; omega) (fun h => h) _, fun q hq => (h.fr q hq).setCell (fun e => by have := ((h.fr q hq).lt _ e).1; omega) (fun h => h) _, h.ne⟩
theorem OSc.base {B' : Nat} (h : OSc w B v l) (hB : B' ≤ B) : OSc w B' v l := ⟨h.kr.base hB, fun p hp => (h.fr p hp).base hB, h.ne⟩
/-- blocks below its own are another's -/
theorem OSc.grown {w1 : World} {row : Nat} (h : OSc w B v l) (hg : w.grownBy w1 (some row)) (hr : row < B) : OSc w1 B v l :=
  ⟨h.kr.kept hg (.inr fun e => by have := (h.kr.lt _ e).1; omega) (fun _ hb => hb.elim), fun q hq => (h.fr q hq).kept hg (.inr fun e => by have := ((h.fr q hq).lt _ e).1; omega) (fun _ hb => hb.elim), h.ne⟩
theorem snoc_get {α : Type} {l : List α} {t : α} {a : Nat} {x : α} (hx : (l ++ [t])[a]? = some x) : (a < l.length ∧ l[a]? = some x) ∨ (a = l.length ∧ x = t) := by
  by_cases ha : a < l.length
  · rw [List.getElem?_append_left ha] at hx; exact .inl ⟨ha, hx⟩
  · rw [List.getElem?_append_right (by omega)] at hx
    have := (List.getElem?_eq_some_iff.1 hx).1
    simp at this
    have e : a - l.length = 0 := by omega
    rw [e] at hx
    exact .inr ⟨by omega, by simpa using hx.symm⟩
/-- one more type -/
theorem OSc.snoc {w1 : World} {v' u : Value} {t : Td} (h : OSc w B v l) (hg : w.grownBy w1 v.ownBlock) (hv : OL w1 B NoB 34 2 v' (l.length + 1) (l.flatMap tcD ++ tcD (t, u)))
    (hu : OL w B NoB 9 1 u t.attrs.length (t.attrs.flatMap strD)) (hne : ∀ p ∈ l, u.ownBlock = none ∨ u.ownBlock ≠ p.2.ownBlock) : OSc w1 B v' (l ++ [(t, u)]) := by
  refine ⟨by simpa using hv, fun p hp => ?_, ?_⟩
  · rcases List.mem_append.1 hp with hp | hp
    · exact (h.fr p hp).kept hg ((h.fr p hp).ne h.kr (by decide)) (fun _ hb => hb.elim)
    · simp at hp; subst hp
      exact hu.kept hg (hu.ne h.kr (by decide)) (fun _ hb => hb.elim)
  · intro a b x y hx hy hab
    rcases snoc_get hx with ⟨h1, h2⟩ | ⟨h1, rfl⟩
    · rcases snoc_get hy with ⟨h3, h4⟩ | ⟨h3, rfl⟩
      · exact h.ne a b x y h2 h4 hab
      · exact ne_sym (hne x (List.mem_of_getElem? h2))
    · rcases snoc_get hy with ⟨h3, h4⟩ | ⟨h3, rfl⟩
      · exact hne y (List.mem_of_getElem? h4)
      · omega
theorem tc_get {l : List (Td × Value)} {k : Nat} {d : D} (h : ((l.map (·.1)).flatMap tdD)[k]? = some d) : ∃ d', (l.flatMap tcD)[k]? = some d' ∧ (d' = d ∨ ∃ p ∈ l, d' = .v p.2 ∧ d = .sl p.1.attrs.length (p.1.attrs.flatMap strD)) := by
  induction l generalizing k with
  | nil => simp at h
  | cons a l ih =>
    rw [List.map_cons, List.flatMap_cons] at h
    rw [List.flatMap_cons]
    by_cases hk : k < 2
    · rw [List.getElem?_append_left (by show k < 2; omega)] at h
      rw [List.getElem?_append_left (by show k < 2; omega)]
      match k, hk with
      | 0, _ => exact ⟨_, rfl, .inl (Option.some.inj h)⟩
      | 1, _ => exact ⟨_, rfl, .inr ⟨a, List.mem_cons_self, rfl, (Option.some.inj h).symm⟩⟩
    · rw [List.getElem?_append_right (by show 2 ≤ k; omega)] at h
      rw [List.getElem?_append_right (by show 2 ≤ k; omega)]
      obtain ⟨d', h1, h2⟩ := ih h
      refine ⟨d', h1, ?_⟩
      rcases h2 with h2 | ⟨p, hp, h3⟩
      · exact .inl h2
      · exact .inr ⟨p, List.mem_cons_of_mem _ hp, h3⟩
theorem td_len (l : List Td) : (l.flatMap tdD).length = l.length * 2 := flatMap_length (f := tdD) (m := 2) (fun _ => rfl) l
theorem tc_len (l : List (Td × Value)) : (l.flatMap tcD).length = l.length * 2 := flatMap_length (f := tcD) (m := 2) (fun _ => rfl) l
/-- it reads as its types -/
theorem OSc.ol {G : Nat → Prop} (h : OSc w B v l) (hG : ∀ b, B ≤ b → b < w.heap.size → G b) : OL w B G 34 2 v l.length ((l.map (·.1)).flatMap tdD) := by
  obtain ⟨cells, h1, h2, h3⟩ := h.kr
  refine ⟨cells, h1, by rw [td_len, List.length_map, h1.1], fun k d hd => ?_⟩
  obtain ⟨d', hd', hor⟩ := tc_get hd
  obtain ⟨u, hu, hr⟩ := h3 k d' hd'
  refine ⟨u, hu, ?_⟩
  rcases hor with rfl | ⟨p, hp, rfl, rfl⟩
  · exact hr.mono fun b hb _ => hb.1.elim
  · have hv := hr.v_inv
    subst hv
    refine (h.fr p hp).rd' (fun b hb _ => hb.elim) (fun b hb h1 h2 => ⟨hG b h1 h2, fun e => ?_⟩)
    rcases (h.fr p hp).ne h.kr (by decide) with e2 | e2
    · rw [hb] at e2; cases e2
    · exact e2 (by rw [hb, e])
theorem OSc.rd {G : Nat → Prop} (h : OSc w B v l) (hG : ∀ b, B ≤ b → b < w.heap.size → G b) : Rd w G v (.sl l.length ((l.map (·.1)).flatMap tdD)) :=
  (h.ol (G := G) hG).rd (fun b hb _ => hb) hG
/-- a type's cells -/
theorem OSc.at_ (h : OSc w B v l) {i : Nat} {p : Td × Value} (hp : l[i]? = some p) : ∃ gk cap, v = .slice (some ⟨gk, 0, none⟩) l.length cap ∧ B ≤ gk ∧ gk < w.heap.size ∧ (∀ j, w.frozen? ⟨gk, j, none⟩ = false) ∧
    w.cell? ⟨gk, i * 2, none⟩ = some (.string p.1.name) ∧ w.cell? ⟨gk, i * 2 + 1, none⟩ = some p.2 := by
  have hi := (List.getElem?_eq_some_iff.1 hp).1
  obtain ⟨gk, cap, e, h1, h2, h3, h4⟩ := h.kr.row (by omega)
  refine ⟨gk, cap, e, h1, h2, h3, ?_, ?_⟩
  · obtain ⟨u, hu, hr⟩ := h4 (i * 2 + 0) _ (flatMap_get (f := tcD) (m := 2) (fun _ => rfl) hp rfl)
    rw [hr.v_inv] at hu; exact hu
  · obtain ⟨u, hu, hr⟩ := h4 (i * 2 + 1) _ (flatMap_get (f := tcD) (m := 2) (fun _ => rfl) hp rfl)
    rw [hr.v_inv] at hu; exact hu
theorem tc_set {c : Nat} {p p' : Td × Value} {x : Value} (hc : c < 2) (h : tcD p' = (tcD p).set c (.v x)) : ∀ {l : List (Td × Value)} {i : Nat}, l[i]? = some p → (l.flatMap tcD).set (i * 2 + c) (.v x) = (l.set i p').flatMap tcD := by
  intro l
  induction l with
  | nil => intro i hp; simp at hp
  | cons a l ih =>
    intro i hp
    cases i with
    | zero =>
      simp only [List.getElem?_cons_zero, Option.some.injEq] at hp
      subst hp
      rw [List.set_cons_zero, List.flatMap_cons, List.flatMap_cons, h, List.set_append, show (tcD a).length = 2 from rfl, if_pos (by omega), Nat.zero_mul, Nat.zero_add]
    | succ k =>
      simp only [List.getElem?_cons_succ] at hp
      rw [List.set_cons_succ, List.flatMap_cons, List.flatMap_cons, ← ih hp, List.set_append, show (tcD a).length = 2 from rfl, if_neg (by omega), show (k + 1) * 2 + c - 2 = k * 2 + c by omega]
/-- a type's attributes are a new row, its cell is set -/
theorem OSc.putA {w1 : World} {gk cap i : Nat} {p : Td × Value} {as' : List ByteArray} {u' : Value} (h : OSc w B (.slice (some ⟨gk, 0, none⟩) l.length cap) l) (hp : l[i]? = some p) (hg : w.grownBy w1 p.2.ownBlock)
    (hv : OL w1 B NoB 9 1 u' as'.length (as'.flatMap strD)) (hvn : u'.ownBlock = p.2.ownBlock ∨ u'.ownBlock = some w.heap.size) :
    OSc (w1.setCell ⟨gk, i * 2 + 1, none⟩ u') B (.slice (some ⟨gk, 0, none⟩) l.length cap) (l.set i (⟨p.1.name, as'⟩, u')) := by
  have hpm := List.mem_of_getElem? hp
  have hfp := h.fr p hpm
  have hkr1 : OL w1 B NoB 34 2 _ l.length (l.flatMap tcD) := h.kr.kept hg (h.kr.ne hfp (by decide)) (fun _ hb => hb.elim)
  have hq1 : ∀ q ∈ l, ∀ j, l[j]? = some q → j ≠ i → OL w1 B NoB 9 1 q.2 q.1.attrs.length (q.1.attrs.flatMap strD) := fun q hq j hj hji => (h.fr q hq).kept hg (h.ne j i q p hj hp hji) (fun _ hb => hb.elim)
  have key : ∀ (b : Nat) (y : Td × Value), l[b]? = some y → i ≠ b → u'.ownBlock = none ∨ u'.ownBlock ≠ y.2.ownBlock := fun b y hy hib => by
    rcases hvn with e | e
    · rw [e]; exact h.ne i b p y hp hy hib
    · refine .inr fun he => ?_
      have := ((h.fr y (List.mem_of_getElem? hy)).lt _ (he.symm.trans e)).2
      omega
  refine ⟨?_, ?_, ?_⟩
  · have hu := hkr1.set (j := i * 2 + 1) (u := u') (d := .v u') (by
      obtain ⟨A, c, rfl⟩ := hv.form
      exact .v _ rfl)
    rw [tc_set (p := p) (p' := (⟨p.1.name, as'⟩, u')) (by omega) rfl hp] at hu
    simpa using hu
  · intro q hq
    obtain ⟨j, hj⟩ := List.getElem?_of_mem hq
    rw [List.getElem?_set] at hj
    by_cases hij : i = j
    · rw [if_pos hij] at hj
      split at hj
      · injection hj with hj
        subst hj
        exact hv.setCell (p := ⟨gk, i * 2 + 1, none⟩) (hv.offRow hkr1 (by decide)) (fun h => h) _
      · cases hj
    · rw [if_neg hij] at hj
      have hqj := hq1 q (List.mem_of_getElem? hj) j hj (fun e => hij e.symm)
      exact hqj.setCell (p := ⟨gk, i * 2 + 1, none⟩) (hqj.offRow hkr1 (by decide)) (fun h => h) _
  · intro a b x y hx hy hab
    rw [List.getElem?_set] at hx hy
    by_cases ha : i = a
    · rw [if_pos ha] at hx
      split at hx
      · injection hx with hx; subst hx
        rw [if_neg (by omega)] at hy
        exact key b y hy (by omega)
      · cases hx
    · rw [if_neg ha] at hx
      by_cases hb : i = b
      · rw [if_pos hb] at hy
        split at hy
        · injection hy with hy; subst hy
          exact ne_sym (key a x hx ha)
        · cases hy
      · rw [if_neg hb] at hy
        exact h.ne a b x y hx hy hab
end

/-! ### the reader -/
/-- nothing below B is changed but the block g -/
structure Bel (B g : Nat) (w w' : World) : Prop where
  os : w'.os = w.os
  tape : w'.tape = w.tape
  output : w'.output = w.output
  size : w.heap.size ≤ w'.heap.size
  block : ∀ k, k < B → k ≠ g → w'.heap[k]? = w.heap[k]?
section
variable {B g : Nat} {w w1 w2 : World}
theorem Bel.refl (B g : Nat) (w : World) : Bel B g w w := ⟨rfl, rfl, rfl, Nat.le_refl _, fun _ _ _ => rfl⟩
theorem Bel.trans (h : Bel B g w w1) (k : Bel B g w1 w2) : Bel B g w w2 :=
  ⟨k.os.trans h.os, k.tape.trans h.tape, k.output.trans h.output, Nat.le_trans h.size k.size, fun i hi hn => (k.block i hi hn).trans (h.block i hi hn)⟩
theorem Bel.of (h : Below B w w1) : Bel B g w w1 := ⟨h.os, h.tape, h.output, h.size, fun k hk _ => h.block k hk⟩
theorem Bel.of' (h : Below w.heap.size w w1) (hB : B ≤ w.heap.size) : Bel B g w w1 := .of (h.mono hB)
theorem Bel.to {B0 : Nat} (h : Bel B g w w1) (hB : B0 ≤ B) (hg : B0 ≤ g) : Below B0 w w1 := ⟨h.os, h.tape, h.output, h.size, fun k hk => h.block k (by omega) (by omega)⟩
theorem Bel.setG (h : Bel B g w w1) (i : Nat) (x : Value) : Bel B g w (w1.setCell ⟨g, i, none⟩ x) :=
  h.trans ⟨rfl, rfl, rfl, by simp [World.setCell], fun k _ hn => Below.heap_setCell _ _ _ _ (fun e => hn (by rw [e]))⟩
theorem Bel.setB (h : Bel B g w w1) {p : Addr} (hp : B ≤ p.block) (x : Value) : Bel B g w (w1.setCell p x) :=
  h.trans ⟨rfl, rfl, rfl, by simp [World.setCell], fun k hk hn => Below.heap_setCell _ _ _ _ (fun e => by omega)⟩
theorem Bel.grown {v : Value} (h : Bel B g w w1) (hg : w1.grownBy w2 v.ownBlock) (hB : B ≤ w1.heap.size) (hv : ∀ q, v.ownBlock = some q → B ≤ q) : Bel B g w w2 :=
  h.trans ⟨hg.os, hg.tape, hg.output, hg.size, fun k hk hn => hg.block k (by omega) (fun e => by have := hv k e.symm; omega)⟩
end
structure RX (w : World) (B g : Nat) (want : Nat) (vt : Value) (cd pl : Int) (l : List (Td × Value)) : Prop where
  gB : g < B
  bx : Blk w g 125 [.int .i64 want, vt, .int .i64 cd, .int .i64 pl]
  bw : B ≤ w.heap.size
  os : OSc w B vt l
section
variable {w : World} {B g want : Nat} {vt : Value} {cd pl : Int} {l : List (Td × Value)}
theorem RX.stay {w2 : World} (h : RX w B g want vt cd pl l) (hb : Below w.heap.size w w2) : RX w2 B g want vt cd pl l := ⟨h.gB, h.bx.stay hb, Nat.le_trans h.bw hb.size, h.os.stay hb⟩
theorem RX.setW (h : RX w B g want vt cd pl l) (x : Nat) : RX (w.setCell ⟨g, 0, none⟩ (.int .i64 x)) B g x vt cd pl l := ⟨h.gB, h.bx.set_ 0 _, by simpa using h.bw, h.os.far h.gB⟩
theorem RX.setC (h : RX w B g want vt cd pl l) (x : Int) : RX (w.setCell ⟨g, 2, none⟩ (.int .i64 x)) B g want vt x pl l := ⟨h.gB, h.bx.set_ 2 _, by simpa using h.bw, h.os.far h.gB⟩
theorem RX.setP (h : RX w B g want vt cd pl l) (x : Int) : RX (w.setCell ⟨g, 3, none⟩ (.int .i64 x)) B g want vt cd x l := ⟨h.gB, h.bx.set_ 3 _, by simpa using h.bw, h.os.far h.gB⟩
theorem RX.putT {w1 : World} {v' : Value} {l' : List (Td × Value)} (h : RX w B g want vt cd pl l) (hg : w.grownBy w1 vt.ownBlock) (hO : OSc w1 B v' l') : RX (w1.setCell ⟨g, 1, none⟩ v') B g want v' cd pl l' :=
  ⟨h.gB, (h.bx.grown hg (fun e => by have := (h.os.kr.lt _ e.symm).1; have := h.gB; omega)).set_ 1 v', by simpa using Nat.le_trans h.bw hg.size, hO.far h.gB⟩
/-- a type's attributes have grown -/
theorem RX.putA {w1 : World} {gk cap i : Nat} {p : Td × Value} {as' : List ByteArray} {u' : Value} (h : RX w B g want (.slice (some ⟨gk, 0, none⟩) l.length cap) cd pl l) (hp : l[i]? = some p) (hg : w.grownBy w1 p.2.ownBlock)
    (hv : OL w1 B NoB 9 1 u' as'.length (as'.flatMap strD)) (hvn : u'.ownBlock = p.2.ownBlock ∨ u'.ownBlock = some w.heap.size) :
    RX (w1.setCell ⟨gk, i * 2 + 1, none⟩ u') B g want (.slice (some ⟨gk, 0, none⟩) l.length cap) cd pl (l.set i (⟨p.1.name, as'⟩, u')) := by
  have hgk : B ≤ gk := (h.os.kr.lt gk rfl).1
  have hgB := h.gB
  refine ⟨h.gB, (h.bx.grown hg (fun e => by have := ((h.os.fr p (List.mem_of_getElem? hp)).lt _ e.symm).1; omega)).far (by show g ≠ gk; omega) _, by simpa using Nat.le_trans h.bw hg.size, h.os.putA hp hg hv hvn⟩
end
end Go.Proofs.YtmadafejenjkcaaDoor
