/- A schema of the call's own under writes; an append that is thrown away. -/
import Derived.Test.YtmadafejenjkcaaDoorX1
import Derived.Deep.DeepAppendRoom
import Derived.Test.YtmadafejenjkcaaDoorX7
namespace Go.Proofs.YtmadafejenjkcaaDoor
open Go.RowKit Go.Deep
set_option linter.unusedVariables false

section
variable {P : Program} {w : World}
theorem row_prefix {B e size n m g cap : Nat} {xs ys : List Value} (h : w.ownsRow B e size (.slice (some ⟨g, 0, none⟩) (n + m) cap) (n + m) (xs ++ ys)) (hx : xs.length = n * size) : w.ownsRow B e size (.slice (some ⟨g, 0, none⟩) n cap) n xs := by
  obtain ⟨h1, h2⟩ := h
  rcases h2 with ⟨h2, _⟩ | ⟨g', cap', cur, e1, hB, hg, hnc, hm, hs, ht⟩
  · cases h2
  · injection e1 with e1 e2 e3
    injection e1 with e1
    injection e1 with e1 e4
    subst e1 e3
    refine ⟨hx, .inr ⟨g, cap, cur, rfl, hB, hg, by omega, hm, hs, ?_⟩⟩
    have : (cur.toList.take ((n + m) * size)).take (n * size) = (xs ++ ys).take (n * size) := by rw [ht]
    rw [List.take_take, Nat.min_eq_left (Nat.mul_le_mul (by omega) (Nat.le_refl _)), ← hx, List.take_left] at this
    rw [← hx]; exact this
/-- an append whose result is thrown away: the old slice is as it was -/
theorem run_app_keep {B t ty e size bytes n m c : Nat} {v : Value} {ds : List D} {newsV : List Value} {ad : Addr} (T : ElT P t e size bytes) (hown : OL w B (fun _ => False) e size v n ds)
    (hl : newsV.length = m * size) (hnews : ∀ j u, newsV[j]? = some u → w.cell? (ad.add j) = some u) (h1 : ∀ u ∈ newsV, u.oneCell' = true) (hn : n + m ≤ 4294967296) (hb : bytes ≤ 32768) (hB : B ≤ w.heap.size) (hm : 0 < m) :
    ∃ A' c' w', (Builtin.append_ #[t, t] ty #[v, .slice (some ad) m c]).run P w = .ok (.slice A' (n + m) c') w' ∧ OL w' B (fun _ => False) e size v n ds ∧ w.grownBy w' v.ownBlock := by
  obtain ⟨cells, ho, hlen, hr⟩ := hown
  have hown : OL w B (fun _ => False) e size v n ds := ⟨cells, ho, hlen, hr⟩
  obtain ⟨ht, ⟨i, z, hi, hz, hsize, hby, hzs⟩, hp⟩ := T
  have hbytes : (n + m) * i.bytes ≤ 140737488355328 := Nat.le_trans (Nat.mul_le_mul hn (by omega : i.bytes ≤ 32768)) (by decide)
  by_cases hnil : v = .slice none 0 0
  · subst hnil
    obtain ⟨v', w', hrun, a1, a2, _, a4⟩ := run_append_own_at (P := P) w B t ty e i z size bytes ht hi hz hsize hby hzs hp _ n cells ho ad m c newsV hl (fun j u h => hnews j u h) h1 (by unfold maxLen; omega) (by rw [← hby]; exact hbytes) hB
    have hn0 : n = 0 := by
      rcases ho.2 with ⟨_, h⟩ | ⟨g, cap, cur, h, _⟩
      · exact h
      · cases h
    have hf : ∃ A' c', v' = .slice A' (n + m) c' := by
      rcases a1.2 with ⟨rfl, h⟩ | ⟨g, cap, cur, rfl, _⟩
      · exact ⟨none, 0, by rw [h]⟩
      · exact ⟨_, _, rfl⟩
    obtain ⟨A', c', rfl⟩ := hf
    exact ⟨A', c', w', hrun, hown.kept (row := none) a2 (.inl rfl) (fun _ hb => hb.elim), a2⟩
  · obtain ⟨g, cap, hv⟩ : ∃ g cap, v = .slice (some ⟨g, 0, none⟩) n cap := by
      rcases ho.2 with ⟨h, _⟩ | ⟨g, cap, cur, h, _⟩
      · exact absurd h hnil
      · exact ⟨g, cap, h⟩
    subst hv
    by_cases hroom : n + m ≤ cap
    · obtain ⟨w', hrun, ho2, hg⟩ := run_append_own_spare (P := P) w B t ty e i size ht hi hsize g n cap cells ho ad m c newsV hl hnews h1 hroom
      refine ⟨_, _, w', hrun, ⟨cells, row_prefix ho2 ho.1, hlen, fun k d hd => ?_⟩, hg⟩
      obtain ⟨u, hu, hx⟩ := hr k d hd
      exact ⟨u, hu, hx.grown hg fun b hb => hb.1.elim⟩
    · subst hsize
      have holds : ∀ j u, cells[j]? = some u → w.cell? ((⟨g, 0, none⟩ : Addr).add j) = some u := ho.cells (g := g) rfl
      have hrun := run_append_grow (P := P) w t ty e i z ht hi hz ⟨g, 0, none⟩ n cap cells ho.1 holds ad m c newsV hl hnews (by omega) (by omega) (growslice_fits (by omega) hbytes)
      have hbl : Below w.heap.size w (w.drew.alloc (.cells ((cells ++ newsV).toArray ++ Builtin.zeroCells z.cells (grownCap w (n + m) cap e - (n + m))) e)) := ((Below.refl _ _).drew).alloc (Nat.le_refl _) _
      refine ⟨_, _, _, hrun, ?_, ?_⟩
      · exact hown.stay ⟨rfl, rfl, rfl, by simp, fun k hk => Below.heap_alloc w.drew _ k hk⟩
      · exact ⟨rfl, rfl, rfl, by simp, fun k hk _ => Below.heap_alloc w.drew _ k hk⟩
theorem wpList_app_keep {ops : Array Oper} {rest : List Oper} {o : Oper} {a : Act} {Q : Exit → Act → World → Prop} (hgd : o.guard = none) (s x : Operand) (t : TypeId)
    (ho : o.op = .call { callee := .builtin .append, args := #[s, x], argTypes := #[t, t] }) {B e size bytes n m c : Nat} {v : Value} {ds : List D} {newsV : List Value} {ad : Addr} (T : ElT P t e size bytes) (hown : OL w B (fun _ => False) e size v n ds) (hs : a.eval s = v) (hx : a.eval x = .slice (some ad) m c)
    (hl : newsV.length = m * size) (hnews : ∀ j u, newsV[j]? = some u → w.cell? (ad.add j) = some u) (h1 : ∀ u ∈ newsV, u.oneCell' = true) (hn : n + m ≤ 4294967296) (hb : bytes ≤ 32768) (hB : B ≤ w.heap.size) (hm : 0 < m)
    (h : ∀ A' c' w', OL w' B (fun _ => False) e size v n ds → w.grownBy w' v.ownBlock → wpList P ops Q rest (a.put o.dst (.slice A' (n + m) c')) w') : wpList P ops Q (o :: rest) a w := by
  refine wpList_plain hgd fun K hK => ?_
  obtain ⟨A', c', w', hrun, h2, h3⟩ := run_app_keep (P := P) (ty := o.type) T hown hl hnews h1 hn hb hB hm (c := c)
  unfold Oper.wp execOp
  simp only [ho, resolve, invoke, builtin, Sem.run_bind, Sem.run_pure, Result.andThen_ok, List.map_toArray, List.map_cons, List.map_nil, hs, hx, hrun]
  exact hK _ _ (h A' c' w' h2 h3)
end

section
variable {w : World} {B : Nat} {v : Value} {l : List (Td × Value)}
theorem tc_set {c : Nat} {p p' : Td × Value} {x : Value} (hc : c < 2) (h : tcD p' = (tcD p).set c (.v x)) : ∀ {l : List (Td × Value)} {i : Nat}, l[i]? = some p → (l.flatMap tcD).set (i * 2 + c) (.v x) = (l.set i p').flatMap tcD := by
  intro l
  induction l with
  | nil => intro i hp; simp at hp
  | cons a l ih =>
    intro i hp
    cases i with
    | zero =>
      simp only [List.getElem?_cons_zero, Option.some.injEq] at hp
      subst hp
      rw [List.set_cons_zero, List.flatMap_cons, List.flatMap_cons, h, List.set_append, show (tcD a).length = 2 from rfl, if_pos (by omega), Nat.zero_mul, Nat.zero_add]
    | succ k =>
      simp only [List.getElem?_cons_succ] at hp
      rw [List.set_cons_succ, List.flatMap_cons, List.flatMap_cons, ← ih hp, List.set_append, show (tcD a).length = 2 from rfl, if_neg (by omega), show (k + 1) * 2 + c - 2 = k * 2 + c by omega]
theorem tc_same {p p' : Td × Value} (h : tcD p' = tcD p) : ∀ {l : List (Td × Value)} {i : Nat}, l[i]? = some p → (l.set i p').flatMap tcD = l.flatMap tcD := by
  intro l
  induction l with
  | nil => intro i hp; simp at hp
  | cons a l ih =>
    intro i hp
    cases i with
    | zero =>
      simp only [List.getElem?_cons_zero, Option.some.injEq] at hp
      subst hp
      rw [List.set_cons_zero, List.flatMap_cons, List.flatMap_cons, h]
    | succ k =>
      simp only [List.getElem?_cons_succ] at hp
      rw [List.set_cons_succ, List.flatMap_cons, List.flatMap_cons, ih hp]
theorem str_set {l : List ByteArray} {k : Nat} {s : ByteArray} : (l.flatMap strD).set k (.v (.string s)) = (l.set k s).flatMap strD := set1 (f := fun s => D.v (.string s))
/-- a type's cells -/
theorem OSc.at_ (h : OSc w B v l) {i : Nat} {p : Td × Value} (hp : l[i]? = some p) : ∃ gk cap, v = .slice (some ⟨gk, 0, none⟩) l.length cap ∧ B ≤ gk ∧ gk < w.heap.size ∧ (∀ j, w.frozen? ⟨gk, j, none⟩ = false) ∧
    w.cell? ⟨gk, i * 2, none⟩ = some (.string p.1.name) ∧ w.cell? ⟨gk, i * 2 + 1, none⟩ = some p.2 := by
  have hi := (List.getElem?_eq_some_iff.1 hp).1
  obtain ⟨gk, cap, e, h1, h2, h3, h4⟩ := h.kr.row (by omega)
  refine ⟨gk, cap, e, h1, h2, h3, ?_, ?_⟩
  · obtain ⟨u, hu, hr⟩ := h4 (i * 2 + 0) _ (flatMap_get (f := tcD) (m := 2) (fun _ => rfl) hp rfl)
    rw [hr.v_inv] at hu; exact hu
  · obtain ⟨u, hu, hr⟩ := h4 (i * 2 + 1) _ (flatMap_get (f := tcD) (m := 2) (fun _ => rfl) hp rfl)
    rw [hr.v_inv] at hu; exact hu
theorem OSc.ne_same (h : OSc w B v l) {i : Nat} {p p' : Td × Value} (hp : l[i]? = some p) (hv : p'.2 = p.2) :
    ∀ (a b : Nat) (x y : Td × Value), (l.set i p')[a]? = some x → (l.set i p')[b]? = some y → a ≠ b → x.2.ownBlock = none ∨ x.2.ownBlock ≠ y.2.ownBlock := by
  have get : ∀ {a : Nat} {x}, (l.set i p')[a]? = some x → ∃ x', l[a]? = some x' ∧ x.2 = x'.2 := fun {a x} hx => by
    rw [List.getElem?_set] at hx
    by_cases ha : i = a
    · rw [if_pos ha] at hx
      split at hx
      · injection hx with hx; subst hx; subst ha; exact ⟨p, hp, hv⟩
      · cases hx
    · rw [if_neg ha] at hx; exact ⟨x, hx, rfl⟩
  intro a b x y hx hy hab
  obtain ⟨x', hx', e1⟩ := get hx
  obtain ⟨y', hy', e2⟩ := get hy
  rw [e1, e2]
  exact h.ne a b x' y' hx' hy' hab
/-- an attribute is written -/
theorem OSc.setA {ga cap i k : Nat} {p : Td × Value} {s : ByteArray} (h : OSc w B v l) (hp : l[i]? = some p) (hv : p.2 = .slice (some ⟨ga, 0, none⟩) p.1.attrs.length cap) (hk : k < p.1.attrs.length) :
    OSc (w.setCell ⟨ga, k, none⟩ (.string s)) B v (l.set i ({ p.1 with attrs := p.1.attrs.set k s }, p.2)) := by
  have hpm := List.mem_of_getElem? hp
  have hfp := h.fr p hpm
  rw [hv] at hfp
  refine ⟨?_, ?_, h.ne_same hp rfl⟩
  · rw [tc_same (p := p) (p' := ({ p.1 with attrs := p.1.attrs.set k s }, p.2)) rfl hp, List.length_set]
    exact h.kr.setCell (p := ⟨ga, k, none⟩) (h.kr.offRow hfp (by decide)) (fun h => h) _
  · intro q hq
    have hu := hfp.set (j := k) (u := .string s) (d := .v (.string s)) (.v _ rfl)
    rw [str_set] at hu
    by_cases hqp : q = ({ p.1 with attrs := p.1.attrs.set k s }, p.2)
    · subst hqp
      show OL _ _ _ _ _ p.2 (p.1.attrs.set k s).length _
      rw [List.length_set, hv]
      exact hu
    · obtain ⟨j, hj⟩ := List.getElem?_of_mem hq
      rw [List.getElem?_set] at hj
      by_cases hij : i = j
      · rw [if_pos hij] at hj
        split at hj
        · injection hj with hj; exact absurd hj.symm hqp
        · cases hj
      · rw [if_neg hij] at hj
        refine (h.fr q (List.mem_of_getElem? hj)).setCell (p := ⟨ga, k, none⟩) ?_ (fun h => h) _
        rcases h.ne j i q p hj hp (fun e => hij e.symm) with e | e
        · rw [e]; simp
        · rw [hv] at e; exact e
/-- a name is written -/
theorem OSc.setN {gk n cap i : Nat} {p : Td × Value} {s : ByteArray} (h : OSc w B (.slice (some ⟨gk, 0, none⟩) n cap) l) (hp : l[i]? = some p) : OSc (w.setCell ⟨gk, i * 2, none⟩ (.string s)) B (.slice (some ⟨gk, 0, none⟩) n cap) (l.set i ({ p.1 with name := s }, p.2)) := by
  have hn : n = l.length := by
    obtain ⟨_, _, e, _⟩ := h.at_ hp
    injection e
  subst hn
  refine ⟨?_, fun q hq => ?_, h.ne_same hp rfl⟩
  · have hu := h.kr.set (j := i * 2 + 0) (u := .string s) (d := .v (.string s)) (.v _ rfl)
    rw [tc_set (p := p) (p' := ({ p.1 with name := s }, p.2)) (by omega) rfl hp] at hu
    simpa using hu
  · have key : ∀ q ∈ l, OL (w.setCell ⟨gk, i * 2, none⟩ (.string s)) B NoB 9 1 q.2 q.1.attrs.length (q.1.attrs.flatMap strD) := fun q hq => (h.fr q hq).setCell (p := ⟨gk, i * 2, none⟩) ((h.fr q hq).offRow h.kr (by decide)) (fun h => h) _
    rcases List.mem_or_eq_of_mem_set hq with hq2 | rfl
    · exact key q hq2
    · exact key p (List.mem_of_getElem? hp)
/-- an append to the row of types that is thrown away -/
theorem OSc.keepT {w1 : World} (h : OSc w B v l) (hg : w.grownBy w1 v.ownBlock) (hv : OL w1 B NoB 34 2 v l.length (l.flatMap tcD)) : OSc w1 B v l :=
  ⟨hv, fun p hp => (h.fr p hp).kept hg ((h.fr p hp).ne h.kr (by decide)) (fun _ hb => hb.elim), h.ne⟩
/-- an append to a type's row of attributes that is thrown away -/
theorem OSc.keepA {w1 : World} {i : Nat} {p : Td × Value} (h : OSc w B v l) (hp : l[i]? = some p) (hg : w.grownBy w1 p.2.ownBlock) (hv : OL w1 B NoB 9 1 p.2 p.1.attrs.length (p.1.attrs.flatMap strD)) : OSc w1 B v l := by
  refine ⟨h.kr.kept hg (h.kr.ne (h.fr p (List.mem_of_getElem? hp)) (by decide)) (fun _ hb => hb.elim), fun q hq => ?_, h.ne⟩
  obtain ⟨j, hj⟩ := List.getElem?_of_mem hq
  by_cases hij : j = i
  · subst hij
    rw [hp] at hj; injection hj with hj; subst hj
    exact hv
  · exact (h.fr q hq).kept hg (h.ne j i q p hj hp hij) (fun _ hb => hb.elim)
end
end Go.Proofs.YtmadafejenjkcaaDoor
/- EvolveSchemas: what stays while the answer is written over. -/
namespace Go.Proofs.YtmadafejenjkcaaDoor
open Go.RowKit Go.Deep
set_option linter.unusedVariables false
open evW

def Out (W : World) (Bg Eg : Nat) : Nat → Prop := fun b => b < W.heap.size ∧ (b < Bg ∨ Eg ≤ b)
def SameL (ls lsx : List (Td × Value)) : Prop := lsx.length = ls.length ∧ ∀ (k : Nat) (p q : Td × Value), ls[k]? = some p → lsx[k]? = some q → q.2 = p.2 ∧ q.1.attrs.length = p.1.attrs.length
theorem SameL.refl (ls : List (Td × Value)) : SameL ls ls := ⟨rfl, fun k p q h1 h2 => by rw [h1] at h2; injection h2 with h2; subst h2; exact ⟨rfl, rfl⟩⟩
theorem SameL.set {ls lsx : List (Td × Value)} (h : SameL ls lsx) {i : Nat} {q q' : Td × Value} (hq : lsx[i]? = some q) (h1 : q'.2 = q.2) (h2 : q'.1.attrs.length = q.1.attrs.length) : SameL ls (lsx.set i q') := by
  refine ⟨by rw [List.length_set]; exact h.1, fun k p x hp hx => ?_⟩
  rw [List.getElem?_set] at hx
  by_cases hik : i = k
  · rw [if_pos hik] at hx
    split at hx
    · injection hx with hx; subst hx; subst hik
      have := h.2 i p q hp hq
      exact ⟨h1.trans this.1, h2.trans this.2⟩
    · cases hx
  · rw [if_neg hik] at hx; exact h.2 k p x hp hx
theorem SameL.get {ls lsx : List (Td × Value)} (h : SameL ls lsx) {i : Nat} {p : Td × Value} (hp : ls[i]? = some p) : ∃ q, lsx[i]? = some q ∧ q.2 = p.2 ∧ q.1.attrs.length = p.1.attrs.length := by
  have hi := (List.getElem?_eq_some_iff.1 hp).1
  obtain ⟨q, hq⟩ := getx (l := lsx) (i := i) (by rw [h.1]; exact hi)
  exact ⟨q, hq, h.2 i p q hp hq⟩
structure LG (w W wr : World) (Bg Eg : Nat) (vg : Value) (ls lsx : List (Td × Value)) : Prop where
  sz : W.heap.size ≤ wr.heap.size
  hb : Below w.heap.size w wr
  ag : ∀ b, Out W Bg Eg b → wr.heap[b]? = W.heap[b]?
  os : OSc wr Bg vg lsx
  sm : SameL ls lsx
theorem LG.stay {w W wr w2 : World} {Bg Eg : Nat} {vg : Value} {ls lsx : List (Td × Value)} (h : LG w W wr Bg Eg vg ls lsx) (hb : Below wr.heap.size wr w2) : LG w W w2 Bg Eg vg ls lsx :=
  ⟨Nat.le_trans h.sz hb.size, h.hb.trans (hb.mono h.hb.size), fun b ho => (hb.block b (Nat.lt_of_lt_of_le ho.1 h.sz)).trans (h.ag b ho), h.os.stay hb, h.sm⟩
theorem LG.write {w W wr w2 : World} {Bg Eg : Nat} {vg : Value} {ls lsx lsy : List (Td × Value)} {row : Option Nat} (h : LG w W wr Bg Eg vg ls lsx) (hBg : w.heap.size ≤ Bg) (hEg : Eg ≤ W.heap.size) (hg : wr.grownBy w2 row) (hr : ∀ q, row = some q → Bg ≤ q ∧ q < Eg) (ho : OSc w2 Bg vg lsy) (hs : SameL ls lsy) : LG w W w2 Bg Eg vg ls lsy :=
  ⟨Nat.le_trans h.sz hg.size, h.hb.grown hg h.hb.size (fun q hq => by have := hr q hq; omega), fun b hob => (hg.block b (Nat.lt_of_lt_of_le hob.1 h.sz) (fun e => by have := hr b e.symm; have := hob.2; omega)).trans (h.ag b hob), ho, hs⟩
theorem LG.cell {w W wr : World} {Bg Eg : Nat} {vg : Value} {ls lsx : List (Td × Value)} (h : LG w W wr Bg Eg vg ls lsx) {b k : Nat} {x : Value} (ho : Out W Bg Eg b) (hc : W.cell? ⟨b, k, none⟩ = some x) : wr.cell? ⟨b, k, none⟩ = some x :=
  (World.cell?_of_block (a := ⟨b, k, none⟩) (h.ag b ho)).trans hc
theorem LG.out {w W wr : World} {Bg Eg : Nat} {vg : Value} {ls lsx : List (Td × Value)} (h : LG w W wr Bg Eg vg ls lsx) {b : Nat} (ho : Out W Bg Eg b) : Out wr Bg Eg b := ⟨Nat.lt_of_lt_of_le ho.1 h.sz, ho.2⟩
theorem LG.rd {w W wr : World} {Bg Eg : Nat} {vg : Value} {ls lsx : List (Td × Value)} (h : LG w W wr Bg Eg vg ls lsx) {u : Value} {d : D} (hr : Rd W (Out W Bg Eg) u d) : Rd wr (fun b => b < wr.heap.size) u d :=
  (hr.keep fun b hb => h.ag b hb).mono fun b hb _ => (h.out hb).1
/-- all types ahead of i are marked, and of type i all attributes ahead of j -/
def MK (lsx : List (Td × Value)) (i j : Nat) : Prop := (∀ (a : Nat) (q : Td × Value), lsx[a]? = some q → a < i → ∀ x ∈ q.1.attrs, x = mkS a) ∧ ∀ (q : Td × Value), lsx[i]? = some q → ∀ (m : Nat) x, m < j → q.1.attrs[m]? = some x → x = mkS i
theorem MK.start (lsx : List (Td × Value)) : MK lsx 0 0 := ⟨fun a q _ h => by omega, fun q _ m x h => by omega⟩
theorem MK.next {lsx : List (Td × Value)} {i j : Nat} {q : Td × Value} (h : MK lsx i j) (hq : lsx[i]? = some q) (hj : q.1.attrs.length ≤ j) : MK lsx (i + 1) 0 := by
  refine ⟨fun a p hp ha x hx => ?_, fun p _ m x h => by omega⟩
  by_cases hai : a = i
  · subst hai
    rw [hq] at hp; injection hp with hp; subst hp
    obtain ⟨m, hm⟩ := List.getElem?_of_mem hx
    exact h.2 q hq m x (by have := (List.getElem?_eq_some_iff.1 hm).1; omega) hm
  · exact h.1 a p hp (by omega) x hx
theorem MK.set {lsx : List (Td × Value)} {i j : Nat} {q : Td × Value} (h : MK lsx i j) (hq : lsx[i]? = some q) (hj : j < q.1.attrs.length) : MK (lsx.set i ({ q.1 with attrs := q.1.attrs.set j (mkS i) }, q.2)) i (j + 1) := by
  refine ⟨fun a p hp ha x hx => ?_, fun p hp m x hm hx => ?_⟩
  · rw [List.getElem?_set, if_neg (by omega)] at hp
    exact h.1 a p hp ha x hx
  · rw [List.getElem?_set, if_pos rfl] at hp
    split at hp
    · injection hp with hp; subst hp
      rw [show (({ q.1 with attrs := q.1.attrs.set j (mkS i) }, q.2) : Td × Value).1.attrs = q.1.attrs.set j (mkS i) from rfl, List.getElem?_set] at hx
      by_cases hjm : j = m
      · rw [if_pos hjm] at hx
        split at hx <;> (first | (injection hx with hx; exact hx.symm) | (cases hx; rfl) | cases hx)
      · rw [if_neg hjm] at hx
        exact h.2 q hq m x (by omega) hx
    · cases hp
/-- all marked -/
def MA (lsx : List (Td × Value)) : Prop := ∀ (a : Nat) (q : Td × Value), lsx[a]? = some q → ∀ x ∈ q.1.attrs, x = mkS a
theorem MK.all {lsx : List (Td × Value)} {i : Nat} (h : MK lsx i 0) (hi : lsx.length ≤ i) : MA lsx := fun a q hq x hx => h.1 a q hq (by have := (List.getElem?_eq_some_iff.1 hq).1; omega) x hx
theorem MA.setN {lsx : List (Td × Value)} {i : Nat} {q : Td × Value} {s : ByteArray} (h : MA lsx) (hq : lsx[i]? = some q) : MA (lsx.set i ({ q.1 with name := s }, q.2)) := fun a p hp x hx => by
  rw [List.getElem?_set] at hp
  by_cases hia : i = a
  · rw [if_pos hia] at hp
    split at hp
    · injection hp with hp; subst hp; subst hia; exact h i q hq x hx
    · cases hp
  · rw [if_neg hia] at hp; exact h a p hp x hx
/-- all else that the law looks at -/
structure ST (W : World) (Bg Eg b2 b5 b7 b10 b13 : Nat) (vs vs2 vl vl2 vg vo vw : Value) (S : List Td) (L : List Cg) (Z : List Td) : Prop where
  o2 : Out W Bg Eg b2
  o5 : Out W Bg Eg b5
  o7 : Out W Bg Eg b7
  o10 : Out W Bg Eg b10
  o13 : Out W Bg Eg b13
  c2 : W.cell? ⟨b2, 0, none⟩ = some vs
  c5 : W.cell? ⟨b5, 0, none⟩ = some vs2
  c7 : W.cell? ⟨b7, 0, none⟩ = some vg
  c10 : W.cell? ⟨b10, 0, none⟩ = some vo
  c13 : W.cell? ⟨b13, 0, none⟩ = some vw
  rs : Rd W (Out W Bg Eg) vs (.sl S.length (S.flatMap tdD))
  rs2 : Rd W (Out W Bg Eg) vs2 (.sl S.length (S.flatMap tdD))
  rl : Rd W (Out W Bg Eg) vl (.sl L.length (L.flatMap cgD))
  rl2 : Rd W (Out W Bg Eg) vl2 (.sl L.length (L.flatMap cgD))
  ro : Rd W (Out W Bg Eg) vo (.sl Z.length (Z.flatMap tdD))
  rw_ : Rd W (Out W Bg Eg) vw (.sl Z.length (Z.flatMap tdD))
end Go.Proofs.YtmadafejenjkcaaDoor
