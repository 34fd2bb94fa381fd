/- The design in memory: its block, the row of kinds, each kind's own row of fields, the row of losses. -/
import Derived.Test.YtmadafejenjkcaaDoorW3
import Derived.Test.YtmadafejenjkcaaDoorV9
import Derived.Test.YtmadafejenjkcaaDoorV4
import Derived.OwnWalk
namespace Go.Proofs.YtmadafejenjkcaaDoor
open Go.RowKit Go.Deep
set_option linter.unusedVariables false

theorem elLoss : ElT Tryd.prog 106 177 3 24 := .of Tryd.underlying106 (by kernel_rfl) (by omega)

abbrev NoB : Nat → Prop := fun _ => False
structure DX (w : World) (B g : Nat) (vk vl : Value) (by_ : Int) (nl : Nat) (l : List (Kd × Value)) : Prop where
  gB : B ≤ g
  bx : Blk w g 108 [vk, vl, .int .i64 by_]
  kr : OL w B NoB 111 3 vk l.length (l.flatMap kcD)
  fr : ∀ p ∈ l, OL w B NoB 113 3 p.2 p.1.fs.length (p.1.fs.flatMap fdD)
  ne : ∀ (i j : Nat) (p q : Kd × Value), l[i]? = some p → l[j]? = some q → i ≠ j → p.2.ownBlock = none ∨ p.2.ownBlock ≠ q.2.ownBlock
  lr : ∃ dl, OL w B NoB 177 3 vl nl dl
theorem DX.stay {w w2 : World} {B g nl : Nat} {vk vl : Value} {by_ : Int} {l : List (Kd × Value)} (h : DX w B g vk vl by_ nl l) (hb : Below w.heap.size w w2) : DX w2 B g vk vl by_ nl l :=
  ⟨h.gB, h.bx.stay hb, h.kr.stay hb, fun p hp => (h.fr p hp).stay hb, h.ne, let ⟨dl, hd⟩ := h.lr; ⟨dl, hd.stay hb⟩⟩
theorem OL.neBlk {w : World} {B e size n g t : Nat} {F : Nat → Prop} {v : Value} {ds : List D} {cs : List Value} (h : OL w B F e size v n ds) (hb : Blk w g t cs) (hne : e ≠ t) : v.ownBlock ≠ some g := by
  obtain ⟨cells, h1, _⟩ := h
  rcases h1.2 with ⟨rfl, _⟩ | ⟨g', cap, cur, rfl, _, hg, _⟩
  · simp [Value.ownBlock]
  · intro he
    simp [Value.ownBlock] at he
    subst he
    unfold Blk at hb
    rw [hg] at hb
    injection hb with hb
    injection hb with _ ht
    exact hne ht
theorem none_row (v : Value) : v.ownBlock = none ∨ v.ownBlock ≠ none := by cases v.ownBlock <;> simp
theorem OL.offRow {w : World} {B e size n B' e' size' n' gk o c m : Nat} {F F' : Nat → Prop} {v : Value} {ds ds' : List D} (h : OL w B F e size v n ds) (hk : OL w B' F' e' size' (.slice (some ⟨gk, o, none⟩) m c) n' ds') (hne : e ≠ e') : v.ownBlock ≠ some gk := by
  rcases h.ne hk hne with e | e
  · rw [e]; simp
  · exact e
theorem none_or {v : Value} {g : Nat} (h : v.ownBlock ≠ some g) : v.ownBlock = none ∨ v.ownBlock ≠ some g := .inr h
theorem grown_set {w : World} {p : Addr} {x : Value} : w.grownBy (w.setCell p x) (some p.block) :=
  ⟨rfl, rfl, rfl, by simp [World.setCell], fun k hk hne => Below.heap_setCell _ _ _ _ (fun e => hne (by rw [e]))⟩
theorem grown_trans {w w1 w2 : World} {row : Option Nat} (h : w.grownBy w1 row) (h2 : w1.grownBy w2 row) : w.grownBy w2 row :=
  ⟨h2.os.trans h.os, h2.tape.trans h.tape, h2.output.trans h.output, Nat.le_trans h.size h2.size, fun j hj hne => (h2.block j (Nat.lt_of_lt_of_le hj h.size) hne).trans (h.block j hj hne)⟩

section
variable {w : World} {B g nl : Nat} {vk vl : Value} {by_ : Int} {l : List (Kd × Value)}
theorem DX.c0 (h : DX w B g vk vl by_ nl l) : w.cell? ⟨g, 0, none⟩ = some vk := h.bx.cell 0
theorem DX.c1 (h : DX w B g vk vl by_ nl l) : w.cell? ⟨g, 1, none⟩ = some vl := h.bx.cell 1
theorem DX.c2 (h : DX w B g vk vl by_ nl l) : w.cell? ⟨g, 2, none⟩ = some (.int .i64 by_) := h.bx.cell 2
/-- a kind's cells -/
theorem DX.at_ (h : DX w B g vk vl by_ nl l) {i : Nat} {p : Kd × Value} (hp : l[i]? = some p) : ∃ gk cap, vk = .slice (some ⟨gk, 0, none⟩) l.length cap ∧ B ≤ gk ∧ gk < w.heap.size ∧ (∀ j, w.frozen? ⟨gk, j, none⟩ = false) ∧
    w.cell? ⟨gk, i * 3, none⟩ = some (.string p.1.nm) ∧ w.cell? ⟨gk, i * 3 + 1, none⟩ = some (.int .i64 p.1.fr) ∧ w.cell? ⟨gk, i * 3 + 2, none⟩ = some p.2 := by
  have hi := (List.getElem?_eq_some_iff.1 hp).1
  obtain ⟨gk, cap, e, h1, h2, h3, h4⟩ := h.kr.row (by omega)
  refine ⟨gk, cap, e, h1, h2, h3, ?_, ?_, ?_⟩
  · obtain ⟨u, hu, hr⟩ := h4 (i * 3 + 0) _ (flatMap_get (f := kcD) (m := 3) (fun _ => rfl) hp rfl)
    rw [hr.v_inv] at hu; exact hu
  · obtain ⟨u, hu, hr⟩ := h4 (i * 3 + 1) _ (flatMap_get (f := kcD) (m := 3) (fun _ => rfl) hp rfl)
    rw [hr.v_inv] at hu; exact hu
  · obtain ⟨u, hu, hr⟩ := h4 (i * 3 + 2) _ (flatMap_get (f := kcD) (m := 3) (fun _ => rfl) hp rfl)
    rw [hr.v_inv] at hu; exact hu
theorem kc_set {c : Nat} {p p' : Kd × Value} {x : Value} (hc : c < 3) (h : kcD p' = (kcD p).set c (.v x)) : ∀ {l : List (Kd × Value)} {i : Nat}, l[i]? = some p → (l.flatMap kcD).set (i * 3 + c) (.v x) = (l.set i p').flatMap kcD := by
  intro l
  induction l with
  | nil => intro i hp; simp at hp
  | cons a l ih =>
    intro i hp
    cases i with
    | zero =>
      simp only [List.getElem?_cons_zero, Option.some.injEq] at hp
      subst hp
      rw [List.set_cons_zero, List.flatMap_cons, List.flatMap_cons, h, List.set_append, show (kcD a).length = 3 from rfl, if_pos (by omega), Nat.zero_mul, Nat.zero_add]
    | succ k =>
      simp only [List.getElem?_cons_succ] at hp
      rw [List.set_cons_succ, List.flatMap_cons, List.flatMap_cons, ← ih hp, List.set_append, show (kcD a).length = 3 from rfl, if_neg (by omega), show (k + 1) * 3 + c - 3 = k * 3 + c by omega]
theorem kc_same {p p' : Kd × Value} (h : kcD p' = kcD p) : ∀ {l : List (Kd × Value)} {i : Nat}, l[i]? = some p → (l.set i p').flatMap kcD = l.flatMap kcD := by
  intro l
  induction l with
  | nil => intro i hp; simp at hp
  | cons a l ih =>
    intro i hp
    cases i with
    | zero =>
      simp only [List.getElem?_cons_zero, Option.some.injEq] at hp
      subst hp
      rw [List.set_cons_zero, List.flatMap_cons, List.flatMap_cons, h]
    | succ k =>
      simp only [List.getElem?_cons_succ] at hp
      rw [List.set_cons_succ, List.flatMap_cons, List.flatMap_cons, ih hp]
theorem ne_sym {v u : Value} (h : v.ownBlock = none ∨ v.ownBlock ≠ u.ownBlock) : u.ownBlock = none ∨ u.ownBlock ≠ v.ownBlock := by
  rcases h with h | h
  · rw [h]
    cases hu : u.ownBlock with
    | none => exact .inl rfl
    | some q => exact .inr (by simp)
  · exact .inr (fun e => h e.symm)
/-- the pairs stay apart when one is replaced -/
theorem DX.ne_set (h : DX w B g vk vl by_ nl l) {i : Nat} {p p' : Kd × Value} (hp : l[i]? = some p) (hv : p'.2.ownBlock = p.2.ownBlock ∨ ∀ q, p'.2.ownBlock = some q → w.heap.size ≤ q) :
    ∀ (a b : Nat) (x y : Kd × Value), (l.set i p')[a]? = some x → (l.set i p')[b]? = some y → a ≠ b → x.2.ownBlock = none ∨ x.2.ownBlock ≠ y.2.ownBlock := by
  have key : ∀ (b : Nat) (y : Kd × Value), l[b]? = some y → i ≠ b → p'.2.ownBlock = none ∨ p'.2.ownBlock ≠ y.2.ownBlock := fun b y hy hib => by
    rcases hv with e | e
    · rw [e]; exact h.ne i b p y hp hy hib
    · cases hq : p'.2.ownBlock with
      | none => exact .inl rfl
      | some q =>
        refine .inr fun he => ?_
        have := e q hq
        have := ((h.fr y (List.mem_of_getElem? hy)).lt q he.symm).2
        omega
  intro a b x y hx hy hab
  rw [List.getElem?_set] at hx hy
  by_cases ha : i = a
  · rw [if_pos ha] at hx
    split at hx
    · injection hx with hx; subst hx
      rw [if_neg (by omega)] at hy
      exact key b y hy (by omega)
    · cases hx
  · rw [if_neg ha] at hx
    by_cases hb : i = b
    · rw [if_pos hb] at hy
      split at hy
      · injection hy with hy; subst hy
        exact ne_sym (key a x hx ha)
      · cases hy
    · rw [if_neg hb] at hy
      exact h.ne a b x y hx hy hab
/-- a kind's fields are a new row, its cell is set -/
theorem DX.putF {w1 : World} {row : Option Nat} {gk cap i : Nat} {p : Kd × Value} {fs' : List Fd} {v' : Value} (h : DX w B g (.slice (some ⟨gk, 0, none⟩) l.length cap) vl by_ nl l) (hp : l[i]? = some p) (hg : w.grownBy w1 row) (hrow : row = none ∨ row = p.2.ownBlock)
    (hv : OL w1 B NoB 113 3 v' fs'.length (fs'.flatMap fdD)) (hvn : v'.ownBlock = p.2.ownBlock ∨ ∀ q, v'.ownBlock = some q → w.heap.size ≤ q) :
    DX (w1.setCell ⟨gk, i * 3 + 2, none⟩ v') B g (.slice (some ⟨gk, 0, none⟩) l.length cap) vl by_ nl (l.set i ({ p.1 with fs := fs' }, v')) := by
  have hpm := List.mem_of_getElem? hp
  have hfp := h.fr p hpm
  have r1 : ∀ {e size n : Nat} {v : Value} {ds : List D}, OL w B NoB e size v n ds → e ≠ 113 → OL w1 B NoB e size v n ds := fun ho hne =>
    ho.kept hg (by
      rcases hrow with e | e
      · rw [e]; exact none_row _
      · rw [e]; exact ho.ne hfp hne) (fun _ hb => hb.elim)
  have hgb : some g ≠ row := by
    rcases hrow with e | e
    · rw [e]; simp
    · rw [e]; exact fun e => hfp.neBlk h.bx (by decide) e.symm
  have hkr1 := r1 h.kr (by decide)
  obtain ⟨dl, hlr⟩ := h.lr
  have hlr1 := r1 hlr (by decide)
  have hbx1 := h.bx.grown hg hgb
  have hgk : gk ≠ g := fun e => h.kr.neBlk h.bx (by decide) (by rw [← e]; rfl)
  refine ⟨h.gB, hbx1.far (fun e => hgk e.symm) _, ?_, ?_, h.ne_set hp hvn, dl, hlr1.setCell (p := ⟨gk, i * 3 + 2, none⟩) (hlr1.offRow hkr1 (by decide)) (fun h => h) _⟩
  · have hu := hkr1.set (j := i * 3 + 2) (u := v') (d := .v v') (by
      obtain ⟨A, c, rfl⟩ := hv.form
      exact .v _ rfl)
    rw [kc_set (p := p) (p' := ({ p.1 with fs := fs' }, v')) (by omega) rfl hp] at hu
    simpa using hu
  · intro q hq
    rcases mem_set_ hq with hq2 | rfl
    · by_cases hqp : q = ({ p.1 with fs := fs' }, v')
      · subst hqp
        exact hv.setCell (p := ⟨gk, i * 3 + 2, none⟩) (hv.offRow hkr1 (by decide)) (fun h => h) _
      · have hmem : ∃ j, j ≠ i ∧ l[j]? = some q := by
          obtain ⟨j, hj⟩ := List.getElem?_of_mem hq
          rw [List.getElem?_set] at hj
          by_cases hij : i = j
          · rw [if_pos hij] at hj
            split at hj
            · injection hj with hj; exact absurd hj.symm hqp
            · cases hj
          · rw [if_neg hij] at hj; exact ⟨j, fun e => hij e.symm, hj⟩
        obtain ⟨j, hji, hj⟩ := hmem
        have hq1 : OL w1 B NoB 113 3 q.2 q.1.fs.length (q.1.fs.flatMap fdD) := (h.fr q hq2).kept hg (by
          rcases hrow with e | e
          · rw [e]; exact none_row _
          · rw [e]; exact h.ne j i q p hj hp hji) (fun _ hb => hb.elim)
        exact hq1.setCell (p := ⟨gk, i * 3 + 2, none⟩) (hq1.offRow hkr1 (by decide)) (fun h => h) _
    · exact hv.setCell (p := ⟨gk, i * 3 + 2, none⟩) (hv.offRow hkr1 (by decide)) (fun h => h) _
/-- a kind's name is set -/
theorem DX.setN {gk cap i : Nat} {p : Kd × Value} {s : ByteArray} (h : DX w B g (.slice (some ⟨gk, 0, none⟩) l.length cap) vl by_ nl l) (hp : l[i]? = some p) :
    DX (w.setCell ⟨gk, i * 3, none⟩ (.string s)) B g (.slice (some ⟨gk, 0, none⟩) l.length cap) vl by_ nl (l.set i ({ p.1 with nm := s }, p.2)) := by
  have hpm := List.mem_of_getElem? hp
  have hgk : gk ≠ g := fun e => h.kr.neBlk h.bx (by decide) (by rw [← e]; rfl)
  obtain ⟨dl, hlr⟩ := h.lr
  refine ⟨h.gB, h.bx.far (fun e => hgk e.symm) _, ?_, ?_, h.ne_set hp (.inl rfl), dl, hlr.setCell (p := ⟨gk, i * 3, none⟩) (hlr.offRow h.kr (by decide)) (fun h => h) _⟩
  · have hu := h.kr.set (j := i * 3 + 0) (u := .string s) (d := .v (.string s)) (.v _ rfl)
    rw [kc_set (p := p) (p' := ({ p.1 with nm := s }, p.2)) (by omega) rfl hp] at hu
    simpa using hu
  · intro q hq
    have key : ∀ q ∈ l, OL (w.setCell ⟨gk, i * 3, none⟩ (.string s)) B NoB 113 3 q.2 q.1.fs.length (q.1.fs.flatMap fdD) := fun q hq => (h.fr q hq).setCell (p := ⟨gk, i * 3, none⟩) ((h.fr q hq).offRow h.kr (by decide)) (fun h => h) _
    rcases mem_set_ hq with hq2 | rfl
    · exact key q hq2
    · exact key p hpm
/-- a field's name is set -/
theorem DX.setF {gf cap i k : Nat} {p : Kd × Value} {x : Fd} {s : ByteArray} (h : DX w B g vk vl by_ nl l) (hp : l[i]? = some p) (hv : p.2 = .slice (some ⟨gf, 0, none⟩) p.1.fs.length cap) (hx : p.1.fs[k]? = some x) :
    DX (w.setCell ⟨gf, k * 3, none⟩ (.string s)) B g vk vl by_ nl (l.set i ({ p.1 with fs := p.1.fs.set k { x with nm := s } }, p.2)) := by
  have hpm := List.mem_of_getElem? hp
  have hfp := h.fr p hpm
  rw [hv] at hfp
  have hgf : gf ≠ g := fun e => hfp.neBlk h.bx (by decide) (by rw [← e]; rfl)
  obtain ⟨dl, hlr⟩ := h.lr
  refine ⟨h.gB, h.bx.far (fun e => hgf e.symm) _, ?_, ?_, h.ne_set hp (.inl rfl), dl, hlr.setCell (p := ⟨gf, k * 3, none⟩) (hlr.offRow hfp (by decide)) (fun h => h) _⟩
  · rw [kc_same (p := p) (p' := ({ p.1 with fs := p.1.fs.set k { x with nm := s } }, p.2)) rfl hp, List.length_set]
    exact h.kr.setCell (p := ⟨gf, k * 3, none⟩) (h.kr.offRow hfp (by decide)) (fun h => h) _
  · intro q hq
    have hu := hfp.set (j := k * 3) (u := .string s) (d := .v (.string s)) (.v _ rfl)
    rw [fd_set _ k x s hx] at hu
    by_cases hqp : q = ({ p.1 with fs := p.1.fs.set k { x with nm := s } }, p.2)
    · subst hqp
      show OL _ _ _ _ _ p.2 (p.1.fs.set k { x with nm := s }).length _
      rw [List.length_set, hv]
      exact hu
    · obtain ⟨j, hj⟩ := List.getElem?_of_mem hq
      rw [List.getElem?_set] at hj
      by_cases hij : i = j
      · rw [if_pos hij] at hj
        split at hj
        · injection hj with hj; exact absurd hj.symm hqp
        · cases hj
      · rw [if_neg hij] at hj
        have hq2 := List.mem_of_getElem? hj
        refine (h.fr q hq2).setCell (p := ⟨gf, k * 3, none⟩) ?_ (fun h => h) _
        rcases h.ne j i q p hj hp (fun e => hij e.symm) with e | e
        · rw [e]; simp
        · rw [hv] at e; exact e
/-- the losses are a new row, their cell is set -/
theorem DX.putL {w1 : World} {vl' : Value} {nl' : Nat} {dl' : List D} (h : DX w B g vk vl by_ nl l) (hg : w.grownBy w1 vl.ownBlock) (hv : OL w1 B NoB 177 3 vl' nl' dl') :
    DX (w1.setCell ⟨g, 1, none⟩ vl') B g vk vl' by_ nl' l := by
  obtain ⟨dl, hlr⟩ := h.lr
  have r1 : ∀ {e size n : Nat} {v : Value} {ds : List D}, OL w B NoB e size v n ds → e ≠ 177 → OL w1 B NoB e size v n ds := fun ho hne => ho.kept hg (ho.ne hlr hne) (fun _ hb => hb.elim)
  have hbx1 := h.bx.grown hg (fun e => hlr.neBlk h.bx (by decide) e.symm)
  have hk1 := r1 h.kr (by decide)
  refine ⟨h.gB, hbx1.set_ 1 vl', hk1.setCell (p := ⟨g, 1, none⟩) (hk1.neBlk hbx1 (by decide)) (fun h => h) _, fun p hp => ?_, h.ne, dl', hv.setCell (p := ⟨g, 1, none⟩) (hv.neBlk hbx1 (by decide)) (fun h => h) _⟩
  have hf1 := r1 (h.fr p hp) (by decide)
  exact hf1.setCell (p := ⟨g, 1, none⟩) (hf1.neBlk hbx1 (by decide)) (fun h => h) _
/-- the kinds are a new row, their cell is set -/
theorem DX.putK {w1 : World} {vk' : Value} {l' : List (Kd × Value)} (h : DX w B g vk vl by_ nl l) (hg : w.grownBy w1 vk.ownBlock) (hv : OL w1 B NoB 111 3 vk' l'.length (l'.flatMap kcD))
    (hfr : ∀ p ∈ l', p ∈ l ∨ OL w1 B NoB 113 3 p.2 p.1.fs.length (p.1.fs.flatMap fdD)) (hne : ∀ (i j : Nat) (p q : Kd × Value), l'[i]? = some p → l'[j]? = some q → i ≠ j → p.2.ownBlock = none ∨ p.2.ownBlock ≠ q.2.ownBlock) :
    DX (w1.setCell ⟨g, 0, none⟩ vk') B g vk' vl by_ nl l' := by
  obtain ⟨dl, hlr⟩ := h.lr
  have r1 : ∀ {e size n : Nat} {v : Value} {ds : List D}, OL w B NoB e size v n ds → e ≠ 111 → OL w1 B NoB e size v n ds := fun ho hne => ho.kept hg (ho.ne h.kr hne) (fun _ hb => hb.elim)
  have hbx1 := h.bx.grown hg (fun e => h.kr.neBlk h.bx (by decide) e.symm)
  have hl1 := r1 hlr (by decide)
  refine ⟨h.gB, hbx1.set_ 0 vk', hv.setCell (p := ⟨g, 0, none⟩) (hv.neBlk hbx1 (by decide)) (fun h => h) _, fun p hp => ?_, hne, dl, hl1.setCell (p := ⟨g, 0, none⟩) (hl1.neBlk hbx1 (by decide)) (fun h => h) _⟩
  have hf1 : OL w1 B NoB 113 3 p.2 p.1.fs.length (p.1.fs.flatMap fdD) := by
    rcases hfr p hp with hq | hq
    · exact r1 (h.fr p hq) (by decide)
    · exact hq
  exact hf1.setCell (p := ⟨g, 0, none⟩) (hf1.neBlk hbx1 (by decide)) (fun h => h) _
/-- the number of the change is set -/
theorem DX.setB (h : DX w B g vk vl by_ nl l) (b2 : Int) : DX (w.setCell ⟨g, 2, none⟩ (.int .i64 b2)) B g vk vl b2 nl l := by
  obtain ⟨dl, hlr⟩ := h.lr
  exact ⟨h.gB, h.bx.set_ 2 _, h.kr.setCell (p := ⟨g, 2, none⟩) (h.kr.neBlk h.bx (by decide)) (fun h => h) _, fun p hp => (h.fr p hp).setCell (p := ⟨g, 2, none⟩) ((h.fr p hp).neBlk h.bx (by decide)) (fun h => h) _, h.ne, dl,
    hlr.setCell (p := ⟨g, 2, none⟩) (hlr.neBlk h.bx (by decide)) (fun h => h) _⟩
theorem DX.ne_erase (h : DX w B g vk vl by_ nl l) (i : Nat) : ∀ (a b : Nat) (x y : Kd × Value), (l.eraseIdx i)[a]? = some x → (l.eraseIdx i)[b]? = some y → a ≠ b → x.2.ownBlock = none ∨ x.2.ownBlock ≠ y.2.ownBlock := by
  intro a b x y hx hy hab
  rw [List.getElem?_eraseIdx] at hx hy
  split at hx <;> split at hy <;> exact h.ne _ _ x y hx hy (by omega)
theorem DX.ne_snoc (h : DX w B g vk vl by_ nl l) {p' : Kd × Value} (hv : ∀ q, p'.2.ownBlock = some q → w.heap.size ≤ q) : ∀ (a b : Nat) (x y : Kd × Value), (l ++ [p'])[a]? = some x → (l ++ [p'])[b]? = some y → a ≠ b → x.2.ownBlock = none ∨ x.2.ownBlock ≠ y.2.ownBlock := by
  have key : ∀ y ∈ l, p'.2.ownBlock = none ∨ p'.2.ownBlock ≠ y.2.ownBlock := fun y hy => by
    cases hq : p'.2.ownBlock with
    | none => exact .inl rfl
    | some q =>
      refine .inr fun he => ?_
      have := hv q hq
      have := ((h.fr y hy).lt q he.symm).2
      omega
  intro a b x y hx hy hab
  have get : ∀ {a : Nat} {x}, (l ++ [p'])[a]? = some x → (a < l.length ∧ l[a]? = some x) ∨ (a = l.length ∧ x = p') := fun {a x} hx => by
    by_cases ha : a < l.length
    · rw [List.getElem?_append_left ha] at hx; exact .inl ⟨ha, hx⟩
    · rw [List.getElem?_append_right (by omega)] at hx
      have := (List.getElem?_eq_some_iff.1 hx).1
      simp at this
      have e : a - l.length = 0 := by omega
      rw [e] at hx
      exact .inr ⟨by omega, by simpa using hx.symm⟩
  rcases get hx with ⟨h1, h2⟩ | ⟨h1, rfl⟩
  · rcases get hy with ⟨h3, h4⟩ | ⟨h3, rfl⟩
    · exact h.ne a b x y h2 h4 hab
    · exact ne_sym (key x (List.mem_of_getElem? h2))
  · rcases get hy with ⟨h3, h4⟩ | ⟨h3, rfl⟩
    · exact key y (List.mem_of_getElem? h4)
    · omega
end
end Go.Proofs.YtmadafejenjkcaaDoor
