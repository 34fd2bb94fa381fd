/- LagSteps: the law's state. -/
import Derived.Test.YtfnejelbacpheaaStLaw1
import Derived.Deep.CutBlock
import Derived.Deep.DeepCutAuto
namespace Go.Proofs.Ytfnejelbacpheaa
open Go.RowKit Go.Deep
set_option linter.unusedVariables false
namespace stW
open lagW
theorem steps_k (n : Int) (A : Option Addr) (c : Nat) (F : Nat → Prop) (l : List Ev) (w : World) (hl : l.length ≤ 1048576) (hF : ∀ b, F b → b < w.heap.size) (r : Rd w F (.slice A l.length c) (.sl l.length (l.flatMap evD))) :
    Calls Try.prog 25 #[.int .i64 n, .slice A l.length c] w (StPost n l w) := by
  by_cases h : n < 0
  · exact steps_bad n A c l w (.inl h)
  · by_cases h2 : 1099511627776 < n
    · exact steps_bad n A c l w (.inr ⟨by omega, h2⟩)
    · exact steps_ok n A c F l w hl (by omega) (by omega) hF r
theorem rsteps_k (n : Int) (A : Option Addr) (c : Nat) (F : Nat → Prop) (l : List Ev) (w : World) (hl : l.length ≤ 1048576) (hF : ∀ b, F b → b < w.heap.size) (r : Rd w F (.slice A l.length c) (.sl l.length (l.flatMap evD))) :
    Calls Try.prog 26 #[.int .i64 n, .slice A l.length c] w (StPost n l w) := by
  by_cases h : n < 0
  · exact rsteps_bad n A c l w (.inl h)
  · by_cases h2 : 1099511627776 < n
    · exact rsteps_bad n A c l w (.inr ⟨by omega, h2⟩)
    · exact rsteps_ok n A c F l w hl (by omega) (by omega) hF r
theorem StPost.opn {n : Int} {l : List Ev} {w w' : World} {e : Ending} (h : StPost n l w e w') : ∃ (U : Option Addr) (cu : Nat) (S : List St) (code : Int), e = .returned (.tuple #[.slice U S.length cu, .int .i64 code]) ∧ StepsIs n l S code ∧ OL w' w.heap.size (fun _ => False) 65 13 (.slice U S.length cu) S.length (S.flatMap stD) ∧ Below w.heap.size w w' := by
  obtain ⟨v, S, code, h1, h2, h3, h4⟩ := h
  obtain ⟨U, cu, rfl⟩ := h3.form
  exact ⟨U, cu, S, code, h1, h2, h3, h4⟩
theorem _root_.Go.Proofs.Ytfnejelbacpheaa.StepsIs.len {n : Int} {l : List Ev} {S : List St} {c : Int} (h : StepsIs n l S c) : S.length ≤ 2 * l.length := by
  rcases h with ⟨_, rfl, _⟩ | ⟨_, rfl, _⟩
  · simp
  · exact stepsTo_len _ _ _

theorem aggSt' (x : St) : AggT Try.prog 65 (stV x).length := aggSt
theorem oneSt (x : St) : (stV x).all (·.oneCell') = true := rfl
/-- the state of the law: the copy, the answers -/
structure Q (w W : World) (s2 s3 s4 : Nat) (vw v7 v9 va vm : Value) (l : List Ev) (n7 n9 : Nat) (S S7 S9 : List St) : Prop where
  hb : Below w.heap.size w W
  rw : Rd W (fun b => b < s2) vw (.sl l.length (l.flatMap evD))
  ol : OL W s2 (fun _ => False) 65 13 v7 n7 (S7.flatMap stD)
  ll : ∀ q, v7.ownBlock = some q → q < s3
  oh : OL W s3 (fun _ => False) 65 13 v9 n9 (S9.flatMap stD)
  lh : ∀ q, v9.ownBlock = some q → q < s4
  ra : Rd W (fun b => s4 ≤ b) va (.sl S.length (S.flatMap stD))
  rm : Rd W (fun b => s4 ≤ b) vm (.sl S.length (S.flatMap stD))
  h1 : w.heap.size ≤ s2
  h2 : s2 ≤ s3
  h3 : s3 ≤ s4
  h4 : s4 ≤ W.heap.size
theorem Q.stay {w W W2 : World} {s2 s3 s4 : Nat} {vw v7 v9 va vm : Value} {l : List Ev} {n7 n9 : Nat} {S S7 S9 : List St} (h : Q w W s2 s3 s4 vw v7 v9 va vm l n7 n9 S S7 S9) (hb : Below W.heap.size W W2) : Q w W2 s2 s3 s4 vw v7 v9 va vm l n7 n9 S S7 S9 :=
  ⟨h.hb.trans (hb.mono h.hb.size), h.rw.stay hb, h.ol.stay hb, h.ll, h.oh.stay hb, h.lh, h.ra.stay hb, h.rm.stay hb, h.h1, h.h2, h.h3, Nat.le_trans h.h4 hb.size⟩

theorem Q.put7 {w W : World} {s2 s3 s4 g c7 : Nat} {vw v9 va vm : Value} {l : List Ev} {n9 : Nat} {S S7 S9 : List St} (h : Q w W s2 s3 s4 vw (.slice (some ⟨g, 0, none⟩) S7.length c7) v9 va vm l S7.length n9 S S7 S9) (k : Nat) (hk : k < S7.length) (x : St) :
    Q w (W.setCells g (k * 13) (stV x)) s2 s3 s4 vw (.slice (some ⟨g, 0, none⟩) S7.length c7) v9 va vm l S7.length n9 S (S7.set k x) S9 := by
  have hg := setCells_grown g (stV x) (k * 13) W
  have hl := h.ll g rfl
  have h2 := (h.ol.lt g rfl).1
  have := h.h1; have := h.h2; have := h.h3; have := h.h4
  refine ⟨h.hb.grown hg h.hb.size (fun q hq => by injection hq with hq; omega), h.rw.grown hg (fun b hb e => by injection e with e; omega), ?_, h.ll, h.oh.kept hg (.inr fun e => by have := (h.oh.lt g e).1; omega) (fun _ h => h.elim), h.lh, h.ra.grown hg (fun b hb e => by injection e with e; omega), h.rm.grown hg (fun b hb e => by injection e with e; omega), h.h1, h.h2, h.h3, Nat.le_trans h.h4 hg.size⟩
  have := OL.setCells (stV x) (stD x) (k * 13) W _ h.ol (fun w' => stD_rd w' _ x)
  rwa [setL_st _ _ _ hk] at this
theorem Q.put9 {w W : World} {s2 s3 s4 g c9 : Nat} {vw v7 va vm : Value} {l : List Ev} {n7 : Nat} {S S7 S9 : List St} (h : Q w W s2 s3 s4 vw v7 (.slice (some ⟨g, 0, none⟩) S9.length c9) va vm l n7 S9.length S S7 S9) (k : Nat) (hk : k < S9.length) (x : St) :
    Q w (W.setCells g (k * 13) (stV x)) s2 s3 s4 vw v7 (.slice (some ⟨g, 0, none⟩) S9.length c9) va vm l n7 S9.length S S7 (S9.set k x) := by
  have hg := setCells_grown g (stV x) (k * 13) W
  have hl := h.lh g rfl
  have h2 := (h.oh.lt g rfl).1
  have := h.h1; have := h.h2; have := h.h3; have := h.h4
  refine ⟨h.hb.grown hg h.hb.size (fun q hq => by injection hq with hq; omega), h.rw.grown hg (fun b hb e => by injection e with e; omega), h.ol.kept hg (.inr fun e => by have := h.ll g e; omega) (fun _ h => h.elim), h.ll, ?_, h.lh, h.ra.grown hg (fun b hb e => by injection e with e; omega), h.rm.grown hg (fun b hb e => by injection e with e; omega), h.h1, h.h2, h.h3, Nat.le_trans h.h4 hg.size⟩
  have := OL.setCells (stV x) (stD x) (k * 13) W _ h.oh (fun w' => stD_rd w' _ x)
  rwa [setL_st _ _ _ hk] at this
theorem row_cells {w : World} {B n cap : Nat} {F : Nat → Prop} {S : List St} {U : Option Addr} (h : OL w B F 65 13 (.slice U n cap) n (S.flatMap stD)) (hn : S.length = n) {k : Nat} (hk : k < n) :
    ∃ g, U = some ⟨g, 0, none⟩ ∧ ∀ j, j < 13 → (∃ u, w.cell? ⟨g, k * 13 + j, none⟩ = some u) ∧ w.frozen? ⟨g, k * 13 + j, none⟩ = false := by
  obtain ⟨g, cap', e, hB, hg, hf, hc⟩ := h.row (by omega)
  injection e with e1 _ e2
  refine ⟨g, e1, fun j hj => ⟨?_, hf _⟩⟩
  obtain ⟨x, hx⟩ := getx (l := S) (i := k) (by omega)
  obtain ⟨d, hd⟩ := getx (l := stD x) (i := j) (by show j < 13; exact hj)
  obtain ⟨u, hu, _⟩ := hc (k * 13 + j) d (flatMap_get (f := stD) (m := 13) (fun _ => rfl) hx hd)
  exact ⟨u, hu⟩


/-- the state behind the append -/
structure Q2 (w W : World) (s3 s4 : Nat) (vw : Value) (U7 : Option Addr) (g' : Nat) (v9 va vm : Value) (l : List Ev) (n9 : Nat) (S S9 : List St) : Prop where
  hb : Below w.heap.size w W
  rw : Rd W (fun b => b < s3) vw (.sl l.length (l.flatMap evD))
  oh : OL W s3 (fun _ => False) 65 13 v9 n9 (S9.flatMap stD)
  lh : ∀ q, v9.ownBlock = some q → q < s4
  ra : Rd W (fun b => s4 ≤ b) va (.sl S.length (S.flatMap stD))
  rm : Rd W (fun b => s4 ≤ b) vm (.sl S.length (S.flatMap stD))
  c7 : ∀ i, i < S.length → ∃ g, U7 = some ⟨g, 0, none⟩ ∧ g < s3 ∧ W.cell? ⟨g, i * 13 + 1, none⟩ = some (.int .i64 771)
  c8 : ∀ i, i < S.length → (g' < s3 ∨ s4 ≤ g') ∧ W.cell? ⟨g', i * 13 + 1, none⟩ = some (.int .i64 771)
  h2 : w.heap.size ≤ s3
  h3 : s3 ≤ s4
  h4 : s4 ≤ W.heap.size
theorem grown_cell {w w' : World} {g b j : Nat} {u : Value} (hg : w.grownBy w' (some g)) (hb : b ≠ g) (hc : w.cell? ⟨b, j, none⟩ = some u) : w'.cell? ⟨b, j, none⟩ = some u :=
  (World.cell?_of_block (w := w) (hg.block b (World.block_lt_of_cell? w _ hc) (fun e => hb (by injection e)))).trans hc
theorem rdl_app {w : World} {G : Nat → Prop} : ∀ {a : List Value} {b : List D} {c : List Value} {d : List D}, RdL w G a b → RdL w G c d → RdL w G (a ++ c) (b ++ d)
  | [], [], _, _, _, h => h
  | [], _ :: _, _, _, h, _ => h.elim
  | _ :: _, [], _, _, h, _ => h.elim
  | _ :: _, _ :: _, _, _, h, h' => ⟨h.1, rdl_app h.2 h'⟩
theorem Q2.put9 {w W : World} {s3 s4 g c9 g' : Nat} {vw va vm : Value} {U7 : Option Addr} {l : List Ev} {S S9 : List St} (h : Q2 w W s3 s4 vw U7 g' (.slice (some ⟨g, 0, none⟩) S9.length c9) va vm l S9.length S S9) (k : Nat) (hk : k < S9.length) (x : St) :
    Q2 w (W.setCells g (k * 13) (stV x)) s3 s4 vw U7 g' (.slice (some ⟨g, 0, none⟩) S9.length c9) va vm l S9.length S (S9.set k x) := by
  have hg := setCells_grown g (stV x) (k * 13) W
  have hl := h.lh g rfl
  have h2 := (h.oh.lt g rfl).1
  have := h.h2; have := h.h3; have := h.h4
  have hce : ∀ b j u, b ≠ g → W.cell? ⟨b, j, none⟩ = some u → (W.setCells g (k * 13) (stV x)).cell? ⟨b, j, none⟩ = some u := fun b j u hb hc => grown_cell hg hb hc
  refine ⟨h.hb.grown hg h.hb.size (fun q hq => by injection hq with hq; omega), h.rw.grown hg (fun b hb e => by injection e with e; omega), ?_, h.lh, h.ra.grown hg (fun b hb e => by injection e with e; omega), h.rm.grown hg (fun b hb e => by injection e with e; omega), fun i hi => ?_, fun i hi => ?_, h.h2, h.h3, Nat.le_trans h.h4 hg.size⟩
  · have := OL.setCells (stV x) (stD x) (k * 13) W _ h.oh (fun w' => stD_rd w' _ x)
    rwa [setL_st _ _ _ hk] at this
  · obtain ⟨q, e, hq, hc⟩ := h.c7 i hi
    exact ⟨q, e, hq, hce _ _ _ (by omega) hc⟩
  · obtain ⟨hq, hc⟩ := h.c8 i hi
    exact ⟨hq, hce _ _ _ (by omega) hc⟩

theorem wpList_long {w W : World} {ops : Array Oper} {rest : List Oper} {o : Oper} {a : Act} {K : Exit → Act → World → Prop} (hgd : o.guard = none) (s x : Operand) (ho : o.op = .call { callee := .builtin .append, args := #[s, x], argTypes := #[60, 60] })
    {s2 s3 s4 c7 c ty n9 : Nat} {vw v9 va vm : Value} {U7 : Option Addr} {l : List Ev} {S S7 S9 : List St} {y : St} (hQ : Q w W s2 s3 s4 vw (.slice U7 S.length c7) v9 va vm l S.length n9 S S7 S9) (hn7 : S7.length = S.length) (h7 : ∀ i, i < S.length → S7[i]? = some ⟨true, 771, evZ⟩)
    (hl : S.length ≤ 2097152) (hs : a.eval s = .slice U7 S.length c7) (hx : a.eval x = .slice (some ⟨W.heap.size, 0, none⟩) 2 c)
    (h : ∀ g' cap' W', Q2 w W' s3 s4 vw U7 g' v9 va vm l n9 S S9 → wpList Try.prog ops K rest (a.put o.dst (.slice (some ⟨g', 0, none⟩) (S.length + 2) cap')) W') :
    wpList Try.prog ops K (o :: rest) a (W.alloc (.cells ⟨stV y ++ stV y⟩ ty)) := by
  have hO := hQ.ol.alloc (.cells ⟨stV y ++ stV y⟩ ty)
  have hQa := hQ.stay ((Below.refl W.heap.size W).alloc (Nat.le_refl _) (.cells ⟨stV y ++ stV y⟩ ty))
  have h1 := hQ.h1; have h2 := hQ.h2; have h3 := hQ.h3; have h4 := hQ.h4
  have hrd : RdL W (fun _ => False) (stV y ++ stV y) (stD y ++ stD y) := rdl_app (stD_rd W _ y) (stD_rd W _ y)
  have key : ∀ g' W', (W.alloc (.cells ⟨stV y ++ stV y⟩ ty)).grownBy W' (Value.slice U7 S.length c7).ownBlock → 
      (∀ i, i < S.length → ∃ g, U7 = some ⟨g, 0, none⟩ ∧ g < s3 ∧ W'.cell? ⟨g, i * 13 + 1, none⟩ = some (.int .i64 771)) → (∀ i, i < S.length → (g' < s3 ∨ s4 ≤ g') ∧ W'.cell? ⟨g', i * 13 + 1, none⟩ = some (.int .i64 771)) →
      Q2 w W' s3 s4 vw U7 g' v9 va vm l n9 S S9 := fun g' W' hg k7 k8 => by
    have hr : ∀ q, (Value.slice U7 S.length c7).ownBlock = some q → s2 ≤ q ∧ q < s3 := fun q e => ⟨(hQ.ol.lt q e).1, hQ.ll q e⟩
    refine ⟨hQa.hb.grown hg hQa.hb.size (fun q hq => by have := hr q hq; omega), (hQa.rw.grown hg (fun b hb e => by have := hr b e.symm; omega)).mono fun b hb _ => by omega, hQa.oh.kept hg ?_ (fun _ h => h.elim), hQa.lh,
      hQa.ra.grown hg (fun b hb e => by have := hr b e.symm; omega), hQa.rm.grown hg (fun b hb e => by have := hr b e.symm; omega), k7, k8, by omega, h3, Nat.le_trans hQa.h4 hg.size⟩
    rcases e : v9.ownBlock with _ | q
    · exact .inl rfl
    · refine .inr fun e' => ?_
      have := hQ.oh.lt q e
      have := hr q e'.symm
      omega
  by_cases h0 : S.length = 0
  · refine wpList_app hgd s x _ ho (m := 2) (news := stD y ++ stD y) elSt hO hs hx (Src.lit (hrd.imp fun u d h => ?_)) rfl (by omega) (by omega) (by simp; omega) ?_
    · exact h.mono fun _ h _ => h.elim
    · intro v' w1 hO1 hg1 ha1
      obtain ⟨g, cap, rfl, -⟩ := hO1.row (by omega)
      exact h _ _ _ (key g w1 hg1 (fun i hi => by omega) (fun i hi => by omega))
  · obtain ⟨g, cap, e, hB, hg, hf, -⟩ := hO.row (by omega)
    injection e with e1 _ e2
    subst e1
    obtain ⟨cells, hown, hlen, hc⟩ := hO
    have hcell : ∀ i, i < S.length → cells[i * 13 + 1]? = some (.int .i64 771) := fun i hi => by
      obtain ⟨u, hu, hx⟩ := hc (i * 13 + 1) (.v (.int .i64 771)) (flatMap_get (f := stD) (m := 13) (fun _ => rfl) (h7 i hi) rfl)
      rw [hu, hx.v_inv]
    have hlt := hQ.ll g rfl
    refine wpList_append_keep hgd s x _ ho elSt (news := stV y ++ stV y) (m := 2) hs hx hown rfl (fun j u hj => ?_) (fun u hu => ?_) (by omega) (by omega) (by omega) ?_
    · rw [addr_add0]
      exact (Blk.new W ty (stV y ++ stV y)).cell j ▸ hj
    · obtain ⟨j, hj⟩ := List.getElem?_of_mem hu
      have : (stV y ++ stV y).all (·.oneCell') = true := rfl
      exact List.all_eq_true.1 this u hu
    · intro g' cap' w1 hg1 ha1 hk1 hk2
      refine h _ _ _ (key g' w1 hg1 (fun i hi => ⟨g, rfl, hlt, hk1 _ _ (hcell i hi)⟩) (fun i hi => ⟨?_, hk2 _ _ ?_⟩))
      · rcases ha1 with rfl | rfl
        · exact .inl hlt
        · right; simp; omega
      · rw [List.getElem?_append_left (List.getElem?_eq_some_iff.1 (hcell i hi)).1]; exact hcell i hi

/-- the state behind the third loop -/
structure R3 (w W : World) (vw va vm : Value) (l : List Ev) (S : List St) : Prop where
  hb : Below w.heap.size w W
  rw : Rd W (fun b => b < W.heap.size) vw (.sl l.length (l.flatMap evD))
  ra : Rd W (fun b => b < W.heap.size) va (.sl S.length (S.flatMap stD))
  rm : Rd W (fun b => b < W.heap.size) vm (.sl S.length (S.flatMap stD))
theorem R3.stay {w W W2 : World} {vw va vm : Value} {l : List Ev} {S : List St} (h : R3 w W vw va vm l S) (hb : Below W.heap.size W W2) : R3 w W2 vw va vm l S :=
  ⟨h.hb.trans (hb.mono h.hb.size), (h.rw.stay hb).mono fun b _ h => h, (h.ra.stay hb).mono fun b _ h => h, (h.rm.stay hb).mono fun b _ h => h⟩
theorem Q2.r3 {w W : World} {s3 s4 g' n9 : Nat} {vw v9 va vm : Value} {U7 : Option Addr} {l : List Ev} {S S9 : List St} (h : Q2 w W s3 s4 vw U7 g' v9 va vm l n9 S S9) : R3 w W vw va vm l S :=
  ⟨h.hb, h.rw.mono fun b _ h => h, h.ra.mono fun b _ h => h, h.rm.mono fun b _ h => h⟩

theorem ev_set (l : List Ev) : ∀ (k : Nat) (e : Ev) (t : Int), l[k]? = some e → (l.flatMap evD).set (k * 11) (.v (.int .i64 t)) = (l.set k { e with ts := t }).flatMap evD := by
  induction l with
  | nil => intro k e t h; simp at h
  | cons a l ih =>
    intro k e t h
    cases k with
    | zero =>
      simp only [List.getElem?_cons_zero, Option.some.injEq] at h
      subst h
      rfl
    | succ k =>
      simp only [List.getElem?_cons_succ] at h
      rw [List.set_cons_succ, List.flatMap_cons, List.flatMap_cons, ← ih k e t h, List.set_append, show (evD a).length = 11 from rfl, if_neg (by omega), show (k + 1) * 11 - 11 = k * 11 by omega]
/-- one timestamp of a row of one's own is written -/
theorem put_ts {w W : World} {B g c : Nat} {L : List Ev} {m : Nat} (h : OL W B (fun _ => False) 38 11 (.slice (some ⟨g, 0, none⟩) m c) m (L.flatMap evD)) (hb : Below w.heap.size w W) (hB : w.heap.size ≤ B) {k : Nat} {e : Ev} (he : L[k]? = some e) (t : Int) :
    OL (W.setCell ⟨g, k * 11, none⟩ (.int .i64 t)) B (fun _ => False) 38 11 (.slice (some ⟨g, 0, none⟩) m c) m ((L.set k { e with ts := t }).flatMap evD) ∧ Below w.heap.size w (W.setCell ⟨g, k * 11, none⟩ (.int .i64 t)) := by
  rw [← ev_set L k e t he]
  refine ⟨h.set (evD_rd W _ ⟨t, 0, 0, 0, 0, 0, 0, 0, 0, 0, 0⟩).1, ?_⟩
  exact hb.setCell (Nat.le_trans hB (h.lt g rfl).1) _
end stW
end Go.Proofs.Ytfnejelbacpheaa
