/- Regions that draw their order, where the region itself writes a cell that it has read before: a load may be taken first although its cell is written later, if an operation that waits for it comes before the write. No conditions, no program. -/
import Derived.Test.YtmadafejenjkcaaDoorW
import Derived.Deep.RegionHeld
import Derived.RegionTactic
namespace Go.Proofs.YtmadafejenjkcaaDoor
open Go.RowKit Go.Deep
set_option linter.unusedVariables false

section
variable {P : Program} {ops : Array Oper} {Q : Exit → Act → World → Prop} {md : Region.Mode} {S : Array Bool → World → Prop}

/-- whatever comes up, S holds of what has come up and of the world behind it -/
def anyG (P : Program) (md : Region.Mode) (ops : Array Oper) (Q : Exit → Act → World → Prop) (S : Array Bool → World → Prop) : Nat → Array Bool → Act → World → Prop
  | 0, L, a, w => Region.ready md ops L = [] ∧ Q .normal a w
  | n + 1, L, a, w => (Region.ready md ops L = [] → Q .normal a w) ∧ ∀ i ∈ Region.ready md ops L, wpOp P ops Q i (fun a' w' => S (L.setIfInBounds i true) w' ∧ anyG P md ops Q S n (L.setIfInBounds i true) a' w') a w
theorem any_of_G : ∀ (n : Nat) (L : Array Bool) (a : Act) (w : World), anyG P md ops Q S n L a w → wpAny P md ops Q n L a w
  | 0, _, _, _, h => h
  | n + 1, _, _, _, h => ⟨h.1, fun i hi => wpOp_mono (fun a' w' h' => any_of_G n _ a' w' h'.2) (h.2 i hi)⟩
theorem yi_imp {S1 S2 : World → Prop} {o : Oper} {v : Value} {a : Act} (h : YieldsIf P ops S1 o v a) (hi : ∀ w, S2 w → S1 w) : YieldsIf P ops S2 o v a := by
  rcases h with ⟨h1, h2⟩ | h
  · exact .inl ⟨h1, fun w hw => h2 w (hi w hw)⟩
  · exact .inr h
/-- operation i is taken first -/
theorem G_first {i : Nat} {oi : Oper} {v : Value} {C : Array Bool → Prop} (hi : ops[i]? = some oi) (hsel : ∀ (j : Nat) (o : Oper) cs b, ops[j]? = some o → o.op ≠ .select cs b) (hQ : ∀ c a w, Q (.panic c) (a.put oi.dst v) w → Q (.panic c) a w)
    (hC : ∀ (L : Array Bool) (j : Nat), C L → j ≠ i → L.getD i true = false → j ∈ Region.ready md ops L → C (L.setIfInBounds j true)) (hSi : ∀ (L : Array Bool) (w : World), S (L.setIfInBounds i true) w → S L w) :
    ∀ (n : Nat) (L : Array Bool) (a : Act) (w : World), C L → (∀ j oj, ops[j]? = some oj → j ≠ i → L.getD j true = false → (∀ e ∈ oj.after, Region.binds md e = true → e.on ≠ i) → oi.apart ops oj = true) → i ∈ Region.ready md ops L →
      YieldsIf P ops (fun W => ∃ L', C L' ∧ S L' W) oi v a → S L w → anyG P md ops Q S n (L.setIfInBounds i true) (a.put oi.dst v) w → S (L.setIfInBounds i true) w → anyG P md ops Q S (n + 1) L a w := by
  intro n
  induction n with
  | zero =>
    intro L a w hCL _ hr hy hS H hS2
    refine ⟨(fun h => by rw [h] at hr; cases hr), fun j hj => ?_⟩
    by_cases hji : j = i
    · subst hji; exact hy.wpOp hi ⟨L, hCL, hS⟩ ⟨hS2, H⟩
    · have := ready_mono hj hji
      rw [H.1] at this
      cases this
  | succ n ih =>
    intro L a w hCL hfree hr hy hS H hS2
    refine ⟨(fun h => by rw [h] at hr; cases hr), fun j hj => ?_⟩
    by_cases hji : j = i
    · subst hji; exact hy.wpOp hi ⟨L, hCL, hS⟩ ⟨hS2, H⟩
    · have hiL := (mem_ready.1 hr).1
      obtain ⟨hjL, oj, hoj, hall⟩ := mem_ready.1 hj
      have hnot : ∀ e ∈ oj.after, Region.binds md e = true → e.on ≠ i := fun e he hb heq => by
        have h1 := hall e he hb
        rw [heq] at h1
        rcases Nat.lt_or_ge i L.size with h' | h'
        · simp [h'] at hiL h1; rw [hiL] at h1; cases h1
        · simp [Array.getElem?_eq_none h'] at h1
      have h2 := wpOp_putIf hoj (hfree j oj hoj hji hjL hnot) (fun cs b => hsel i oi cs b hi) (fun cs b => hsel j oj cs b hoj) hQ hy (H.2 j (ready_mono hj hji))
      refine wpOp_mono (fun a' w' h3 => ?_) h2
      obtain ⟨hy', hS3, hG3⟩ := h3
      rw [Array.setIfInBounds_comm _ _ (Ne.symm hji)] at hS3 hG3
      refine ⟨hSi _ _ hS3, ih (L.setIfInBounds j true) a' w' (hC L j hCL hji hiL hj) (fun k ok hk hki hun hno => ?_) (ready_mono hr (Ne.symm hji)) hy' (hSi _ _ hS3) hG3 hS3⟩
      refine hfree k ok hk hki ?_ hno
      by_cases hjk : j = k
      · subst hjk; exact hjL
      · rw [getD_set_ne true hjk] at hun; exact hun
end

section
variable {P : Program} {ops : Array Oper} {Q : Exit → Act → World → Prop} {md : Region.Mode} {S0 S1 : World → Prop} {p : Nat}
/-- S0 holds throughout; S1 till operation p has come up -/
def SG (p : Nat) (S0 S1 : World → Prop) (L : Array Bool) (w : World) : Prop := S0 w ∧ (L.getD p true = false → S1 w)
theorem SG.back {i : Nat} (hip : i ≠ p) {L : Array Bool} {w : World} (h : SG p S0 S1 (L.setIfInBounds i true) w) : SG p S0 S1 L w := ⟨h.1, fun hl => h.2 (by rw [getD_set_ne true hip]; exact hl)⟩
theorem SG.fwd {i : Nat} {L : Array Bool} {w : World} (hip : i ≠ p) (h : SG p S0 S1 L w) : SG p S0 S1 (L.setIfInBounds i true) w := ⟨h.1, fun hl => h.2 (by rw [getD_set_ne true hip] at hl; exact hl)⟩
theorem G_take0 {i : Nat} {oi : Oper} {v : Value} {n : Nat} {L : Array Bool} {a : Act} {w : World} (hi : ops[i]? = some oi) (hip : i ≠ p) (hs : Region.noSelect ops = true) (hf : Region.free md ops L i = true) (hr : (Region.ready md ops L).contains i = true)
    (hQ : ∀ c a w, Q (.panic c) (a.put oi.dst v) w → Q (.panic c) a w) (hS : S0 w ∧ S1 w) (hy : YieldsIf P ops S0 oi v a) (h : anyG P md ops Q (SG p S0 S1) n (L.setIfInBounds i true) (a.put oi.dst v) w) : anyG P md ops Q (SG p S0 S1) (n + 1) L a w :=
  G_first (C := fun _ => True) hi (Region.noSelect_spec hs) hQ (fun _ _ _ _ _ _ => trivial) (fun L w h => h.back hip) n L a w trivial (Region.free_spec hi hf) (by simpa using hr) (yi_imp hy fun w ⟨_, _, h⟩ => h.1) ⟨hS.1, fun _ => hS.2⟩ h ⟨hS.1, fun _ => hS.2⟩
theorem G_take1 {i : Nat} {oi op : Oper} {v : Value} {n : Nat} {L : Array Bool} {a : Act} {w : World} (hi : ops[i]? = some oi) (hip : i ≠ p) (hs : Region.noSelect ops = true) (hf : Region.free md ops L i = true) (hr : (Region.ready md ops L).contains i = true)
    (hop : ops[p]? = some op) (hw : (op.after.toList.any fun e => Region.binds md e && e.on == i) = true) (hLp : L.getD p true = false)
    (hQ : ∀ c a w, Q (.panic c) (a.put oi.dst v) w → Q (.panic c) a w) (hS : S0 w ∧ S1 w) (hy : YieldsIf P ops (fun w => S0 w ∧ S1 w) oi v a) (h : anyG P md ops Q (SG p S0 S1) n (L.setIfInBounds i true) (a.put oi.dst v) w) : anyG P md ops Q (SG p S0 S1) (n + 1) L a w :=
  G_first (C := fun L => L.getD p true = false) hi (Region.noSelect_spec hs) hQ
    (fun L j hL hji hiL hj => by
      by_cases hjp : j = p
      · exfalso
        subst hjp
        obtain ⟨_, o, ho, hall⟩ := mem_ready.1 hj
        rw [hop] at ho; injection ho with ho; subst ho
        obtain ⟨e, he, hb⟩ := List.any_eq_true.1 hw
        simp only [Bool.and_eq_true, beq_iff_eq] at hb
        have h1 := hall e (by simpa using he) hb.1
        rw [hb.2] at h1
        rcases Nat.lt_or_ge i L.size with h' | h'
        · simp [h'] at hiL h1; rw [hiL] at h1; cases h1
        · simp [Array.getElem?_eq_none h'] at h1
      · show (L.setIfInBounds j true).getD p true = false
        rw [getD_set_ne true hjp]; exact hL)
    (fun L w h => h.back hip) n L a w hLp (Region.free_spec hi hf) (by simpa using hr) (yi_imp hy fun w ⟨_, hc, h⟩ => ⟨h.1, h.2 hc⟩) ⟨hS.1, fun _ => hS.2⟩ h ⟨hS.1, fun _ => hS.2⟩
/-- the only operation that may come up is carried out -/
theorem G_step {k : Nat} {o : Oper} {n : Nat} {L : Array Bool} {a : Act} {w : World} (hr : Region.ready md ops L = [k]) (ho : ops[k]? = some o)
    (h : ∀ K' : Act → World → Prop, Hid (∀ a w', SG p S0 S1 (L.setIfInBounds k true) w' → anyG P md ops Q (SG p S0 S1) n (L.setIfInBounds k true) a w' → K' a w') → if Region.wanted o (yielded ops a.tmps) = true then Oper.wp P o a w K' Q else K' (a.put o.dst undef) w) : anyG P md ops Q (SG p S0 S1) (n + 1) L a w := by
  refine ⟨(fun h0 => by rw [h0] at hr; cases hr), fun i hi => ?_⟩
  rw [hr] at hi
  rcases List.mem_singleton.1 hi with rfl
  exact wpOp_step ho fun K' hK => h K' (Lib.hid fun a w' h1 h2 => hK a w' ⟨h1, h2⟩)
theorem G_done {L : Array Bool} {a : Act} {w : World} {S : Array Bool → World → Prop} (hr : Region.ready md ops L = []) (h : Q .normal a w) : ∀ n, anyG P md ops Q S n L a w
  | 0 => ⟨hr, h⟩
  | _ + 1 => ⟨fun _ => h, by rw [hr]; simp⟩
theorem G_region {id : Nat} {a : Act} {w : World} (hm : P.follows .mixedOrders = true) (h : anyG P .any ops Q (SG p S0 S1) ops.size (Array.replicate ops.size false) a w.drew) : (Code.region id ops true).wp P Q a w :=
  wp_region_any hm (any_of_G _ _ _ _ h)
end
end Go.Proofs.YtmadafejenjkcaaDoor
