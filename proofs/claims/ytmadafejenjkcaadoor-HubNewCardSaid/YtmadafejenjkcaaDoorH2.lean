/- The reader's state keeps its bounds; runes beyond ASCII lie whole in a comment; the reader's four small functions. -/
import Derived.Test.YtmadafejenjkcaaDoorH0
import Derived.Test.YtmadafejenjkcaaDoorH1
import Derived.Laws.RangeAny
import Derived.Lib.OthersKept
namespace Go.Proofs.YtmadafejenjkcaaDoor
open Go.RowKit Go.Deep
set_option linter.unusedVariables false
set_option linter.unusedSimpArgs false

structure RsOk (s : Rs) : Prop where
  n16 : s.ts.length ≤ 16
  n15 : s.want = 1 → s.ts.length ≤ 15
  ne : s.want ≠ 0 → s.want ≠ 1 → s.ts ≠ []
  a8 : ∀ t ∈ s.ts, t.attrs.length ≤ 8
  w5 : s.want ≤ 5
theorem RsOk.zero : RsOk ⟨0, []⟩ := ⟨by simp, by simp, by simp, by simp, by simp⟩
theorem stepM_ok {s : Rs} {c : Nat} (h : RsOk s) (h0 : (stepM s c).1 = 0) : RsOk (stepM s c).2 := by
  unfold stepM at h0 ⊢
  split
  · rename_i hc
    exact ⟨h.n16, by simp, fun _ _ => h.ne (by omega) (by omega), h.a8, by simp⟩
  · split
    · exact ⟨h.n16, by simp, by simp, h.a8, by simp⟩
    · split
      · rename_i hc
        exact ⟨h.n16, by simp, fun _ _ => h.ne (by omega) (by omega), h.a8, by simp⟩
      · exact h
theorem snoc_of {α : Type} {l : List α} (h : l ≠ []) : ∃ l0 t, l = l0 ++ [t] := ⟨l.dropLast, l.getLast h, (List.dropLast_concat_getLast h).symm⟩
theorem stepW_ok {s : Rs} {w : ByteArray} (h : RsOk s) (h0 : (stepW s w).1 = 0) : RsOk (stepW s w).2 := by
  obtain ⟨wt, ts⟩ := s
  unfold stepW at h0 ⊢
  simp only at h0 ⊢
  split
  · rename_i hw
    simp only [hw, if_true] at h0
    split
    · exact h
    · split
      · exact h
      · rename_i h1 h2
        have := h.n16
        simp only at this
        exact ⟨h.n16, fun _ => by show ts.length ≤ 15; omega, by simp, h.a8, by simp⟩
  · split
    · rename_i hw0 hw1
      have := h.n15 hw1
      refine ⟨by simpa using this, by simp, by simp, fun t ht => ?_, by simp⟩
      rcases List.mem_append.1 ht with ht | ht
      · exact h.a8 t ht
      · simp at ht; subst ht; simp
    · split
      · rename_i hw0 hw1 hw3
        simp only [hw0, hw1, hw3, if_false, if_true] at h0
        obtain ⟨l0, t, rfl⟩ := snoc_of (h.ne hw0 hw1)
        rw [lastA_snoc] at h0
        have ha := h.a8 t (by simp)
        have hn : t.attrs.length ≠ 8 := fun e => by
          unfold attrC at h0
          rw [e] at h0
          split at h0 <;> simp at h0
        rw [addA_snoc]
        refine ⟨by simpa using h.n16, by simp, by simp, fun t' ht => ?_, by simp⟩
        rcases List.mem_append.1 ht with ht | ht
        · exact h.a8 t' (by simp [ht])
        · simp at ht; subst ht; simp; omega
      · exact h
theorem step_ok {T : ByteArray} {s : Rs} {p : Pc} (h : RsOk s) (h0 : (step T s p).1 = 0) : RsOk (step T s p).2 := by
  unfold step at h0 ⊢
  split
  · rename_i hw
    rw [if_pos hw] at h0
    exact stepW_ok h h0
  · rename_i hw
    rw [if_neg hw] at h0
    exact stepM_ok h h0

/-- the bytes of a rune beyond ASCII -/
theorem decode_cont (s : ByteArray) (p : Nat) (h : p < s.size) (ha : 128 ≤ (s[p]'h).toNat) : ∀ i, p ≤ i → i < p + (Utf8.decode s p).2 → ∃ h : i < s.size, 128 ≤ (s[i]'h).toNat := by
  have hget : ∀ k, p + k < s.size → (s.get! (p + k)).toNat / 64 = 2 → ∃ h : p + k < s.size, 128 ≤ (s[p + k]'h).toNat := fun k hk hd => by
    refine ⟨hk, ?_⟩
    have e : s.get! (p + k) = s[p + k]'hk := by
      simp [ByteArray.get!, getElem!_pos, hk]
      rfl
    rw [e] at hd
    omega
  have one : ∀ i, p ≤ i → i < p + 1 → ∃ h : i < s.size, 128 ≤ (s[i]'h).toNat := fun i h1 h2 => by
    obtain rfl : i = p := by omega
    exact ⟨h, ha⟩
  have hn : ¬ (s[p]'h).toNat < 128 := by omega
  simp only [Utf8.decode, get_at s p h, hn, if_false]
  split
  · rename_i hc
    simp only [Bool.and_eq_true, decide_eq_true_eq, beq_iff_eq] at hc
    split
    · intro i h1 h2
      by_cases e : i = p
      · subst e; exact ⟨h, ha⟩
      · obtain rfl : i = p + 1 := by omega
        exact hget 1 hc.2.1 hc.2.2
    · exact one
  · split
    · rename_i hc
      simp only [Bool.and_eq_true, decide_eq_true_eq, beq_iff_eq] at hc
      split
      · intro i h1 h2
        by_cases e : i = p
        · subst e; exact ⟨h, ha⟩
        · by_cases e1 : i = p + 1
          · subst e1; exact hget 1 hc.1.2.1 hc.1.2.2
          · obtain rfl : i = p + 2 := by omega
            exact hget 2 hc.2.1 hc.2.2
      · exact one
    · split
      · rename_i hc
        simp only [Bool.and_eq_true, decide_eq_true_eq, beq_iff_eq] at hc
        split
        · intro i h1 h2
          by_cases e : i = p
          · subst e; exact ⟨h, ha⟩
          · by_cases e1 : i = p + 1
            · subst e1; exact hget 1 hc.1.1.2.1 hc.1.1.2.2
            · by_cases e2 : i = p + 2
              · subst e2; exact hget 2 hc.1.2.1 hc.1.2.2
              · obtain rfl : i = p + 3 := by omega
                exact hget 3 hc.2.1 hc.2.2
        · exact one
      · exact one

theorem placeI_nn {l : List Td} {s : ByteArray} : (placeI (l.map (·.name)) s ≥ 0) ↔ hasN l s = true := by
  unfold placeI hasN
  rw [List.findIdx?_map]
  cases h : l.findIdx? ((fun a => decide (a = s)) ∘ (·.name)) with
  | none =>
    rw [List.findIdx?_eq_none_iff] at h
    simp only [Function.comp] at h
    simp only [List.any_eq_true, not_exists, not_and]
    constructor
    · intro h2; omega
    · rintro ⟨x, hx, h2⟩
      have := h x hx
      simp at this h2
      exact absurd h2 this
  | some i =>
    obtain ⟨hi, h1, _⟩ := List.findIdx?_eq_some_iff_getElem.1 h
    simp only [List.any_eq_true]
    constructor
    · intro _
      exact ⟨l[i], List.getElem_mem hi, h1⟩
    · intro _
      show (0 : Int) ≤ i
      omega
theorem placeA_nn {l : List ByteArray} {s : ByteArray} : (placeI l s ≥ 0) ↔ hasA l s = true := by
  unfold placeI hasA
  cases h : l.findIdx? (fun a => decide (a = s)) with
  | none =>
    rw [List.findIdx?_eq_none_iff] at h
    simp only [List.any_eq_true]
    constructor
    · intro h2; omega
    · rintro ⟨x, hx, h2⟩
      have := h x hx
      simp at this h2
      exact absurd h2 this
  | some i =>
    obtain ⟨hi, h1, _⟩ := List.findIdx?_eq_some_iff_getElem.1 h
    simp only [List.any_eq_true]
    constructor
    · intro _
      exact ⟨l[i], List.getElem_mem hi, h1⟩
    · intro _
      show (0 : Int) ≤ i
      omega

/-- what a step of the reader leaves -/
def RdPost (w : World) (B g : Nat) (at_ : Nat) (r : Int × Rs) (e : Ending) (w' : World) : Prop :=
  e = .returned (.tuple #[]) ∧ Bel B g w w' ∧ ∃ (wt : Nat) (vt : Value) (pl : Int) (l : List (Td × Value)), RX w' B g wt vt r.1 pl l ∧ (r.1 = 0 → wt = r.2.want ∧ l.map (·.1) = r.2.ts ∧ pl = 0) ∧ (r.1 ≠ 0 → pl = at_)
theorem RdPost.bad {w w' : World} {B g at_ wt : Nat} {c : Int} {s : Rs} {vt : Value} {l : List (Td × Value)} {r : Int × Rs} (hr : r.1 = c) (hc : c ≠ 0) (hb : Bel B g w w') (h : RX w' B g wt vt c at_ l) : RdPost w B g at_ r (.returned (.tuple #[])) w' :=
  ⟨rfl, hb, wt, vt, at_, l, hr ▸ h, fun e => absurd (hr.symm.trans e) hc, fun _ => rfl⟩
theorem RdPost.good {w w' : World} {B g at_ wt : Nat} {vt : Value} {l : List (Td × Value)} {r : Int × Rs} (hr : r.1 = 0) (h1 : wt = r.2.want) (h2 : l.map (·.1) = r.2.ts) (hb : Bel B g w w') (h : RX w' B g wt vt 0 0 l) : RdPost w B g at_ r (.returned (.tuple #[])) w' :=
  ⟨rfl, hb, wt, vt, 0, l, hr ▸ h, fun _ => ⟨h1, h2, rfl⟩, fun e => absurd hr e⟩

namespace hbW
open nmW
set_option maxHeartbeats 400000 in
theorem refuse_k {w : World} {B g want : Nat} {vt : Value} {cd pl : Int} {l : List (Td × Value)} (h : RX w B g want vt cd pl l) (c p : Int) :
    Calls Tryd.prog 46 #[.pointer (some ⟨g, 0, none⟩), .int .i64 c, .int .i64 p] w fun e w' => e = .returned (.tuple #[]) ∧ RX w' B g want vt c p l ∧ Bel B g w w' := by
  have c2 : w.cell? ⟨g, 2, none⟩ = some (.int .i64 cd) := h.bx.cell 2
  have c3 : w.cell? ⟨g, 3, none⟩ = some (.int .i64 pl) := h.bx.cell 3
  have f2 : w.frozen? ⟨g, 2, none⟩ = false := h.bx.frozen 2
  have f3 : w.frozen? ⟨g, 3, none⟩ = false := h.bx.frozen 3
  have hq := Lib.hid (show RX ((w.setCell ⟨g, 2, none⟩ (.int .i64 c)).setCell ⟨g, 3, none⟩ (.int .i64 p)) B g want vt c p l ∧ Bel B g w ((w.setCell ⟨g, 2, none⟩ (.int .i64 c)).setCell ⟨g, 3, none⟩ (.int .i64 p)) from ⟨(h.setC c).setP p, ((Bel.refl B g w).setG 2 _).setG 3 _⟩)
  clear h
  go_enter Tryd.func46, Tryd.ntmps46
  go_wp2
  first | refine bodyPost_ret (results_none rfl _ _ _) rfl ?_ | refine bodyPost_end (results_none rfl _ _ _) rfl ?_
  exact ⟨rfl, hq.out⟩

set_option maxHeartbeats 1600000 in
theorem mark_k {w : World} {B g : Nat} {s : Rs} {vt : Value} {l : List (Td × Value)} (h : RX w B g s.want vt 0 0 l) (hl : l.map (·.1) = s.ts) (c at_ : Nat) (hs : s.want ≤ 5) :
    Calls Tryd.prog 45 #[.pointer (some ⟨g, 0, none⟩), .int .i32 c, .int .i64 at_] w (RdPost w B g at_ (stepM s c)) := by
  have k1 := Lib.hid (fun w B g want vt cd pl l => @refuse_k w B g want vt cd pl l)
  obtain ⟨wt, ts⟩ := s
  simp only at h hl hs
  have c0 : w.cell? ⟨g, 0, none⟩ = some (.int .i64 wt) := h.bx.cell 0
  have f0 : w.frozen? ⟨g, 0, none⟩ = false := h.bx.frozen 0
  have hh := Lib.hid h
  replace hl := Lib.hid hl
  have hS : ∀ x : Nat, stepM ⟨wt, ts⟩ c = (0, ⟨x, ts⟩) → RdPost w B g at_ (stepM ⟨wt, ts⟩ c) (.returned (.tuple #[])) (w.setCell ⟨g, 0, none⟩ (.int .i64 x)) := fun x e => by
    refine .good (by rw [e]) (by rw [e]) (by rw [e]; exact hl.out) ((Bel.refl B g w).setG 0 _) (hh.out.setW x)
  have hBad : stepM ⟨wt, ts⟩ c = (21, ⟨wt, ts⟩) → ∀ w', RX w' B g wt vt 21 at_ l ∧ Bel B g w w' → RdPost w B g at_ (stepM ⟨wt, ts⟩ c) (.returned (.tuple #[])) w' := fun e w' hw =>
    .bad (by rw [e]) (by decide) hw.2 hw.1 (s := ⟨wt, ts⟩)
  clear h
  have cs : (c = 40 ∧ wt = 2) ∨ (c = 40 ∧ wt ≠ 2) ∨ (c = 41 ∧ wt = 3) ∨ (c = 41 ∧ wt = 5) ∨ (c = 41 ∧ wt ≠ 3 ∧ wt ≠ 5) ∨ (c = 44 ∧ wt = 5) ∨ (c = 44 ∧ wt ≠ 5) ∨ (c ≠ 40 ∧ c ≠ 41 ∧ c ≠ 44) := by omega
  rcases cs with ⟨rfl, rfl⟩ | ⟨rfl, h2⟩ | ⟨rfl, rfl⟩ | ⟨rfl, rfl⟩ | ⟨rfl, h2, h3⟩ | ⟨rfl, rfl⟩ | ⟨rfl, h2⟩ | ⟨h1, h2, h3⟩
  · have hP := Lib.hid (hS 3 (by simp [stepM]))
    clear hS hBad
    go_enter Tryd.func45, Tryd.ntmps45
    go_wp2
    first | refine bodyPost_ret (results_none rfl _ _ _) rfl ?_ | refine bodyPost_end (results_none rfl _ _ _) rfl ?_
    exact hP.out
  · have hP := Lib.hid (hBad (by simp [stepM, h2]))
    have e1 : ((wt : Int) == 2) = false := by rw [beq_eq_false_iff_ne]; omega
    clear hS hBad
    go_enter Tryd.func45, Tryd.ntmps45
    go_wp2_with (go_at_call 46; refine (k1.out _ _ _ _ _ _ _ _ hh.out _ _).mono ?_; rintro e W ⟨rfl, hW⟩; replace hW := Lib.hid hW)
    first | refine bodyPost_ret (results_none rfl _ _ _) rfl ?_ | refine bodyPost_end (results_none rfl _ _ _) rfl ?_
    exact hP.out _ hW.out
  · have hP := Lib.hid (hS 0 (by simp [stepM]))
    clear hS hBad
    go_enter Tryd.func45, Tryd.ntmps45
    go_wp2
    first | refine bodyPost_ret (results_none rfl _ _ _) rfl ?_ | refine bodyPost_end (results_none rfl _ _ _) rfl ?_
    exact hP.out
  · have hP := Lib.hid (hS 0 (by simp [stepM]))
    clear hS hBad
    go_enter Tryd.func45, Tryd.ntmps45
    go_wp2
    first | refine bodyPost_ret (results_none rfl _ _ _) rfl ?_ | refine bodyPost_end (results_none rfl _ _ _) rfl ?_
    exact hP.out
  · have hP := Lib.hid (hBad (by simp [stepM, h2, h3]))
    have e1 : ((wt : Int) == 3) = false := by rw [beq_eq_false_iff_ne]; omega
    have e2 : ((wt : Int) == 5) = false := by rw [beq_eq_false_iff_ne]; omega
    clear hS hBad
    go_enter Tryd.func45, Tryd.ntmps45
    go_wp2_with (go_at_call 46; refine (k1.out _ _ _ _ _ _ _ _ hh.out _ _).mono ?_; rintro e W ⟨rfl, hW⟩; replace hW := Lib.hid hW)
    first | refine bodyPost_ret (results_none rfl _ _ _) rfl ?_ | refine bodyPost_end (results_none rfl _ _ _) rfl ?_
    exact hP.out _ hW.out
  · have hP := Lib.hid (hS 4 (by simp [stepM]))
    clear hS hBad
    go_enter Tryd.func45, Tryd.ntmps45
    go_wp2
    first | refine bodyPost_ret (results_none rfl _ _ _) rfl ?_ | refine bodyPost_end (results_none rfl _ _ _) rfl ?_
    exact hP.out
  · have hP := Lib.hid (hBad (by simp [stepM, h2]))
    have e1 : ((wt : Int) == 5) = false := by rw [beq_eq_false_iff_ne]; omega
    clear hS hBad
    go_enter Tryd.func45, Tryd.ntmps45
    go_wp2_with (go_at_call 46; refine (k1.out _ _ _ _ _ _ _ _ hh.out _ _).mono ?_; rintro e W ⟨rfl, hW⟩; replace hW := Lib.hid hW)
    first | refine bodyPost_ret (results_none rfl _ _ _) rfl ?_ | refine bodyPost_end (results_none rfl _ _ _) rfl ?_
    exact hP.out _ hW.out
  · have hP := Lib.hid (hBad (by simp [stepM, h1, h2, h3]))
    have e1 : ((c : Int) == 40) = false := by rw [beq_eq_false_iff_ne]; omega
    have e2 : ((c : Int) == 41) = false := by rw [beq_eq_false_iff_ne]; omega
    have e3 : ((c : Int) == 44) = false := by rw [beq_eq_false_iff_ne]; omega
    clear hS hBad
    go_enter Tryd.func45, Tryd.ntmps45
    go_wp2_with (go_at_call 46; refine (k1.out _ _ _ _ _ _ _ _ hh.out _ _).mono ?_; rintro e W ⟨rfl, hW⟩; replace hW := Lib.hid hW)
    first | refine bodyPost_ret (results_none rfl _ _ _) rfl ?_ | refine bodyPost_end (results_none rfl _ _ _) rfl ?_
    exact hP.out _ hW.out
end hbW
end Go.Proofs.YtmadafejenjkcaaDoor
