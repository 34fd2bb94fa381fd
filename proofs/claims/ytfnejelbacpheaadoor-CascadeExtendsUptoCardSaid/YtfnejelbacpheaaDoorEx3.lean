/- grow; a rule added. -/
import Derived.Test.YtfnejelbacpheaaDoorEx2
namespace Go.Proofs.YtfnejelbacpheaaDoor
open Go.RowKit Go.Deep Go.Maps
set_option linter.unusedVariables false

/-- a rule: its query's text, its type's name, its attributes -/
structure Ru where
  query : ByteArray
  into : ByteArray
  attrs : List ByteArray
def ruD (r : Ru) : List D := [.v (.string r.query), .v (.string r.into), .sl r.attrs.length (r.attrs.flatMap strD)]
def SzR1 (r : Ru) : Prop := r.into.size ≤ 1048576 ∧ SzS r.attrs
def SzR (l : List Ru) : Prop := l.length ≤ 1048576 ∧ ∀ r ∈ l, SzR1 r
open Classical in
/-- the schema with the rule's type behind it -/
noncomputable def addR (S : List Td) (r : Ru) : List Td := if r.into = ByteArray.empty then S else S ++ [⟨r.into, r.attrs⟩]
/-- can the rule's type be added? -/
def OkR (S : List Td) (r : Ru) : Prop := if r.into = ByteArray.empty then r.attrs = [] else scC (S ++ [⟨r.into, r.attrs⟩]) = 0

theorem addR_e {S : List Td} {r : Ru} (h : r.into = ByteArray.empty) : addR S r = S := if_pos h
theorem addR_n {S : List Td} {r : Ru} (h : r.into ≠ ByteArray.empty) : addR S r = S ++ [⟨r.into, r.attrs⟩] := if_neg h
theorem OkR_e {S : List Td} {r : Ru} (h : r.into = ByteArray.empty) : OkR S r ↔ r.attrs = [] := by unfold OkR; rw [if_pos h]
theorem OkR_n {S : List Td} {r : Ru} (h : r.into ≠ ByteArray.empty) : OkR S r ↔ scC (S ++ [⟨r.into, r.attrs⟩]) = 0 := by unfold OkR; rw [if_neg h]
theorem scC_len {S : List Td} (h : scC S = 0) : 1 ≤ S.length ∧ S.length ≤ 16 := by
  unfold scC at h
  split at h
  · omega
  · omega
theorem scC_ty0 {S : List Td} (h : scC S = 0) : ∀ i, i < S.length → tyC S i = 0 := by
  have := scC_len h
  rw [scC_ty this.1 this.2] at h
  exact fstC_none h
theorem scC_twice {S : List Td} {t : Td} (h : (S.map (·.name)).any (fun a => decide (a = t.name)) = true) : scC (S ++ [t]) ≠ 0 := by
  intro h0
  have h1 := scC_ty0 h0 S.length (by simp)
  have ht : (S ++ [t])[S.length]? = some t := by simp
  obtain ⟨a, ha, e⟩ := List.any_eq_true.1 h
  obtain rfl : a = t.name := of_decide_eq_true e
  obtain ⟨i, hi⟩ := List.getElem?_of_mem ha
  have hlt : i < S.length := by have := (List.getElem?_eq_some_iff.1 hi).1; simpa using this
  have hi2 : ((S ++ [t]).map (·.name))[i]? = some t.name := by rw [List.map_append, List.getElem?_append_left (by simpa using hlt)]; exact hi
  have hne := placeI_ne hi2 hlt
  by_cases hn : isNm t.name = true
  · rw [tyC_25 ht hn hne] at h1; omega
  · rw [tyC_22 ht (by simpa using hn)] at h1; omega
theorem SzT.snoc {S : List Td} {t : Td} (h : SzT S) (hl : S.length ≤ 1000000) (hn : t.name.size ≤ 1048576) (ha : SzS t.attrs) : SzT (S ++ [t]) := by
  refine ⟨by simp; omega, fun x hx => ?_⟩
  rcases List.mem_append.1 hx with h1 | h1
  · exact h.2 x h1
  · obtain rfl : x = t := by simpa using h1
    exact ⟨hn, ha⟩
theorem SzT.addR {S : List Td} {r : Ru} (h : SzT S) (hl : S.length ≤ 1000000) (hr : SzR1 r) : SzT (addR S r) := by
  by_cases e : r.into = ByteArray.empty
  · rw [addR_e e]; exact h
  · rw [addR_n e]; exact h.snoc hl hr.1 hr.2

namespace nmW
set_option maxHeartbeats 800000 in
theorem grow_k (A : Option Addr) (c : Nat) (F : Nat → Prop) (l : List Td) (hl : SzT l) (hl3 : l.length ≤ 1000000) (w : World) (hF : ∀ b, F b → b < w.heap.size) (r : Rd w F (.slice A l.length c) (.sl l.length (l.flatMap tdD))) :
    Calls Tryd.prog 12 #[.agg #[.slice A l.length c]] w fun e w' => ∃ g m v B, e = .returned (.pointer (some ⟨g, 0, none⟩)) ∧ GS w.heap.size B w' g m v l ∧ Below w.heap.size w w' ∧ B ≤ w'.heap.size := by
  have k1 := Lib.hid add_k
  have hmm : ∀ W : World, (Instr.makeMap 45 none).run Tryd.prog W = .ok (.map (some W.heap.size)) (W.alloc (.map #[] 0)) := fun W => run_makeMap _ W
  obtain ⟨hl1, hl2⟩ := hl
  replace hl2 := Lib.hid hl2
  replace hF := Lib.hid hF
  replace r := Lib.hid r
  go_enter Tryd.func12, Tryd.ntmps12
  go_wp2
  go_loopw [12] (fun x wr => ∃ (j : Nat) (v : Value), j ≤ l.length ∧ x = .int .i64 j ∧ GS w.heap.size (w.heap.size + 1 + 1 + 1) wr (w.heap.size + 1 + 1) (w.heap.size + 1) v (l.take j) ∧ Below w.heap.size w wr ∧ w.heap.size + 1 + 1 + 1 ≤ wr.heap.size) (fun x _ => l.length - (intOf x).toNat)
  case atStart =>
    refine ⟨0, .slice none 0 0, Nat.zero_le _, rfl, ⟨?_, ?_, .nil _ _ _ _ _, by omega, by omega, by omega, by omega⟩, ?_, by simp⟩
    · exact Blk.new' (by simp)
    · have := (MapIs.made (w.alloc (.cells #[.slice A l.length c] 24))).stay ((Below.refl _ _).alloc (Nat.le_refl _) (.cells #[.slice none 0 0, .map (some (w.heap.size + 1))] 47))
      simpa using this
    · exact (((Below.refl _ _).alloc (Nat.le_refl _) _).alloc (by simp) _).alloc (by simp; omega) _
  case round =>
    obtain ⟨j, v, hj, rfl, hG, hb, hsz⟩ := hrel
    by_cases hlt : j < l.length
    · obtain ⟨t, ht⟩ := getx hlt
      obtain ⟨hs1, hs2, hs3⟩ := hl2.out t (List.mem_of_getElem? ht)
      obtain ⟨b, off, rfl, hFb, hv, hsl⟩ := r.out.rowv (m := 2) (fun _ => rfl) ht (by omega)
      have hfB := hF.out b hFb
      obtain ⟨A2, c2, a1, r2⟩ := hsl 1 _ _ rfl
      replace a1 : wr.cell? ⟨b, off + j * 2 + 1, none⟩ = some (.slice A2 t.attrs.length c2) := (hb.cell (p := ⟨b, off + j * 2 + 1, none⟩) hfB).trans a1
      have a0 : wr.cell? ⟨b, off + j * 2, none⟩ = some (.string t.name) := (hb.cell (p := ⟨b, off + j * 2, none⟩) hfB).trans (hv 0 _ rfl)
      have g0 : (0 : Int) ≤ (j : Int) := by omega
      have g1 : (j : Int) < l.length := by omega
      have htk : l.take (j + 1) = l.take j ++ [t] := by rw [List.take_add_one, ht]; rfl
      have hlen : (l.take j).length = j := by rw [List.length_take]; omega
      have hG2 := hG.stay ((Below.refl _ _).alloc (Nat.le_refl _) (.cells #[.string t.name, .slice A2 t.attrs.length c2] 39))
      have hb2 := hb.alloc hb.size (.cells #[.string t.name, .slice A2 t.attrs.length c2] 39)
      have r3 := r2.under hb2 hF.out
      have ka := k1.out _ _ _ _ v (l.take j) t.name A2 c2 F t.attrs hs2 hs1 (by omega) _ (by simp; omega) hF.out hG2 r3
      replace ka := Lib.hid ka
      replace hb2 := Lib.hid hb2
      replace htk := Lib.hid htk
      have hsz2 : (wr.alloc (.cells #[.string t.name, .slice A2 t.attrs.length c2] 39)).heap.size = wr.heap.size + 1 := by simp
      replace hsz2 := Lib.hid hsz2
      clear hv hsl r2 r3 hG2 hG hb ht hs3
      go_wp2_with (go_at_call 21; refine ka.out.mono ?_; rintro e W ⟨rfl, ⟨v', hG'⟩, hW⟩)
      go_roundw
      case rel => exact ⟨j + 1, v', by omega, by go_num, by rw [htk.out]; exact hG', hb2.out.trans hW, by have := hG'.hb.lt; omega⟩
      case measure => simp [intOf]; omega
    · obtain rfl : j = l.length := by omega
      rw [List.take_length] at hG
      go_wp2
      go_ret
      exact ⟨_, _, _, _, rfl, hG, hb, hsz⟩
end nmW
end Go.Proofs.YtfnejelbacpheaaDoor
