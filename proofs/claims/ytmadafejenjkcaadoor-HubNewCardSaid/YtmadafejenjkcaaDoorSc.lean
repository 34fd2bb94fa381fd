/- Schemas: a name's place in a list: the program's placeOf, the document's 'in'. -/
import Derived.Test.YtmadafejenjkcaaDoorNm6
namespace Go.Proofs.YtmadafejenjkcaaDoor
open Go.RowKit Go.Deep
set_option linter.unusedVariables false

/-- the first place of a text, -1 without one -/
def placeI (l : List ByteArray) (s : ByteArray) : Int := match l.findIdx? (fun a => decide (a = s)) with | some i => (i : Int) | none => -1
theorem placeI_at {l : List ByteArray} {s : ByteArray} {j : Nat} (h : l[j]? = some s) (hp : ∀ i a, l[i]? = some a → i < j → a ≠ s) : placeI l s = j := by
  have : l.findIdx? (fun a => decide (a = s)) = some j := by
    obtain ⟨hj, hjs⟩ := List.getElem?_eq_some_iff.1 h
    rw [List.findIdx?_eq_some_iff_getElem]
    refine ⟨hj, by simp [hjs], fun i hi => ?_⟩
    have := hp i l[i] (List.getElem?_eq_getElem (by omega)) hi
    simp [this]
  simp [placeI, this]
theorem placeI_none {l : List ByteArray} {s : ByteArray} (hp : ∀ (i : Nat) a, l[i]? = some a → a ≠ s) : placeI l s = -1 := by
  have : l.findIdx? (fun a => decide (a = s)) = none := by
    rw [List.findIdx?_eq_none_iff]
    intro a ha
    obtain ⟨i, hi⟩ := List.getElem?_of_mem ha
    simp [hp i a hi]
  simp [placeI, this]

namespace nmW
set_option maxHeartbeats 400000 in
theorem placeOf_k (A : Option Addr) (c : Nat) (F : Nat → Prop) (l : List ByteArray) (s : ByteArray) (hl : l.length ≤ 1048576) (w : World) (r : Rd w F (.slice A l.length c) (.sl l.length (l.flatMap strD))) :
    Calls Tryd.prog 57 #[.slice A l.length c, .string s] w fun e w' => e = .returned (.int .i64 (placeI l s)) ∧ w' = w := by
  replace r := Lib.hid r
  generalize hc : placeI l s = b
  replace hc := Lib.hid hc
  go_enter Tryd.func57, Tryd.ntmps57
  go_wp2
  go_loopw [9] (fun i wr => ∃ j : Nat, j ≤ l.length ∧ i = .int .i64 j ∧ wr = w ∧ (∀ (i : Nat) a, l[i]? = some a → i < j → a ≠ s)) (fun i _ => l.length - (intOf i).toNat)
  case atStart => exact ⟨0, Nat.zero_le _, rfl, rfl, fun i a h h3 => by omega⟩
  case round =>
    obtain ⟨j, hj, rfl, rfl, hp⟩ := hrel
    replace hp := Lib.hid hp
    by_cases hlt : j < l.length
    · obtain ⟨x, hx⟩ := getx hlt
      obtain ⟨g, off, rfl, _, ha, _⟩ := r.out.rowv (m := 1) (fun _ => rfl) hx (by omega)
      have a0 : wr.cell? ⟨g, off + j, none⟩ = some (.string x) := by have := ha 0 _ rfl; rwa [Nat.mul_one, Nat.add_zero] at this
      have g0 : (0 : Int) ≤ (j : Int) := by omega
      have g1 : (j : Int) < l.length := by omega
      replace hx := Lib.hid hx
      clear ha
      by_cases hu : x = s
      · have hu' : (x.toList == s.toList) = true := by rw [beq_bytes]; exact decide_eq_true hu
        obtain rfl : b = (j : Int) := by rw [← hc.out]; exact placeI_at (by rw [hx.out, hu]) hp.out
        replace hu := Lib.hid hu
        go_wp2
        go_ret
        exact ⟨rfl, rfl⟩
      · have hu' : (x.toList == s.toList) = false := by rw [beq_bytes]; exact decide_eq_false hu
        replace hu := Lib.hid hu
        go_wp2
        go_roundw
        case rel =>
          refine ⟨j + 1, by omega, by go_num, by trivial, fun i a h h3 => ?_⟩
          by_cases hij : i = j
          · subst hij
            obtain rfl : x = a := by have := hx.out; rw [h] at this; exact (Option.some.inj this).symm
            exact hu.out
          · exact hp.out i a h (by omega)
        case measure => simp [intOf]; omega
    · have g1 : ¬ (j : Int) < l.length := by omega
      have g2 : decide (j < l.length) = false := decide_eq_false hlt
      obtain rfl : b = -1 := by
        rw [← hc.out]
        exact placeI_none fun i a h => hp.out i a h (by have := (List.getElem?_eq_some_iff.1 h).1; omega)
      go_wp2
      go_ret
      exact ⟨rfl, rfl⟩

set_option maxHeartbeats 400000 in
theorem in_k (A : Option Addr) (c : Nat) (F : Nat → Prop) (l : List ByteArray) (s : ByteArray) (hl : l.length ≤ 1048576) (w : World) (r : Rd w F (.slice A l.length c) (.sl l.length (l.flatMap strD))) :
    Calls Tryd.prog 91 #[.slice A l.length c, .string s] w fun e w' => e = .returned (.bool (l.any fun a => decide (a = s))) ∧ w' = w := by
  replace r := Lib.hid r
  generalize hc : (l.any fun a => decide (a = s)) = b
  replace hc := Lib.hid hc
  go_enter Tryd.func91, Tryd.ntmps91
  go_wp2
  go_loopw [5] (fun i wr => ∃ j : Nat, j ≤ l.length ∧ i = .int .i64 j ∧ wr = w ∧ (∀ (i : Nat) a, l[i]? = some a → i < j → a ≠ s)) (fun i _ => l.length - (intOf i).toNat)
  case atStart => exact ⟨0, Nat.zero_le _, rfl, rfl, fun i a h h3 => by omega⟩
  case round =>
    obtain ⟨j, hj, rfl, rfl, hp⟩ := hrel
    replace hp := Lib.hid hp
    by_cases hlt : j < l.length
    · obtain ⟨x, hx⟩ := getx hlt
      obtain ⟨g, off, rfl, _, ha, _⟩ := r.out.rowv (m := 1) (fun _ => rfl) hx (by omega)
      have a0 : wr.cell? ⟨g, off + j, none⟩ = some (.string x) := by have := ha 0 _ rfl; rwa [Nat.mul_one, Nat.add_zero] at this
      have g0 : (0 : Int) ≤ (j : Int) := by omega
      have g1 : (j : Int) < l.length := by omega
      replace hx := Lib.hid hx
      clear ha
      by_cases hu : x = s
      · have hu' : (x.toList == s.toList) = true := by rw [beq_bytes]; exact decide_eq_true hu
        obtain rfl : b = true := by rw [← hc.out]; exact List.any_eq_true.2 ⟨x, List.mem_of_getElem? hx.out, decide_eq_true hu⟩
        replace hu := Lib.hid hu
        go_wp2
        go_ret
        exact ⟨rfl, rfl⟩
      · have hu' : (x.toList == s.toList) = false := by rw [beq_bytes]; exact decide_eq_false hu
        replace hu := Lib.hid hu
        go_wp2
        go_roundw
        case rel =>
          refine ⟨j + 1, by omega, by go_num, by trivial, fun i a h h3 => ?_⟩
          by_cases hij : i = j
          · subst hij
            obtain rfl : x = a := by have := hx.out; rw [h] at this; exact (Option.some.inj this).symm
            exact hu.out
          · exact hp.out i a h (by omega)
        case measure => simp [intOf]; omega
    · have g1 : ¬ (j : Int) < l.length := by omega
      have g2 : decide (j < l.length) = false := decide_eq_false hlt
      obtain rfl : b = false := by
        rw [← hc.out, List.any_eq_false]
        intro a hm
        obtain ⟨i, hi⟩ := List.getElem?_of_mem hm
        have := hp.out i _ hi (by have := (List.getElem?_eq_some_iff.1 hi).1; omega)
        simpa using this
      go_wp2
      go_ret
      exact ⟨rfl, rfl⟩
end nmW
end Go.Proofs.YtmadafejenjkcaaDoor
