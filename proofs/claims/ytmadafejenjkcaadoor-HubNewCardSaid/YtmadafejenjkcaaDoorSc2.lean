/- Schemas: a type's number by its name. -/
import Derived.Test.YtmadafejenjkcaaDoorSc
namespace Go.Proofs.YtmadafejenjkcaaDoor
open Go.RowKit Go.Deep
set_option linter.unusedVariables false

/-- a type: its name, its attributes -/
structure Td where
  name : ByteArray
  attrs : List ByteArray
def tdD (t : Td) : List D := [.v (.string t.name), .sl t.attrs.length (t.attrs.flatMap strD)]

namespace nmW
set_option maxHeartbeats 400000 in
theorem typeOf_k (A : Option Addr) (c : Nat) (F : Nat → Prop) (l : List Td) (s : ByteArray) (hl : l.length ≤ 1048576) (w : World) (hF : ∀ b, F b → b < w.heap.size) (r : Rd w F (.slice A l.length c) (.sl l.length (l.flatMap tdD))) :
    Calls Tryd.prog 56 #[.agg #[.slice A l.length c], .string s] w fun e w' => e = .returned (.int .i64 (placeI (l.map (·.name)) s)) ∧ Below w.heap.size w w' := by
  replace r := Lib.hid r
  replace hF := Lib.hid hF
  generalize hc : placeI (l.map (·.name)) s = b
  replace hc := Lib.hid hc
  go_enter Tryd.func56, Tryd.ntmps56
  go_wp2
  go_loopw [10] (fun i wr => ∃ j : Nat, j ≤ l.length ∧ i = .int .i64 j ∧ Below w.heap.size w wr ∧ (∀ (i : Nat) a, (l.map (·.name))[i]? = some a → i < j → a ≠ s)) (fun i _ => l.length - (intOf i).toNat)
  case atStart => exact ⟨0, Nat.zero_le _, rfl, (Below.refl _ _).alloc (Nat.le_refl _) _, fun i a h h3 => by omega⟩
  case round =>
    obtain ⟨j, hj, rfl, hb, hp⟩ := hrel
    replace hp := Lib.hid hp
    by_cases hlt : j < l.length
    · obtain ⟨x, hx⟩ := getx hlt
      have r2 := r.out.under hb hF.out
      obtain ⟨g, off, rfl, _, ha, ha2⟩ := r2.rowv (m := 2) (fun _ => rfl) hx (by omega)
      have a0 : wr.cell? ⟨g, off + j * 2, none⟩ = some (.string x.name) := ha 0 _ rfl
      obtain ⟨A2, c2, a1, _⟩ := ha2 1 _ _ rfl
      have g0 : (0 : Int) ≤ (j : Int) := by omega
      have g1 : (j : Int) < l.length := by omega
      have hx2 : (l.map (·.name))[j]? = some x.name := by rw [List.getElem?_map, hx]; rfl
      replace hx2 := Lib.hid hx2
      replace hb := Lib.hid hb
      clear ha ha2 r2 hx
      by_cases hu : x.name = s
      · have hu' : (x.name.toList == s.toList) = true := by rw [beq_bytes]; exact decide_eq_true hu
        obtain rfl : b = (j : Int) := by rw [← hc.out]; exact placeI_at (by rw [hx2.out, hu]) hp.out
        replace hu := Lib.hid hu
        go_wp2
        go_ret
        exact ⟨rfl, hb.out.alloc hb.out.size _⟩
      · have hu' : (x.name.toList == s.toList) = false := by rw [beq_bytes]; exact decide_eq_false hu
        replace hu := Lib.hid hu
        go_wp2
        go_roundw
        case rel =>
          refine ⟨j + 1, by omega, by go_num, hb.out.alloc hb.out.size _, fun i a h h3 => ?_⟩
          by_cases hij : i = j
          · subst hij
            obtain rfl : x.name = a := by have := hx2.out; rw [h] at this; exact (Option.some.inj this).symm
            exact hu.out
          · exact hp.out i a h (by omega)
        case measure => simp [intOf]; omega
    · have g1 : ¬ (j : Int) < l.length := by omega
      have g2 : decide (j < l.length) = false := decide_eq_false hlt
      obtain rfl : b = -1 := by
        rw [← hc.out]
        exact placeI_none fun i a h => hp.out i a h (by have := (List.getElem?_eq_some_iff.1 h).1; simp at this; omega)
      go_wp2
      go_ret
      exact ⟨rfl, hb⟩
end nmW
end Go.Proofs.YtmadafejenjkcaaDoor
