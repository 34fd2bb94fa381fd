/- The program's searches: slices.IndexFunc over kinds and fields. -/
import Derived.Test.YtmadafejenjkcaaDoorW2
import Derived.Test.YtmadafejenjkcaaDoorV2
namespace Go.Proofs.YtmadafejenjkcaaDoor
open Go.RowKit Go.Deep
set_option linter.unusedVariables false

/-- a kind's cells: its fields are a slice -/
def kcD (p : Kd × Value) : List D := [.v (.string p.1.nm), .v (.int .i64 p.1.fr), .v p.2]
def kcV (p : Kd × Value) : List Value := [.string p.1.nm, .int .i64 p.1.fr, p.2]
theorem kcD_map (l : List (Kd × Value)) : (l.map (·.1)).map (·.nm) = l.map (·.1.nm) := by simp
namespace evW
open nmW
set_option maxHeartbeats 400000 in
theorem findf_k (nm s : ByteArray) (fr : Int) (v : Value) (q : Nat) (W : World) (hq : W.cell? ⟨q, 0, none⟩ = some (.string s)) :
    Calls Tryd.prog 116 #[.agg #[.string nm, .int .i64 fr, v], .pointer (some ⟨q, 0, none⟩)] W fun e w' => e = .returned (.bool (nm.toList == s.toList)) ∧ Below W.heap.size W w' := by
  have hb := Lib.hid ((Below.refl W.heap.size W).alloc (Nat.le_refl _) (.cells ⟨[.string nm, .int .i64 fr, v]⟩ 111))
  have hq2 := World.block_lt_of_cell? W _ hq
  have hne : q ≠ W.heap.size := by simp at hq2; omega
  go_enter Tryd.func116, Tryd.ntmps116
  go_wp2
  go_ret
  exact ⟨rfl, hb.out⟩
set_option maxHeartbeats 400000 in
theorem atf_k (nm s : ByteArray) (fr fl : Int) (q : Nat) (W : World) (hq : W.cell? ⟨q, 2, none⟩ = some (.string s)) :
    Calls Tryd.prog 118 #[.agg #[.string nm, .int .i64 fr, .int .i64 fl], .pointer (some ⟨q, 0, none⟩)] W fun e w' => e = .returned (.bool (nm.toList == s.toList)) ∧ Below W.heap.size W w' := by
  have hb := Lib.hid ((Below.refl W.heap.size W).alloc (Nat.le_refl _) (.cells ⟨[.string nm, .int .i64 fr, .int .i64 fl]⟩ 113))
  have hq2 := World.block_lt_of_cell? W _ hq
  have hne : q ≠ W.heap.size := by simp at hq2; omega
  go_enter Tryd.func118, Tryd.ntmps118
  go_wp2
  go_ret
  exact ⟨rfl, hb.out⟩
set_option maxHeartbeats 800000 in
theorem idxK_k (A : Option Addr) (c : Nat) (F : Nat → Prop) (l : List (Kd × Value)) (s : ByteArray) (q : Nat) (hl : l.length ≤ 1048576) (w : World) (hF : ∀ b, F b → b < w.heap.size) (r : Rd w F (.slice A l.length c) (.sl l.length (l.flatMap kcD))) (hq : w.cell? ⟨q, 0, none⟩ = some (.string s)) :
    Calls Tryd.prog 41 #[.slice A l.length c, .func (.func 116) #[] #[.pointer (some ⟨q, 0, none⟩)]] w fun e w' => e = .returned (.int .i64 (optI (tyAt (l.map (·.1)) s))) ∧ Below w.heap.size w w' := by
  rw [tyAt, optI_place]
  generalize hc : placeI ((l.map (·.1)).map (·.nm)) s = b
  have hql : q < w.heap.size := World.block_lt_of_cell? w _ hq
  have hk : ∀ W, Below w.heap.size w W → ∀ nm fr v, Calls Tryd.prog 116 #[.agg #[.string nm, .int .i64 fr, v], .pointer (some ⟨q, 0, none⟩)] W fun e w' => e = .returned (.bool (nm.toList == s.toList)) ∧ Below W.heap.size W w' := fun W hW nm fr v =>
    findf_k nm s fr v q W ((hW.cell (p := ⟨q, 0, none⟩) hql).trans hq)
  replace r := Lib.hid r
  replace hc := Lib.hid hc
  replace hk := Lib.hid hk
  replace hF := Lib.hid hF
  clear hq
  go_enter Tryd.func41, Tryd.ntmps41
  go_wp2
  go_loopw [5, 8] (fun _ i wr => ∃ j : Nat, j ≤ l.length ∧ i = .int .i64 j ∧ Below w.heap.size w wr ∧ (∀ (i : Nat) a, ((l.map (·.1)).map (·.nm))[i]? = some a → i < j → a ≠ s)) (fun _ i _ => l.length - (intOf i).toNat)
  case atStart => exact ⟨0, Nat.zero_le _, rfl, Below.refl _ _, fun i a h h3 => by omega⟩
  case round =>
    obtain ⟨j, hj, rfl, hB, hp⟩ := hrel
    replace hp := Lib.hid hp
    by_cases hlt : j < l.length
    · obtain ⟨x, hx⟩ := getx hlt
      obtain ⟨g, off, rfl, _, ha, _⟩ := (r.out.under hB hF.out).rowv (m := 3) (fun _ => rfl) hx (by omega)
      have a0 : wr.cell? ⟨g, off + j * 3, none⟩ = some (.string x.1.nm) := ha 0 _ rfl
      have a1 : wr.cell? ⟨g, off + j * 3 + 1, none⟩ = some (.int .i64 x.1.fr) := ha 1 _ rfl
      have a2 : wr.cell? ⟨g, off + j * 3 + 2, none⟩ = some x.2 := ha 2 _ rfl
      have g0 : (0 : Int) ≤ (j : Int) := by omega
      have g1 : (j : Int) < l.length := by omega
      have hx2 : ((l.map (·.1)).map (·.nm))[j]? = some x.1.nm := by rw [List.getElem?_map, List.getElem?_map, hx]; rfl
      have hk' := Lib.hid (hk.out wr hB x.1.nm x.1.fr x.2)
      replace hx2 := Lib.hid hx2
      clear ha hx
      by_cases hu : x.1.nm = s
      · have hu' : (x.1.nm.toList == s.toList) = true := by rw [beq_bytes]; exact decide_eq_true hu
        obtain rfl : b = (j : Int) := by rw [← hc.out]; exact placeI_at (by rw [hx2.out, hu]) hp.out
        replace hu := Lib.hid hu
        go_wp2_with (go_at_call 116; refine hk'.out.mono ?_; rintro e w' ⟨rfl, hB1⟩)
        go_ret
        exact ⟨rfl, hB.trans (hB1.mono hB.size)⟩
      · have hu' : (x.1.nm.toList == s.toList) = false := by rw [beq_bytes]; exact decide_eq_false hu
        replace hu := Lib.hid hu
        go_wp2_with (go_at_call 116; refine hk'.out.mono ?_; rintro e w' ⟨rfl, hB1⟩)
        go_roundw
        case rel =>
          refine ⟨j + 1, by omega, by go_num, hB.trans (hB1.mono hB.size), fun i a h h3 => ?_⟩
          by_cases hij : i = j
          · subst hij
            obtain rfl : x.1.nm = a := by have := hx2.out; rw [h] at this; exact (Option.some.inj this).symm
            exact hu.out
          · exact hp.out i a h (by omega)
        case measure => simp [intOf]; omega
    · have g1 : ¬ (j : Int) < l.length := by omega
      obtain rfl : b = -1 := by
        rw [← hc.out]
        exact placeI_none fun i a h => hp.out i a h (by have := (List.getElem?_eq_some_iff.1 h).1; simp at this; omega)
      go_wp2
      go_ret
      exact ⟨rfl, hB⟩
set_option maxHeartbeats 800000 in
theorem idxF_k (A : Option Addr) (c : Nat) (F : Nat → Prop) (l : List Fd) (s : ByteArray) (q : Nat) (hl : l.length ≤ 1048576) (w : World) (hF : ∀ b, F b → b < w.heap.size) (r : Rd w F (.slice A l.length c) (.sl l.length (l.flatMap fdD))) (hq : w.cell? ⟨q, 2, none⟩ = some (.string s)) :
    Calls Tryd.prog 117 #[.slice A l.length c, .func (.func 118) #[] #[.pointer (some ⟨q, 0, none⟩)]] w fun e w' => e = .returned (.int .i64 (optI (flAt l s))) ∧ Below w.heap.size w w' := by
  rw [flAt, optI_place]
  generalize hc : placeI (l.map (·.nm)) s = b
  have hql : q < w.heap.size := World.block_lt_of_cell? w _ hq
  have hk : ∀ W, Below w.heap.size w W → ∀ nm fr fl, Calls Tryd.prog 118 #[.agg #[.string nm, .int .i64 fr, .int .i64 fl], .pointer (some ⟨q, 0, none⟩)] W fun e w' => e = .returned (.bool (nm.toList == s.toList)) ∧ Below W.heap.size W w' := fun W hW nm fr fl =>
    atf_k nm s fr fl q W ((hW.cell (p := ⟨q, 2, none⟩) hql).trans hq)
  replace r := Lib.hid r
  replace hc := Lib.hid hc
  replace hk := Lib.hid hk
  replace hF := Lib.hid hF
  clear hq
  go_enter Tryd.func117, Tryd.ntmps117
  go_wp2
  go_loopw [5, 8] (fun _ i wr => ∃ j : Nat, j ≤ l.length ∧ i = .int .i64 j ∧ Below w.heap.size w wr ∧ (∀ (i : Nat) a, (l.map (·.nm))[i]? = some a → i < j → a ≠ s)) (fun _ i _ => l.length - (intOf i).toNat)
  case atStart => exact ⟨0, Nat.zero_le _, rfl, Below.refl _ _, fun i a h h3 => by omega⟩
  case round =>
    obtain ⟨j, hj, rfl, hB, hp⟩ := hrel
    replace hp := Lib.hid hp
    by_cases hlt : j < l.length
    · obtain ⟨x, hx⟩ := getx hlt
      obtain ⟨g, off, rfl, _, ha, _⟩ := (r.out.under hB hF.out).rowv (m := 3) (fun _ => rfl) hx (by omega)
      have a0 : wr.cell? ⟨g, off + j * 3, none⟩ = some (.string x.nm) := ha 0 _ rfl
      have a1 : wr.cell? ⟨g, off + j * 3 + 1, none⟩ = some (.int .i64 x.fr) := ha 1 _ rfl
      have a2 : wr.cell? ⟨g, off + j * 3 + 2, none⟩ = some (.int .i64 x.fl) := ha 2 _ rfl
      have g0 : (0 : Int) ≤ (j : Int) := by omega
      have g1 : (j : Int) < l.length := by omega
      have hx2 : (l.map (·.nm))[j]? = some x.nm := by rw [List.getElem?_map, hx]; rfl
      have hk' := Lib.hid (hk.out wr hB x.nm x.fr x.fl)
      replace hx2 := Lib.hid hx2
      clear ha hx
      by_cases hu : x.nm = s
      · have hu' : (x.nm.toList == s.toList) = true := by rw [beq_bytes]; exact decide_eq_true hu
        obtain rfl : b = (j : Int) := by rw [← hc.out]; exact placeI_at (by rw [hx2.out, hu]) hp.out
        replace hu := Lib.hid hu
        go_wp2_with (go_at_call 118; refine hk'.out.mono ?_; rintro e w' ⟨rfl, hB1⟩)
        go_ret
        exact ⟨rfl, hB.trans (hB1.mono hB.size)⟩
      · have hu' : (x.nm.toList == s.toList) = false := by rw [beq_bytes]; exact decide_eq_false hu
        replace hu := Lib.hid hu
        go_wp2_with (go_at_call 118; refine hk'.out.mono ?_; rintro e w' ⟨rfl, hB1⟩)
        go_roundw
        case rel =>
          refine ⟨j + 1, by omega, by go_num, hB.trans (hB1.mono hB.size), fun i a h h3 => ?_⟩
          by_cases hij : i = j
          · subst hij
            obtain rfl : x.nm = a := by have := hx2.out; rw [h] at this; exact (Option.some.inj this).symm
            exact hu.out
          · exact hp.out i a h (by omega)
        case measure => simp [intOf]; omega
    · have g1 : ¬ (j : Int) < l.length := by omega
      obtain rfl : b = -1 := by
        rw [← hc.out]
        exact placeI_none fun i a h => hp.out i a h (by have := (List.getElem?_eq_some_iff.1 h).1; simp at this; omega)
      go_wp2
      go_ret
      exact ⟨rfl, hB⟩
end evW
end Go.Proofs.YtmadafejenjkcaaDoor
