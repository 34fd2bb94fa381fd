/- The document's answer for changed schemas: places of names, rows of attributes. -/
import Derived.Test.YtmadafejenjkcaaDoorV
import Derived.Deep.RegionLaw
import Derived.Deep.DeepCutAuto
namespace Go.Proofs.YtmadafejenjkcaaDoor
open Go.RowKit Go.Deep
set_option linter.unusedVariables false

theorem optI_place (l : List ByteArray) (s : ByteArray) : optI (idxA l s) = placeI l s := by unfold placeI idxA optI; cases l.findIdx? (fun a => decide (a = s)) <;> rfl
theorem elFd : ElT Tryd.prog 73 77 3 32 := .of Tryd.underlying73 (by kernel_rfl) (by omega)
theorem elKd : ElT Tryd.prog 65 75 3 48 := .of Tryd.underlying65 (by kernel_rfl) (by omega)
theorem er_step {α : Type} {l : List α} {j k : Nat} {x : α} (h : l[j]? = some x) (hne : j ≠ k) : (l.take (j + 1)).eraseIdx k = (l.take j).eraseIdx k ++ [x] := by
  have hj := (List.getElem?_eq_some_iff.1 h).1
  rw [List.take_add_one, h]
  rcases Nat.lt_or_gt_of_ne hne with hlt | hgt
  · rw [List.eraseIdx_of_length_le (by simp; omega), List.eraseIdx_of_length_le (by simp; omega)]; rfl
  · rw [List.eraseIdx_append_of_lt_length (by simp; omega)]; rfl
theorem er_same {α : Type} {l : List α} {k : Nat} {x : α} (h : l[k]? = some x) : (l.take (k + 1)).eraseIdx k = (l.take k).eraseIdx k := by
  have hj := (List.getElem?_eq_some_iff.1 h).1
  have e1 : (l.take k).length = k := by simp; omega
  rw [List.take_add_one, h, List.eraseIdx_append_of_length_le (by omega), e1, Nat.sub_self, List.eraseIdx_of_length_le (l := l.take k) (by omega)]
  simp

namespace evW
open nmW
set_option maxHeartbeats 400000 in
theorem typeAt_k (A : Option Addr) (c : Nat) (F : Nat → Prop) (l : List Kd) (s : ByteArray) (hl : l.length ≤ 1048576) (w : World) (r : Rd w F (.slice A l.length c) (.sl l.length (l.flatMap kdD))) :
    Calls Tryd.prog 66 #[.slice A l.length c, .string s] w fun e w' => e = .returned (.int .i64 (optI (tyAt l s))) ∧ w' = w := by
  rw [tyAt, optI_place]
  replace r := Lib.hid r
  generalize hc : placeI (l.map (·.nm)) s = b
  replace hc := Lib.hid hc
  go_enter Tryd.func66, Tryd.ntmps66
  go_wp2
  go_loopw [5] (fun i wr => ∃ j : Nat, j ≤ l.length ∧ i = .int .i64 j ∧ wr = w ∧ (∀ (i : Nat) a, (l.map (·.nm))[i]? = some a → i < j → a ≠ s)) (fun i _ => l.length - (intOf i).toNat)
  case atStart => exact ⟨0, Nat.zero_le _, rfl, rfl, fun i a h h3 => by omega⟩
  case round =>
    obtain ⟨j, hj, rfl, rfl, hp⟩ := hrel
    replace hp := Lib.hid hp
    by_cases hlt : j < l.length
    · obtain ⟨x, hx⟩ := getx hlt
      obtain ⟨g, off, rfl, _, ha, _⟩ := r.out.rowv (m := 3) (fun _ => rfl) hx (by omega)
      have a0 : wr.cell? ⟨g, off + j * 3, none⟩ = some (.string x.nm) := ha 0 _ rfl
      have g0 : (0 : Int) ≤ (j : Int) := by omega
      have g1 : (j : Int) < l.length := by omega
      have hx2 : (l.map (·.nm))[j]? = some x.nm := by rw [List.getElem?_map, hx]; rfl
      replace hx2 := Lib.hid hx2
      clear ha hx
      by_cases hu : x.nm = s
      · have hu' : (x.nm.toList == s.toList) = true := by rw [beq_bytes]; exact decide_eq_true hu
        obtain rfl : b = (j : Int) := by rw [← hc.out]; exact placeI_at (by rw [hx2.out, hu]) hp.out
        replace hu := Lib.hid hu
        go_wp2
        go_ret
        exact ⟨rfl, rfl⟩
      · have hu' : (x.nm.toList == s.toList) = false := by rw [beq_bytes]; exact decide_eq_false hu
        replace hu := Lib.hid hu
        go_wp2
        go_roundw
        case rel =>
          refine ⟨j + 1, by omega, by go_num, by trivial, fun i a h h3 => ?_⟩
          by_cases hij : i = j
          · subst hij
            obtain rfl : x.nm = a := by have := hx2.out; rw [h] at this; exact (Option.some.inj this).symm
            exact hu.out
          · exact hp.out i a h (by omega)
        case measure => simp [intOf]; omega
    · have g1 : ¬ (j : Int) < l.length := by omega
      have g2 : decide (j < l.length) = false := decide_eq_false hlt
      obtain rfl : b = -1 := by
        rw [← hc.out]
        exact placeI_none fun i a h => hp.out i a h (by have := (List.getElem?_eq_some_iff.1 h).1; simp at this; omega)
      go_wp2
      go_ret
      exact ⟨rfl, rfl⟩

set_option maxHeartbeats 400000 in
theorem attrAt_k (A : Option Addr) (c : Nat) (F : Nat → Prop) (l : List Fd) (s : ByteArray) (hl : l.length ≤ 1048576) (w : World) (r : Rd w F (.slice A l.length c) (.sl l.length (l.flatMap fdD))) :
    Calls Tryd.prog 92 #[.slice A l.length c, .string s] w fun e w' => e = .returned (.int .i64 (optI (flAt l s))) ∧ w' = w := by
  rw [flAt, optI_place]
  replace r := Lib.hid r
  generalize hc : placeI (l.map (·.nm)) s = b
  replace hc := Lib.hid hc
  go_enter Tryd.func92, Tryd.ntmps92
  go_wp2
  go_loopw [5] (fun i wr => ∃ j : Nat, j ≤ l.length ∧ i = .int .i64 j ∧ wr = w ∧ (∀ (i : Nat) a, (l.map (·.nm))[i]? = some a → i < j → a ≠ s)) (fun i _ => l.length - (intOf i).toNat)
  case atStart => exact ⟨0, Nat.zero_le _, rfl, rfl, fun i a h h3 => by omega⟩
  case round =>
    obtain ⟨j, hj, rfl, rfl, hp⟩ := hrel
    replace hp := Lib.hid hp
    by_cases hlt : j < l.length
    · obtain ⟨x, hx⟩ := getx hlt
      obtain ⟨g, off, rfl, _, ha, _⟩ := r.out.rowv (m := 3) (fun _ => rfl) hx (by omega)
      have a0 : wr.cell? ⟨g, off + j * 3, none⟩ = some (.string x.nm) := ha 0 _ rfl
      have g0 : (0 : Int) ≤ (j : Int) := by omega
      have g1 : (j : Int) < l.length := by omega
      have hx2 : (l.map (·.nm))[j]? = some x.nm := by rw [List.getElem?_map, hx]; rfl
      replace hx2 := Lib.hid hx2
      clear ha hx
      by_cases hu : x.nm = s
      · have hu' : (x.nm.toList == s.toList) = true := by rw [beq_bytes]; exact decide_eq_true hu
        obtain rfl : b = (j : Int) := by rw [← hc.out]; exact placeI_at (by rw [hx2.out, hu]) hp.out
        replace hu := Lib.hid hu
        go_wp2
        go_ret
        exact ⟨rfl, rfl⟩
      · have hu' : (x.nm.toList == s.toList) = false := by rw [beq_bytes]; exact decide_eq_false hu
        replace hu := Lib.hid hu
        go_wp2
        go_roundw
        case rel =>
          refine ⟨j + 1, by omega, by go_num, by trivial, fun i a h h3 => ?_⟩
          by_cases hij : i = j
          · subst hij
            obtain rfl : x.nm = a := by have := hx2.out; rw [h] at this; exact (Option.some.inj this).symm
            exact hu.out
          · exact hp.out i a h (by omega)
        case measure => simp [intOf]; omega
    · have g1 : ¬ (j : Int) < l.length := by omega
      have g2 : decide (j < l.length) = false := decide_eq_false hlt
      obtain rfl : b = -1 := by
        rw [← hc.out]
        exact placeI_none fun i a h => hp.out i a h (by have := (List.getElem?_eq_some_iff.1 h).1; simp at this; omega)
      go_wp2
      go_ret
      exact ⟨rfl, rfl⟩

set_option maxHeartbeats 400000 in
theorem without_k (A : Option Addr) (c : Nat) (F : Nat → Prop) (l : List Fd) (k : Nat) (hl : l.length ≤ 1048576) (w : World) (hF : ∀ b, F b → b < w.heap.size) (r : Rd w F (.slice A l.length c) (.sl l.length (l.flatMap fdD))) :
    Calls Tryd.prog 93 #[.slice A l.length c, .int .i64 k] w fun e w' => ∃ v, e = .returned v ∧ OL w' w.heap.size (fun _ => False) 77 3 v (l.eraseIdx k).length ((l.eraseIdx k).flatMap fdD) ∧ Below w.heap.size w w' := by
  replace r := Lib.hid r
  replace hF := Lib.hid hF
  go_enter Tryd.func93, Tryd.ntmps93
  go_wp2
  go_loopw [5, 6] (fun v x wr => ∃ j : Nat, j ≤ l.length ∧ x = .int .i64 j ∧ OL wr w.heap.size (fun _ => False) 77 3 v ((l.take j).eraseIdx k).length (((l.take j).eraseIdx k).flatMap fdD) ∧ Below w.heap.size w wr) (fun _ x _ => l.length - (intOf x).toNat)
  case atStart => exact ⟨0, Nat.zero_le _, rfl, .nil _ _ _ _ _, .refl _ _⟩
  case round =>
    obtain ⟨j, hj, rfl, hO, hB⟩ := hrel
    by_cases hlt : j < l.length
    · obtain ⟨e, he⟩ := getx hlt
      have g0 : (0 : Int) ≤ (j : Int) := by omega
      have g1 : (j : Int) < l.length := by omega
      have hsz := hB.size
      by_cases hk : j = k
      · subst hk
        have hE := er_same he
        replace hE := Lib.hid hE
        clear he
        go_wp2
        go_roundw
        case rel => exact ⟨j + 1, by omega, by go_num, by rw [hE.out]; exact hO, hB⟩
        case measure => simp [intOf]; omega
      · have hE := er_step (k := k) he hk
        have hle : ((l.take j).eraseIdx k).length ≤ 1048576 := by
          have := List.length_eraseIdx_le (l.take j) k
          simp at this ⊢; omega
        have hki : ¬ ((j : Int) = k) := by omega
        obtain ⟨b, off, rfl, _, hv, _⟩ := (r.out.under hB hF.out).rowv (m := 3) (fun _ => rfl) he (by omega)
        have x0 : wr.cell? ⟨b, off + j * 3, none⟩ = some (.string e.nm) := hv 0 _ rfl
        have x1 : wr.cell? ⟨b, off + j * 3 + 1, none⟩ = some (.int .i64 e.fr) := hv 1 _ rfl
        have x2 : wr.cell? ⟨b, off + j * 3 + 2, none⟩ = some (.int .i64 e.fl) := hv 2 _ rfl
        replace hE := Lib.hid hE
        clear hv he
        go_wp2_with (at_builtin; refine wpList_app rfl (.tmp 16) (.tmp 21) _ rfl (m := 1) (news := fdD e) elFd (hO.alloc (.cells ⟨fdV e⟩ 77)) rfl rfl (Src.lit (fdD_rd wr _ e)) rfl (by omega) (by omega) (by simp; omega) ?_; intro v' w1 hO1 hg1 ha1)
        go_roundw
        case rel =>
          refine ⟨j + 1, by omega, by go_num, ?_, (hB.alloc hB.size (.cells ⟨fdV e⟩ 77)).grown hg1 (by simp; omega) (fun q hq => (hO.lt q hq).1)⟩
          rw [hE.out]
          simpa using hO1
        case measure => simp [intOf]; omega
    · obtain rfl : j = l.length := by omega
      rw [List.take_length] at hO
      go_wp2
      go_ret
      exact ⟨_, rfl, hO, hB⟩
end evW
end Go.Proofs.YtmadafejenjkcaaDoor
