/- The document's reader: looks at a piece. -/
import Derived.Test.YtmadafejenjkcaaDoorH7
import Derived.Deep.QuietTactic
import Derived.BigQuiet
namespace Go.Proofs.YtmadafejenjkcaaDoor
open Go.RowKit Go.Deep
set_option linter.unusedVariables false
set_option linter.unusedSimpArgs false

/-- a piece's cells -/
theorem pc_at {w : World} {F : Nat → Prop} {A : Option Addr} {c i : Nat} {L : List Pc} {p : Pc} (r : Rd w F (.slice A L.length c) (.sl L.length (L.flatMap pcD))) (hp : L[i]? = some p) : ∃ b off, A = some ⟨b, off, none⟩ ∧
    w.cell? ⟨b, off + i * 3, none⟩ = some (.int .i64 p.a) ∧ w.cell? ⟨b, off + i * 3 + 1, none⟩ = some (.int .i64 p.e) ∧ w.cell? ⟨b, off + i * 3 + 2, none⟩ = some (.bool p.w) := by
  obtain ⟨b, off, rfl, _, ha, _⟩ := r.rowv (m := 3) (fun _ => rfl) hp (by omega)
  exact ⟨b, off, rfl, ha 0 _ rfl, ha 1 _ rfl, ha 2 _ rfl⟩
theorem sl_of {T : ByteArray} {p : Pc} (h : PcOk T p) (W : World) : (Instr.slice 9 (.string T) (some (.int .i64 p.a)) (some (.int .i64 p.e)) none).run Tryd.prog W = .ok (.string (T.extract p.a p.e)) W := by
  have := run_slice_string (P := Tryd.prog) W 9 T .i64 .i64 p.a p.e Tryd.underlying9 (by omega) (by have := h.lt; omega) (by have := h.le; omega)
  simpa using this
/-- the document's errors -/
noncomputable def nmR (T : ByteArray) (L : List Pc) (i : Nat) (ts : List Td) : Int := if wdP T L i = false then 21 else nameC ts (wtP T L i)
noncomputable def atR (T : ByteArray) (L : List Pc) (i : Nat) (l : List ByteArray) : Int := if wdP T L i = false then 21 else attrC l (wtP T L i)
namespace hbW
open nmW
set_option maxHeartbeats 1600000 in
theorem is_k (T : ByteArray) (A : Option Addr) (c : Nat) (F : Nat → Prop) (L : List Pc) (hl : L.length ≤ 1048576) (hL : ∀ p ∈ L, PcOk T p) (i : Nat) (x : ByteArray) (w : World) (r : Rd w F (.slice A L.length c) (.sl L.length (L.flatMap pcD))) :
    Calls Tryd.prog 71 #[.string T, .slice A L.length c, .int .i64 i, .string x] w fun e w' => e = .returned (.bool (isP T L i x)) ∧ Below w.heap.size w w' := by
  by_cases hlt : i < L.length
  · obtain ⟨p, hp⟩ := getx hlt
    obtain ⟨b, off, rfl, a0, a1, a2⟩ := pc_at r hp
    have hsl := sl_of (hL p (List.mem_of_getElem? hp))
    have hb : isP T L i x = ((T.extract p.a p.e).toList == x.toList) := by unfold isP; rw [hp, beq_bytes]
    generalize T.extract p.a p.e = X at hsl hb
    rw [hb]
    have g0 : (0 : Int) ≤ (i : Int) := by omega
    have g1 : (i : Int) < L.length := by omega
    replace hp := Lib.hid hp
    clear hb r hL
    go_enter Tryd.func71, Tryd.ntmps71
    go_wp2
    go_quiet (fail)
    go_wp2
    go_ret
    exact ⟨rfl, below_drewN (Below.refl _ _) _⟩
  · have g1 : ¬ (i : Int) < L.length := by omega
    have g2 : decide (i < L.length) = false := decide_eq_false hlt
    have hb : isP T L i x = false := by unfold isP; rw [List.getElem?_eq_none (by omega)]
    rw [hb]
    clear r hL hb
    go_enter Tryd.func71, Tryd.ntmps71
    go_wp2
    go_quiet (fail)
    go_wp2
    go_ret
    exact ⟨rfl, below_drewN (Below.refl _ _) _⟩

set_option maxHeartbeats 1600000 in
theorem wordAt_k (T : ByteArray) (A : Option Addr) (c : Nat) (F : Nat → Prop) (L : List Pc) (hl : L.length ≤ 1048576) (hL : ∀ p ∈ L, PcOk T p) (i : Nat) (w : World) (r : Rd w F (.slice A L.length c) (.sl L.length (L.flatMap pcD))) :
    Calls Tryd.prog 97 #[.string T, .slice A L.length c, .int .i64 i] w fun e w' => e = .returned (.bool (wdP T L i)) ∧ w' = w := by
  have k1 := Lib.hid digit_k
  by_cases hlt : i < L.length
  · obtain ⟨p, hp⟩ := getx hlt
    obtain ⟨b, off, rfl, a0, a1, a2⟩ := pc_at r hp
    have ho := hL p (List.mem_of_getElem? hp)
    have hpl : p.a < T.size := by have := ho.lt; have := ho.le; omega
    have hb : wdP T L i = (p.w && !digN (T[p.a]'hpl).toNat) := by unfold wdP chr; rw [hp]; simp only; rw [dif_pos hpl]
    rw [hb]
    have g0 : (0 : Int) ≤ (i : Int) := by omega
    have g1 : (i : Int) < L.length := by omega
    have g3 : (0 : Int) ≤ (p.a : Int) := by omega
    have g4 : (p.a : Int) < T.size := by omega
    replace hp := Lib.hid hp
    replace ho := Lib.hid ho
    clear hb r hL
    cases hw : p.w with
    | false =>
      rw [hw] at a2
      go_enter Tryd.func97, Tryd.ntmps97
      go_wp2
      go_ret
      exact ⟨rfl, rfl⟩
    | true =>
      rw [hw] at a2
      cases hd : digN (T[p.a]'hpl).toNat with
      | false =>
        replace hd := Lib.hid hd
        go_enter Tryd.func97, Tryd.ntmps97
        go_wp2_with (go_at_call 96; refine (k1.out _ _).mono ?_; rw [hd.out]; rintro e W ⟨rfl, hW⟩; obtain rfl := hW.symm)
        go_ret
        exact ⟨rfl, rfl⟩
      | true =>
        replace hd := Lib.hid hd
        go_enter Tryd.func97, Tryd.ntmps97
        go_wp2_with (go_at_call 96; refine (k1.out _ _).mono ?_; rw [hd.out]; rintro e W ⟨rfl, hW⟩; obtain rfl := hW.symm)
        go_ret
        exact ⟨rfl, rfl⟩
  · have g1 : ¬ (i : Int) < L.length := by omega
    have g2 : decide (i < L.length) = false := decide_eq_false hlt
    have hb : wdP T L i = false := by unfold wdP; rw [List.getElem?_eq_none (by omega)]
    rw [hb]
    clear r hL hb
    go_enter Tryd.func97, Tryd.ntmps97
    go_wp2
    go_ret
    exact ⟨rfl, rfl⟩

set_option maxHeartbeats 1600000 in
theorem placeAt_k (T : ByteArray) (A : Option Addr) (c : Nat) (F : Nat → Prop) (L : List Pc) (hl : L.length ≤ 1048576) (i : Nat) (w : World) (r : Rd w F (.slice A L.length c) (.sl L.length (L.flatMap pcD))) :
    Calls Tryd.prog 51 #[.string T, .slice A L.length c, .int .i64 i] w fun e w' => e = .returned (.int .i64 (plA T L i)) ∧ w' = w := by
  by_cases hlt : i < L.length
  · obtain ⟨p, hp⟩ := getx hlt
    obtain ⟨b, off, rfl, a0, a1, a2⟩ := pc_at r hp
    have hb : plA T L i = p.a := by unfold plA; rw [hp]
    rw [hb]
    have g0 : (0 : Int) ≤ (i : Int) := by omega
    have g1 : (i : Int) < L.length := by omega
    replace hp := Lib.hid hp
    clear hb r
    go_enter Tryd.func51, Tryd.ntmps51
    go_wp2
    go_ret
    exact ⟨rfl, rfl⟩
  · have g1 : ¬ (i : Int) < L.length := by omega
    have g2 : decide (i < L.length) = false := decide_eq_false hlt
    have hb : plA T L i = T.size := by unfold plA; rw [List.getElem?_eq_none (by omega)]
    rw [hb]
    clear r hb
    go_enter Tryd.func51, Tryd.ntmps51
    go_wp2
    go_ret
    exact ⟨rfl, rfl⟩
end hbW
end Go.Proofs.YtmadafejenjkcaaDoor
