/- The comparison of two matches that read alike. -/
import Derived.Test.YtfnejelbacpheaaMatch
namespace Go.Proofs.Ytfnejelbacpheaa.cascadeDerivesW
open Go.RowKit Go.Deep
set_option linter.unusedVariables false

def SM (w wr : World) (cs1 cs2 : List Value) : Prop := Below w.heap.size w wr ∧ Blk wr w.heap.size 33 cs1 ∧ Blk wr (w.heap.size + 1) 33 cs2
theorem SM.drewN {w wr : World} {cs1 cs2 : List Value} (h : SM w wr cs1 cs2) (k : Nat) : SM w (wr.drewN k) cs1 cs2 := ⟨below_drewN h.1 k, h.2.1.drewN k, h.2.2.drewN k⟩

set_option maxHeartbeats 1600000 in
theorem same_any (A1 A2 A3 B1 B2 B3 : Option Addr) (c1 c2 c3 d1 d2 d3 : Nat) (F G : Nat → Prop) (m : Mt) (w : World) (hm : Small m) (hF : ∀ b, F b → b < w.heap.size) (hG : ∀ b, G b → b < w.heap.size)
    (r1 : Rd w F (.slice A1 m.names.length c1) (.sl m.names.length (m.names.flatMap nameD))) (r2 : Rd w F (.slice A2 m.lens.length c2) (.sl m.lens.length (m.lens.flatMap (intD .i64)))) (r3 : Rd w F (.slice A3 m.vals.length c3) (.sl m.vals.length (m.vals.flatMap valD)))
    (e1 : Rd w G (.slice B1 m.names.length d1) (.sl m.names.length (m.names.flatMap nameD))) (e2 : Rd w G (.slice B2 m.lens.length d2) (.sl m.lens.length (m.lens.flatMap (intD .i64)))) (e3 : Rd w G (.slice B3 m.vals.length d3) (.sl m.vals.length (m.vals.flatMap valD))) :
    Calls Try.prog 16 #[.agg #[.int .i64 m.dec, .slice A1 m.names.length c1, .slice A2 m.lens.length c2, .slice A3 m.vals.length c3], .agg #[.int .i64 m.dec, .slice B1 m.names.length d1, .slice B2 m.lens.length d2, .slice B3 m.vals.length d3]] w
      fun e w' => e = .returned (.bool true) ∧ Below w.heap.size w w' := by
  unfold Small at hm
  obtain ⟨s1, s2, s3⟩ := hm
  go_enter Try.func16, Try.ntmps16
  go_wp2
  have h0 : SM w ((w.alloc (.cells #[.int .i64 m.dec, .slice A1 m.names.length c1, .slice A2 m.lens.length c2, .slice A3 m.vals.length c3] 33)).alloc (.cells #[.int .i64 m.dec, .slice B1 m.names.length d1, .slice B2 m.lens.length d2, .slice B3 m.vals.length d3] 33))
      [.int .i64 m.dec, .slice A1 m.names.length c1, .slice A2 m.lens.length c2, .slice A3 m.vals.length c3] [.int .i64 m.dec, .slice B1 m.names.length d1, .slice B2 m.lens.length d2, .slice B3 m.vals.length d3] :=
    ⟨((Below.refl _ _).alloc (Nat.le_refl _) _).alloc (by simp) _, (Blk.new _ _ _).alloc _, Blk.new' (by simp)⟩
  go_loopw [5] (fun i wr => ∃ k : Nat, k ≤ m.names.length ∧ i = .int .i64 k ∧ SM w wr [.int .i64 m.dec, .slice A1 m.names.length c1, .slice A2 m.lens.length c2, .slice A3 m.vals.length c3] [.int .i64 m.dec, .slice B1 m.names.length d1, .slice B2 m.lens.length d2, .slice B3 m.vals.length d3]) (fun i _ => m.names.length - (intOf i).toNat)
  case atStart => exact ⟨0, Nat.zero_le _, rfl, h0⟩
  case round =>
    clear h0
    obtain ⟨k, hk, rfl, h0⟩ := hrel
    have z1 : wr.cell? ⟨w.heap.size, 1, none⟩ = some (.slice A1 m.names.length c1) := h0.2.1.cell 1
    have z2 : wr.cell? ⟨w.heap.size + 1, 1, none⟩ = some (.slice B1 m.names.length d1) := h0.2.2.cell 1
    by_cases hlt : k < m.names.length
    · obtain ⟨x, hx⟩ := getx hlt
      obtain ⟨b, off, rfl, _, ha, _⟩ := (r1.under h0.1 hF).rowv (m := 2) (fun _ => rfl) hx (by omega)
      obtain ⟨b', off', rfl, _, hb, _⟩ := (e1.under h0.1 hG).rowv (m := 2) (fun _ => rfl) hx (by omega)
      have a0 : wr.cell? ⟨b, off + k * 2, none⟩ = some (.int .i64 x.1) := ha 0 _ rfl
      have b0 : wr.cell? ⟨b', off' + k * 2, none⟩ = some (.int .i64 x.1) := hb 0 _ rfl
      have a1 : wr.cell? ⟨b, off + k * 2 + 1, none⟩ = some (.int .u64 x.2) := ha 1 _ rfl
      have b1 : wr.cell? ⟨b', off' + k * 2 + 1, none⟩ = some (.int .u64 x.2) := hb 1 _ rfl
      have g0 : (0 : Int) ≤ (k : Int) := by omega
      have g1 : (k : Int) < m.names.length := by omega
      replace h0 := Lib.hid h0
      clear ha hb hx
      go_wp2
      go_quiet (fail)
      go_wp2
      go_roundw
      case rel => exact ⟨k + 1, by omega, by go_num, h0.out.drewN _⟩
      case measure => simp [intOf]; omega
    · obtain ⟨w0, hw0⟩ : ∃ w0 : World, w0 = wr := ⟨_, rfl⟩
      subst hw0
      go_wp2
      clear z1 z2
      go_loopw [6] (fun i wr => ∃ k : Nat, k ≤ m.lens.length ∧ i = .int .i64 k ∧ SM w wr [.int .i64 m.dec, .slice A1 m.names.length c1, .slice A2 m.lens.length c2, .slice A3 m.vals.length c3] [.int .i64 m.dec, .slice B1 m.names.length d1, .slice B2 m.lens.length d2, .slice B3 m.vals.length d3]) (fun i _ => m.lens.length - (intOf i).toNat)
      case atStart => exact ⟨0, Nat.zero_le _, rfl, h0⟩
      case round =>
        clear h0
        obtain ⟨k, hk, rfl, h0⟩ := hrel
        have z1 : wr.cell? ⟨w.heap.size, 2, none⟩ = some (.slice A2 m.lens.length c2) := h0.2.1.cell 2
        have z2 : wr.cell? ⟨w.heap.size + 1, 2, none⟩ = some (.slice B2 m.lens.length d2) := h0.2.2.cell 2
        by_cases hlt : k < m.lens.length
        · obtain ⟨x, hx⟩ := getx hlt
          obtain ⟨b, off, rfl, _, ha, _⟩ := (r2.under h0.1 hF).rowv (m := 1) (fun _ => rfl) hx (by omega)
          obtain ⟨b', off', rfl, _, hb, _⟩ := (e2.under h0.1 hG).rowv (m := 1) (fun _ => rfl) hx (by omega)
          have a0 : wr.cell? ⟨b, off + k, none⟩ = some (.int .i64 x) := by have := ha 0 _ rfl; rwa [Nat.mul_one, Nat.add_zero] at this
          have b0 : wr.cell? ⟨b', off' + k, none⟩ = some (.int .i64 x) := by have := hb 0 _ rfl; rwa [Nat.mul_one, Nat.add_zero] at this
          have g0 : (0 : Int) ≤ (k : Int) := by omega
          have g1 : (k : Int) < m.lens.length := by omega
          replace h0 := Lib.hid h0
          clear ha hb hx
          go_wp2
          go_quiet (fail)
          go_wp2
          go_roundw
          case rel => exact ⟨k + 1, by omega, by go_num, h0.out.drewN _⟩
          case measure => simp [intOf]; omega
        · obtain ⟨w1, hw1⟩ : ∃ w1 : World, w1 = wr := ⟨_, rfl⟩
          subst hw1
          go_wp2
          clear z1 z2
          go_loopw [7] (fun i wr => ∃ k : Nat, k ≤ m.vals.length ∧ i = .int .i64 k ∧ SM w wr [.int .i64 m.dec, .slice A1 m.names.length c1, .slice A2 m.lens.length c2, .slice A3 m.vals.length c3] [.int .i64 m.dec, .slice B1 m.names.length d1, .slice B2 m.lens.length d2, .slice B3 m.vals.length d3]) (fun i _ => m.vals.length - (intOf i).toNat)
          case atStart => exact ⟨0, Nat.zero_le _, rfl, h0⟩
          case round =>
            clear h0
            obtain ⟨k, hk, rfl, h0⟩ := hrel
            have z1 : wr.cell? ⟨w.heap.size, 3, none⟩ = some (.slice A3 m.vals.length c3) := h0.2.1.cell 3
            have z2 : wr.cell? ⟨w.heap.size + 1, 3, none⟩ = some (.slice B3 m.vals.length d3) := h0.2.2.cell 3
            by_cases hlt : k < m.vals.length
            · obtain ⟨x, hx⟩ := getx hlt
              obtain ⟨b, off, rfl, _, ha, _⟩ := (r3.under h0.1 hF).rowv (m := 2) (fun _ => rfl) hx (by omega)
              obtain ⟨b', off', rfl, _, hb, _⟩ := (e3.under h0.1 hG).rowv (m := 2) (fun _ => rfl) hx (by omega)
              have a0 : wr.cell? ⟨b, off + k * 2, none⟩ = some (.bool x.1) := ha 0 _ rfl
              have b0 : wr.cell? ⟨b', off' + k * 2, none⟩ = some (.bool x.1) := hb 0 _ rfl
              have a1 : wr.cell? ⟨b, off + k * 2 + 1, none⟩ = some (.int .i64 x.2) := ha 1 _ rfl
              have b1 : wr.cell? ⟨b', off' + k * 2 + 1, none⟩ = some (.int .i64 x.2) := hb 1 _ rfl
              have g0 : (0 : Int) ≤ (k : Int) := by omega
              have g1 : (k : Int) < m.vals.length := by omega
              replace h0 := Lib.hid h0
              clear ha hb hx
              go_wp2
              go_quiet (fail)
              go_wp2
              go_roundw
              case rel => exact ⟨k + 1, by omega, by go_num, h0.out.drewN _⟩
              case measure => simp [intOf]; omega
            · obtain ⟨w2, hw2⟩ : ∃ w2 : World, w2 = wr := ⟨_, rfl⟩
              subst hw2
              go_wp2
              go_ret
              exact ⟨rfl, h0.1⟩
end Go.Proofs.Ytfnejelbacpheaa.cascadeDerivesW
