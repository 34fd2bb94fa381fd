/- Lists of names and schemas that read alike are the same; slices.Clone. -/
import Derived.Test.YtfnejelbacpheaaDoorTw
import Derived.Deep.QuietTactic
import Derived.BigQuiet
namespace Go.Proofs.YtfnejelbacpheaaDoor
open Go.RowKit Go.Deep
set_option linter.unusedVariables false
namespace nmW
set_option maxHeartbeats 400000 in
theorem sameStrings_q (A B : Option Addr) (c d : Nat) (F G : Nat → Prop) (l : List ByteArray) (hl : l.length ≤ 1048576) (w : World) (r : Rd w F (.slice A l.length c) (.sl l.length (l.flatMap strD))) (s : Rd w G (.slice B l.length d) (.sl l.length (l.flatMap strD))) :
    Calls Tryd.prog 17 #[.slice A l.length c, .slice B l.length d] w fun e w' => e = .returned (.bool true) ∧ ∃ q, w' = w.drewN q := by
  go_enter Tryd.func17, Tryd.ntmps17
  go_wp2
  go_loopw [5] (fun x wr => ∃ k q : Nat, k ≤ l.length ∧ x = .int .i64 k ∧ wr = w.drewN q) (fun x _ => l.length - (intOf x).toNat)
  case atStart => exact ⟨0, 0, Nat.zero_le _, rfl, by first | rfl | simp [World.drewN]⟩
  case round =>
    obtain ⟨k, q, hk, rfl, rfl⟩ := hrel
    by_cases hlt : k < l.length
    · obtain ⟨x, hx⟩ := getx hlt
      obtain ⟨b, off, rfl, hFb, a0⟩ := r.at_ hx
      obtain ⟨b', off', rfl, hGb, b0⟩ := s.at_ hx
      have g0 : (0 : Int) ≤ (k : Int) := by omega
      have g1 : (k : Int) < l.length := by omega
      clear hx
      go_wp2
      go_quiet (fail)
      go_wp2
      go_roundw
      case rel => exact ⟨k + 1, _, by omega, by go_num, by first | rfl | simp⟩
      case measure => simp [intOf]; omega
    · obtain rfl : k = l.length := by omega
      go_wp2
      go_ret
      exact ⟨rfl, _, rfl⟩
theorem sameStrings_k (A B : Option Addr) (c d : Nat) (F G : Nat → Prop) (l : List ByteArray) (hl : l.length ≤ 1048576) (w : World) (r : Rd w F (.slice A l.length c) (.sl l.length (l.flatMap strD))) (s : Rd w G (.slice B l.length d) (.sl l.length (l.flatMap strD))) :
    Calls Tryd.prog 17 #[.slice A l.length c, .slice B l.length d] w fun e w' => e = .returned (.bool true) ∧ Below w.heap.size w w' :=
  (sameStrings_q A B c d F G l hl w r s).mono fun e w' ⟨he, q, hw⟩ => ⟨he, by rw [hw]; exact below_drewN (Below.refl _ _) q⟩

/-- two schemas in their boxes -/
def SB (w wr : World) (v u : Value) : Prop := Below w.heap.size w wr ∧ Blk wr w.heap.size 24 [v] ∧ Blk wr (w.heap.size + 1) 24 [u]
theorem SB.stay {w wr w2 : World} {v u : Value} (h : SB w wr v u) (hb : Below wr.heap.size wr w2) : SB w w2 v u := ⟨h.1.trans (hb.mono h.1.size), h.2.1.stay hb, h.2.2.stay hb⟩
theorem SB.drewN {w wr : World} {v u : Value} (h : SB w wr v u) (k : Nat) : SB w (wr.drewN k) v u := h.stay (below_drewN (Below.refl _ _) k)

set_option maxHeartbeats 400000 in
theorem sameSchema_k (A B : Option Addr) (c d : Nat) (F G : Nat → Prop) (l : List Td) (hl : SzT l) (w : World) (hF : ∀ b, F b → b < w.heap.size) (hG : ∀ b, G b → b < w.heap.size) (r : Rd w F (.slice A l.length c) (.sl l.length (l.flatMap tdD))) (s : Rd w G (.slice B l.length d) (.sl l.length (l.flatMap tdD))) :
    Calls Tryd.prog 8 #[.agg #[.slice A l.length c], .agg #[.slice B l.length d]] w fun e w' => e = .returned (.bool true) ∧ Below w.heap.size w w' := by
  have k1 := Lib.hid sameStrings_q
  obtain ⟨hl1, hl2⟩ := hl
  replace hl2 := Lib.hid hl2
  replace hF := Lib.hid hF
  replace hG := Lib.hid hG
  replace r := Lib.hid r
  replace s := Lib.hid s
  go_enter Tryd.func8, Tryd.ntmps8
  go_wp2
  go_loopw [5, 6] (fun x _ wr => ∃ k : Nat, k ≤ l.length ∧ x = .int .i64 k ∧ SB w wr (.slice A l.length c) (.slice B l.length d)) (fun x _ _ => l.length - (intOf x).toNat)
  case atStart => exact ⟨0, Nat.zero_le _, rfl, ((Below.refl _ _).alloc (Nat.le_refl _) _).alloc (by simp) _, (Blk.new _ _ _).alloc _, Blk.new' (by simp)⟩
  case round =>
    obtain ⟨k, hk, rfl, hS⟩ := hrel
    have z0 : wr.cell? ⟨w.heap.size, 0, none⟩ = some (.slice A l.length c) := hS.2.1.cell 0
    have z1 : wr.cell? ⟨w.heap.size + 1, 0, none⟩ = some (.slice B l.length d) := hS.2.2.cell 0
    by_cases hlt : k < l.length
    · obtain ⟨t, ht⟩ := getx hlt
      obtain ⟨hs1, hs2, hs3⟩ := hl2.out t (List.mem_of_getElem? ht)
      obtain ⟨b, off, rfl, hFb, hv, hsl⟩ := (r.out.under hS.1 hF.out).rowv (m := 2) (fun _ => rfl) ht (by omega)
      obtain ⟨A2, c2, a1, r2⟩ := hsl 1 _ _ rfl
      have a0 : wr.cell? ⟨b, off + k * 2, none⟩ = some (.string t.name) := hv 0 _ rfl
      obtain ⟨b', off', rfl, hGb, hv', hsl'⟩ := (s.out.under hS.1 hG.out).rowv (m := 2) (fun _ => rfl) ht (by omega)
      obtain ⟨B2, d2, b1, s2⟩ := hsl' 1 _ _ rfl
      have b0 : wr.cell? ⟨b', off' + k * 2, none⟩ = some (.string t.name) := hv' 0 _ rfl
      have g0 : (0 : Int) ≤ (k : Int) := by omega
      have g1 : (k : Int) < l.length := by omega
      replace r2 := Lib.hid r2
      replace s2 := Lib.hid s2
      have hS' := Lib.hid hS
      clear hv hsl hv' hsl' hS ht hs3
      have e0 := (World.block_lt_of_cell? wr _ a0)
      have e1 := (World.block_lt_of_cell? wr _ b0)
      go_wp2
      go_quiet ((go_at_call 17; exact Calls.quiet_of (k1.out _ _ _ _ _ _ _ hs2 _ (r2.out.drewN _) (s2.out.drewN _))))
      go_wp2
      go_quiet (fail)
      go_wp2
      go_roundw
      case rel => exact ⟨k + 1, by omega, by go_num, hS'.out.drewN _⟩
      case measure => simp [intOf]; omega
    · obtain rfl : k = l.length := by omega
      go_wp2
      go_ret
      exact ⟨rfl, hS.1⟩

theorem OL.empty (w : World) (T size : Nat) : OL (w.alloc (.cells #[] T)) w.heap.size (fun _ => False) T size (.slice (some ⟨w.heap.size, 0, none⟩) 0 0) 0 [] :=
  ⟨[], ⟨by simp, .inr ⟨w.heap.size, 0, #[], rfl, Nat.le_refl _, heap_alloc_new w _, Nat.le_refl _, Nat.zero_le _, by simp, by simp⟩⟩, rfl, fun k d h => by simp at h⟩

set_option maxHeartbeats 400000 in
theorem clone_k (A : Option Addr) (c : Nat) (F : Nat → Prop) (l : List ByteArray) (hl : l.length ≤ 1048576) (w : World) (r : Rd w F (.slice A l.length c) (.sl l.length (l.flatMap strD))) :
    Calls Tryd.prog 25 #[.slice A l.length c] w fun e w' => ∃ v, e = .returned v ∧ OL w' w.heap.size (fun _ => False) 9 1 v l.length (l.flatMap strD) ∧ Below w.heap.size w w' := by
  have hl1 := strD_len l
  have hcmp : ∀ (W : World) (a : Option Addr) (n c : Nat), (binOp .eql 33 (.slice a n c) (.slice none 0 0)).run Tryd.prog W = .ok (.bool a.isNone) W := fun W a n c => Lib.run_eql_slice_nil W _ _ a n c 0 0 Tryd.underlying33
  cases A with
  | none =>
    obtain rfl : l = [] := by
      cases l with
      | nil => rfl
      | cons a l => obtain ⟨b, off, e, _⟩ := r.cells (by simp [strD]); cases e
    go_enter Tryd.func25, Tryd.ntmps25
    go_wp2
    go_ret
    exact ⟨_, rfl, .nil _ _ _ _ _, .refl _ _⟩
  | some a =>
    have r1 := r.alloc (.cells #[] 9)
    go_enter Tryd.func25, Tryd.ntmps25
    go_wp2_with (at_builtin
                 refine wpList_app rfl (.tmp 5) (.tmp 6) _ rfl (m := l.length) (news := l.flatMap strD) elStr (OL.empty w 9 1) rfl rfl (Rd.srcq (PlainL.flatMap strD_pl l) r1) hl1 (by omega) (by omega) (by simp) ?_
                 intro v1 w1 hO1 hg1 ha1
                 have hb1 : Below w.heap.size w w1 := ((Below.refl _ _).alloc (Nat.le_refl _) _).grown hg1 (by simp) (fun q hq => by simp [Value.ownBlock] at hq; omega))
    go_ret
    exact ⟨_, rfl, by simpa using hO1, hb1⟩
end nmW
end Go.Proofs.YtfnejelbacpheaaDoor
