/- Copies of events; lists of events and of steps that read alike are the same. -/
import Derived.Test.YtfnejelbacpheaaStSteps
import Derived.Test.YtfnejelbacpheaaEvEq
import Derived.Deep.QuietTactic
import Derived.BigQuiet
namespace Go.Proofs.Ytfnejelbacpheaa
open Go.RowKit Go.Deep
set_option linter.unusedVariables false

def evA (e : Ev) : Array Value := #[.int .i64 e.ts, .int .u64 e.id, .int .i64 e.typ, .int .i64 e.a0, .int .i64 e.a1, .int .i64 e.a2, .int .i64 e.a3, .int .i64 e.a4, .int .i64 e.a5, .int .i64 e.a6, .int .i64 e.a7]
set_option maxHeartbeats 400000 in
theorem eqEvE (w : World) (d : Nat) (x : Ev) : (Op.equalIn (d + 3) 38 (.agg (evA x)) (.agg (evA x))).run Try.prog w = .ok (evEq x.ts x.id x.typ x.a0 x.a1 x.a2 x.a3 x.a4 x.a5 x.a6 x.a7 x.ts x.id x.typ x.a0 x.a1 x.a2 x.a3 x.a4 x.a5 x.a6 x.a7) w := by
  rw [run_equalIn_struct w (d + 2) 38 _ _ (by kernel_rfl) (by kernel_rfl)]
  rw [show (Try.prog.fieldsOf 38).toList = [{ name := "Ts", type := 2, offset := 0, embedded := false, tag := "", pkgPath := "", byteOffset := 0 }, { name := "Id", type := 28, offset := 1, embedded := false, tag := "", pkgPath := "", byteOffset := 8 },
    { name := "Type", type := 3, offset := 2, embedded := false, tag := "", pkgPath := "", byteOffset := 16 }, { name := "Attrs", type := 36, offset := 3, embedded := false, tag := "", pkgPath := "", byteOffset := 24 }] by kernel_rfl]
  exact eqF_cons w (by decide) (by kernel_rfl) (by kernel_rfl) (run_equalIn_int w _ 2 .i64 .i64 _ _ Try.underlying2)
    (eqF_cons w (by decide) (by kernel_rfl) (by kernel_rfl) (run_equalIn_int w _ 28 .u64 .u64 _ _ Try.underlying28)
      (eqF_cons w (by decide) (by kernel_rfl) (by kernel_rfl) (run_equalIn_int w _ 3 .i64 .i64 _ _ Try.underlying3)
        (eqF_cons w (by decide) (by kernel_rfl) (by kernel_rfl) (eqArr w _ _ _ _ _ _ _ _ _ _ _ _ _ _ _ _ _) rfl)))
theorem eqEvD (w : World) (d : Nat) (x : Ev) : (Op.equalIn (d + 3) 38 (.agg (evA x)) (.agg (evA x))).run Try.prog w = .ok true w := by
  rw [eqEvE]; simp [evEq]
theorem neqEv1 (w : World) (x : Ev) : (binOp .neq 38 (.agg (evA x)) (.agg (evA x))).run Try.prog w = .ok (.bool false) w := by
  rw [run_neq_struct, show 10000 = 9997 + 3 from rfl, eqEvD]; rfl
set_option maxHeartbeats 400000 in
theorem eqStE (w : World) (x : St) : (Op.equalIn 10000 65 (.agg (stA x)) (.agg (stA x))).run Try.prog w = .ok (x.im == x.im && (x.mr == x.mr && (true && true))) w := by
  rw [run_equalIn_struct w 9999 65 _ _ (by kernel_rfl) (by kernel_rfl)]
  rw [show (Try.prog.fieldsOf 65).toList = [{ name := "IsMark", type := 4, offset := 0, embedded := false, tag := "", pkgPath := "", byteOffset := 0 }, { name := "Mark", type := 2, offset := 1, embedded := false, tag := "", pkgPath := "", byteOffset := 8 },
    { name := "Event", type := 38, offset := 2, embedded := false, tag := "", pkgPath := "", byteOffset := 16 }] by kernel_rfl]
  exact eqF_cons w (by decide) (by kernel_rfl) (by kernel_rfl) (run_equalIn_bool w _ 4 _ _ Try.underlying4)
    (eqF_cons w (by decide) (by kernel_rfl) (by kernel_rfl) (run_equalIn_int w _ 2 .i64 .i64 _ _ Try.underlying2)
      (eqF_cons w (by decide) (by kernel_rfl) (by kernel_rfl) (eqEvD w 9996 x.ev) rfl))
theorem neqSt1 (w : World) (x : St) : (binOp .neq 65 (.agg (stA x)) (.agg (stA x))).run Try.prog w = .ok (.bool false) w := by
  rw [run_neq_struct, eqStE]; simp

namespace stW
set_option maxHeartbeats 800000 in
theorem twin_k (A : Option Addr) (c : Nat) (F : Nat → Prop) (l : List Ev) (hl : l.length ≤ 1048576) (w : World) (hF : ∀ b, F b → b < w.heap.size) (r : Rd w F (.slice A l.length c) (.sl l.length (l.flatMap evD))) :
    Calls Try.prog 23 #[.slice A l.length c] w fun e w' => ∃ v, e = .returned v ∧ OL w' w.heap.size (fun _ => False) 38 11 v l.length (l.flatMap evD) ∧ Below w.heap.size w w' := by
  replace r := Lib.hid r
  replace hF := Lib.hid hF
  go_enter Try.func23, Try.ntmps23
  go_wp2
  go_loopw [3, 4] (fun v x wr => ∃ k : Nat, k ≤ l.length ∧ x = .int .i64 k ∧ OL wr w.heap.size (fun _ => False) 38 11 v k ((l.take k).flatMap evD) ∧ Below w.heap.size w wr) (fun _ x _ => l.length - (intOf x).toNat)
  case atStart => exact ⟨0, Nat.zero_le _, rfl, .nil _ _ _ _ _, .refl _ _⟩
  case round =>
    obtain ⟨k, hk, rfl, hO, hB⟩ := hrel
    by_cases hlt : k < l.length
    · obtain ⟨e, he⟩ := getx hlt
      obtain ⟨b, off, rfl, _, hv, _⟩ := (r.out.under hB hF.out).rowv (m := 11) (fun _ => rfl) he (by omega)
      have x0 : wr.cell? ⟨b, off + k * 11, none⟩ = some (.int .i64 e.ts) := hv 0 _ rfl
      have x1 : wr.cell? ⟨b, off + k * 11 + 1, none⟩ = some (.int .u64 e.id) := hv 1 _ rfl
      have x2 : wr.cell? ⟨b, off + k * 11 + 2, none⟩ = some (.int .i64 e.typ) := hv 2 _ rfl
      have x3 : wr.cell? ⟨b, off + k * 11 + 3, none⟩ = some (.int .i64 e.a0) := hv 3 _ rfl
      have x4 : wr.cell? ⟨b, off + k * 11 + 4, none⟩ = some (.int .i64 e.a1) := hv 4 _ rfl
      have x5 : wr.cell? ⟨b, off + k * 11 + 5, none⟩ = some (.int .i64 e.a2) := hv 5 _ rfl
      have x6 : wr.cell? ⟨b, off + k * 11 + 6, none⟩ = some (.int .i64 e.a3) := hv 6 _ rfl
      have x7 : wr.cell? ⟨b, off + k * 11 + 7, none⟩ = some (.int .i64 e.a4) := hv 7 _ rfl
      have x8 : wr.cell? ⟨b, off + k * 11 + 8, none⟩ = some (.int .i64 e.a5) := hv 8 _ rfl
      have x9 : wr.cell? ⟨b, off + k * 11 + 9, none⟩ = some (.int .i64 e.a6) := hv 9 _ rfl
      have x10 : wr.cell? ⟨b, off + k * 11 + 10, none⟩ = some (.int .i64 e.a7) := hv 10 _ rfl
      have g0 : (0 : Int) ≤ (k : Int) := by omega
      have g1 : (k : Int) < l.length := by omega
      have hfm : (l.take (k + 1)).flatMap evD = (l.take k).flatMap evD ++ evD e := by rw [List.take_add_one, he]; simp
      have hsz := hB.size
      replace hfm := Lib.hid hfm
      clear hv he
      go_wp2_with (at_builtin; refine wpList_app rfl (.tmp 11) (.tmp 16) _ rfl (m := 1) (news := evD e) elEv (hO.alloc (.cells (evA e) 38)) rfl rfl (Src.lit (evD_rd wr _ e)) rfl (by omega) (by omega) (by simp; omega) ?_; intro v' w1 hO1 hg1 ha1)
      go_roundw
      case rel => exact ⟨k + 1, by omega, by go_num, by rw [hfm.out]; exact hO1, (hB.alloc hB.size (.cells (evA e) 38)).grown hg1 (by simp; omega) (fun q hq => (hO.lt q hq).1)⟩
      case measure => simp [intOf]; omega
    · obtain rfl : k = l.length := by omega
      rw [List.take_length] at hO
      go_wp2
      go_ret
      exact ⟨_, rfl, hO, hB⟩

set_option maxHeartbeats 800000 in
theorem sameEvents_k (A B : Option Addr) (c d : Nat) (F G : Nat → Prop) (l : List Ev) (hl : l.length ≤ 2097152) (w : World) (r : Rd w F (.slice A l.length c) (.sl l.length (l.flatMap evD))) (s : Rd w G (.slice B l.length d) (.sl l.length (l.flatMap evD))) :
    Calls Try.prog 29 #[.slice A l.length c, .slice B l.length d] w fun e w' => e = .returned (.bool true) ∧ Below w.heap.size w w' := by
  have hneq := neqEv1
  go_enter Try.func29, Try.ntmps29
  go_wp2
  go_loopw [5] (fun x wr => ∃ k q : Nat, k ≤ l.length ∧ x = .int .i64 k ∧ wr = w.drewN q) (fun x _ => l.length - (intOf x).toNat)
  case atStart => exact ⟨0, 0, Nat.zero_le _, rfl, by first | rfl | simp [World.drewN]⟩
  case round =>
    obtain ⟨k, q, hk, rfl, hw⟩ := hrel
    have rr := r.drewN q
    have ss := s.drewN q
    rw [← hw] at rr ss
    replace hw := Lib.hid hw
    by_cases hlt : k < l.length
    · obtain ⟨e, he⟩ := getx hlt
      obtain ⟨b, off, rfl, _, hv, _⟩ := rr.rowv (m := 11) (fun _ => rfl) he (by omega)
      obtain ⟨b', off', rfl, _, hv', _⟩ := ss.rowv (m := 11) (fun _ => rfl) he (by omega)
      have x0 : wr.cell? ⟨b, off + k * 11, none⟩ = some (.int .i64 e.ts) := hv 0 _ rfl
      have x1 : wr.cell? ⟨b, off + k * 11 + 1, none⟩ = some (.int .u64 e.id) := hv 1 _ rfl
      have x2 : wr.cell? ⟨b, off + k * 11 + 2, none⟩ = some (.int .i64 e.typ) := hv 2 _ rfl
      have x3 : wr.cell? ⟨b, off + k * 11 + 3, none⟩ = some (.int .i64 e.a0) := hv 3 _ rfl
      have x4 : wr.cell? ⟨b, off + k * 11 + 4, none⟩ = some (.int .i64 e.a1) := hv 4 _ rfl
      have x5 : wr.cell? ⟨b, off + k * 11 + 5, none⟩ = some (.int .i64 e.a2) := hv 5 _ rfl
      have x6 : wr.cell? ⟨b, off + k * 11 + 6, none⟩ = some (.int .i64 e.a3) := hv 6 _ rfl
      have x7 : wr.cell? ⟨b, off + k * 11 + 7, none⟩ = some (.int .i64 e.a4) := hv 7 _ rfl
      have x8 : wr.cell? ⟨b, off + k * 11 + 8, none⟩ = some (.int .i64 e.a5) := hv 8 _ rfl
      have x9 : wr.cell? ⟨b, off + k * 11 + 9, none⟩ = some (.int .i64 e.a6) := hv 9 _ rfl
      have x10 : wr.cell? ⟨b, off + k * 11 + 10, none⟩ = some (.int .i64 e.a7) := hv 10 _ rfl
      have y0 : wr.cell? ⟨b', off' + k * 11, none⟩ = some (.int .i64 e.ts) := hv' 0 _ rfl
      have y1 : wr.cell? ⟨b', off' + k * 11 + 1, none⟩ = some (.int .u64 e.id) := hv' 1 _ rfl
      have y2 : wr.cell? ⟨b', off' + k * 11 + 2, none⟩ = some (.int .i64 e.typ) := hv' 2 _ rfl
      have y3 : wr.cell? ⟨b', off' + k * 11 + 3, none⟩ = some (.int .i64 e.a0) := hv' 3 _ rfl
      have y4 : wr.cell? ⟨b', off' + k * 11 + 4, none⟩ = some (.int .i64 e.a1) := hv' 4 _ rfl
      have y5 : wr.cell? ⟨b', off' + k * 11 + 5, none⟩ = some (.int .i64 e.a2) := hv' 5 _ rfl
      have y6 : wr.cell? ⟨b', off' + k * 11 + 6, none⟩ = some (.int .i64 e.a3) := hv' 6 _ rfl
      have y7 : wr.cell? ⟨b', off' + k * 11 + 7, none⟩ = some (.int .i64 e.a4) := hv' 7 _ rfl
      have y8 : wr.cell? ⟨b', off' + k * 11 + 8, none⟩ = some (.int .i64 e.a5) := hv' 8 _ rfl
      have y9 : wr.cell? ⟨b', off' + k * 11 + 9, none⟩ = some (.int .i64 e.a6) := hv' 9 _ rfl
      have y10 : wr.cell? ⟨b', off' + k * 11 + 10, none⟩ = some (.int .i64 e.a7) := hv' 10 _ rfl
      have g0 : (0 : Int) ≤ (k : Int) := by omega
      have g1 : (k : Int) < l.length := by omega
      have hn2 := fun W => hneq W e
      simp only [evA] at hn2
      clear hv hv' he rr ss r s hneq
      go_wp2
      go_quiet (fail)
      go_wp2
      go_roundw
      case rel => exact ⟨k + 1, _, by omega, by go_num, by rw [hw.out]; first | rfl | (simp; rfl)⟩
      case measure => simp [intOf]; omega
    · obtain rfl : k = l.length := by omega
      go_wp2
      go_ret
      exact ⟨rfl, by rw [hw.out]; exact below_drewN (Below.refl _ _) _⟩

set_option maxHeartbeats 800000 in
theorem sameSteps_k (A B : Option Addr) (c d : Nat) (F G : Nat → Prop) (l : List St) (hl : l.length ≤ 2097152) (w : World) (r : Rd w F (.slice A l.length c) (.sl l.length (l.flatMap stD))) (s : Rd w G (.slice B l.length d) (.sl l.length (l.flatMap stD))) :
    Calls Try.prog 28 #[.slice A l.length c, .slice B l.length d] w fun e w' => e = .returned (.bool true) ∧ Below w.heap.size w w' := by
  have hneq := neqSt1
  go_enter Try.func28, Try.ntmps28
  go_wp2
  go_loopw [5] (fun x wr => ∃ k q : Nat, k ≤ l.length ∧ x = .int .i64 k ∧ wr = w.drewN q) (fun x _ => l.length - (intOf x).toNat)
  case atStart => exact ⟨0, 0, Nat.zero_le _, rfl, by first | rfl | simp [World.drewN]⟩
  case round =>
    obtain ⟨k, q, hk, rfl, hw⟩ := hrel
    have rr := r.drewN q
    have ss := s.drewN q
    rw [← hw] at rr ss
    replace hw := Lib.hid hw
    by_cases hlt : k < l.length
    · obtain ⟨e, he⟩ := getx hlt
      obtain ⟨b, off, rfl, _, hv, _⟩ := rr.rowv (m := 13) (fun _ => rfl) he (by omega)
      obtain ⟨b', off', rfl, _, hv', _⟩ := ss.rowv (m := 13) (fun _ => rfl) he (by omega)
      have x0 : wr.cell? ⟨b, off + k * 13, none⟩ = some (.bool e.im) := hv 0 _ rfl
      have x1 : wr.cell? ⟨b, off + k * 13 + 1, none⟩ = some (.int .i64 e.mr) := hv 1 _ rfl
      have x2 : wr.cell? ⟨b, off + k * 13 + 2, none⟩ = some (.int .i64 e.ev.ts) := hv 2 _ rfl
      have x3 : wr.cell? ⟨b, off + k * 13 + 3, none⟩ = some (.int .u64 e.ev.id) := hv 3 _ rfl
      have x4 : wr.cell? ⟨b, off + k * 13 + 4, none⟩ = some (.int .i64 e.ev.typ) := hv 4 _ rfl
      have x5 : wr.cell? ⟨b, off + k * 13 + 5, none⟩ = some (.int .i64 e.ev.a0) := hv 5 _ rfl
      have x6 : wr.cell? ⟨b, off + k * 13 + 6, none⟩ = some (.int .i64 e.ev.a1) := hv 6 _ rfl
      have x7 : wr.cell? ⟨b, off + k * 13 + 7, none⟩ = some (.int .i64 e.ev.a2) := hv 7 _ rfl
      have x8 : wr.cell? ⟨b, off + k * 13 + 8, none⟩ = some (.int .i64 e.ev.a3) := hv 8 _ rfl
      have x9 : wr.cell? ⟨b, off + k * 13 + 9, none⟩ = some (.int .i64 e.ev.a4) := hv 9 _ rfl
      have x10 : wr.cell? ⟨b, off + k * 13 + 10, none⟩ = some (.int .i64 e.ev.a5) := hv 10 _ rfl
      have x11 : wr.cell? ⟨b, off + k * 13 + 11, none⟩ = some (.int .i64 e.ev.a6) := hv 11 _ rfl
      have x12 : wr.cell? ⟨b, off + k * 13 + 12, none⟩ = some (.int .i64 e.ev.a7) := hv 12 _ rfl
      have y0 : wr.cell? ⟨b', off' + k * 13, none⟩ = some (.bool e.im) := hv' 0 _ rfl
      have y1 : wr.cell? ⟨b', off' + k * 13 + 1, none⟩ = some (.int .i64 e.mr) := hv' 1 _ rfl
      have y2 : wr.cell? ⟨b', off' + k * 13 + 2, none⟩ = some (.int .i64 e.ev.ts) := hv' 2 _ rfl
      have y3 : wr.cell? ⟨b', off' + k * 13 + 3, none⟩ = some (.int .u64 e.ev.id) := hv' 3 _ rfl
      have y4 : wr.cell? ⟨b', off' + k * 13 + 4, none⟩ = some (.int .i64 e.ev.typ) := hv' 4 _ rfl
      have y5 : wr.cell? ⟨b', off' + k * 13 + 5, none⟩ = some (.int .i64 e.ev.a0) := hv' 5 _ rfl
      have y6 : wr.cell? ⟨b', off' + k * 13 + 6, none⟩ = some (.int .i64 e.ev.a1) := hv' 6 _ rfl
      have y7 : wr.cell? ⟨b', off' + k * 13 + 7, none⟩ = some (.int .i64 e.ev.a2) := hv' 7 _ rfl
      have y8 : wr.cell? ⟨b', off' + k * 13 + 8, none⟩ = some (.int .i64 e.ev.a3) := hv' 8 _ rfl
      have y9 : wr.cell? ⟨b', off' + k * 13 + 9, none⟩ = some (.int .i64 e.ev.a4) := hv' 9 _ rfl
      have y10 : wr.cell? ⟨b', off' + k * 13 + 10, none⟩ = some (.int .i64 e.ev.a5) := hv' 10 _ rfl
      have y11 : wr.cell? ⟨b', off' + k * 13 + 11, none⟩ = some (.int .i64 e.ev.a6) := hv' 11 _ rfl
      have y12 : wr.cell? ⟨b', off' + k * 13 + 12, none⟩ = some (.int .i64 e.ev.a7) := hv' 12 _ rfl
      have g0 : (0 : Int) ≤ (k : Int) := by omega
      have g1 : (k : Int) < l.length := by omega
      have hn2 := fun W => hneq W e
      simp only [stA] at hn2
      clear hv hv' he rr ss r s hneq
      go_wp2
      go_quiet (fail)
      go_wp2
      go_roundw
      case rel => exact ⟨k + 1, _, by omega, by go_num, by rw [hw.out]; first | rfl | (simp; rfl)⟩
      case measure => simp [intOf]; omega
    · obtain rfl : k = l.length := by omega
      go_wp2
      go_ret
      exact ⟨rfl, by rw [hw.out]; exact below_drewN (Below.refl _ _) _⟩
end stW
end Go.Proofs.Ytfnejelbacpheaa
