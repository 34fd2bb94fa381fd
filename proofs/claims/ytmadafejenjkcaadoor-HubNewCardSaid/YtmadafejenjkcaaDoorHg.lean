/- The hub's queries: none; the library's sort of no element. -/
import Derived.Test.YtmadafejenjkcaaDoorHf
import Derived.LoopN
import Derived.Laws.MakeOwn
import Derived.Laws.IdiomRangeMap
namespace Go.Proofs.YtmadafejenjkcaaDoor
open Go.RowKit Go.Deep Go.MuLone
open hbW
set_option linter.unusedVariables false
set_option linter.unusedSimpArgs false
theorem elIn : ElT Tryd.prog 54 3 1 8 := .of Tryd.underlying54 (by kernel_rfl) (by omega)
namespace hbW
set_option maxRecDepth 100000 in
set_option maxHeartbeats 1600000 in
theorem len64_0 (w : World) : Calls Tryd.prog 115 #[.int .u64 0] w fun e w' => e = .returned (.int .i64 0) ∧ w' = w := by
  go_enter Tryd.func115, Tryd.ntmps115
  go_wp2
  go_ret
  exact ⟨by kernel_rfl, rfl⟩
set_option maxHeartbeats 800000 in
theorem len_0 (w : World) : Calls Tryd.prog 83 #[.int .u64 0] w fun e w' => e = .returned (.int .i64 0) ∧ w' = w := by
  go_enter Tryd.func83, Tryd.ntmps83
  go_wp2_with (go_at_call 115; refine (len64_0 _).mono ?_; rintro e w' ⟨rfl, hw⟩; obtain rfl := hw.symm)
  go_ret
  exact ⟨rfl, rfl⟩
set_option maxHeartbeats 800000 in
theorem ins_0 (p : Option Addr) (cap : Nat) (w : World) : Calls Tryd.prog 105 #[.slice p 0 cap, .int .i64 0, .int .i64 0] w fun e w' => e = .returned (.tuple #[]) ∧ w' = w := by
  go_enter Tryd.func105, Tryd.ntmps105
  go_wp2
  refine wp_loop_rounds 1 ?_
  rw [rounds_succ]
  go_wp2
  first | refine bodyPost_ret (results_none rfl _ _ _) rfl ?_ | refine bodyPost_end (results_none rfl _ _ _) rfl ?_
  exact ⟨rfl, rfl⟩
set_option maxRecDepth 100000 in
set_option maxHeartbeats 1600000 in
theorem pdq_0 (p : Option Addr) (cap : Nat) (w : World) : Calls Tryd.prog 82 #[.slice p 0 cap, .int .i64 0, .int .i64 0, .int .i64 0] w fun e w' => e = .returned (.tuple #[]) ∧ w' = w := by
  go_enter Tryd.func82, Tryd.ntmps82
  go_wp2
  refine wp_loop_rounds 1 ?_
  rw [rounds_succ]
  go_wp2_with (go_at_call 105; refine (ins_0 p cap _).mono ?_; rintro e w' ⟨rfl, hw⟩; obtain rfl := hw.symm)
  first | refine bodyPost_ret (results_none rfl _ _ _) rfl ?_ | refine bodyPost_end (results_none rfl _ _ _) rfl ?_
  exact ⟨rfl, rfl⟩
set_option maxHeartbeats 800000 in
theorem sort_0 (p : Option Addr) (cap : Nat) (w : World) : Calls Tryd.prog 54 #[.slice p 0 cap] w fun e w' => e = .returned (.tuple #[]) ∧ w' = w := by
  go_enter Tryd.func54, Tryd.ntmps54
  go_wp2_with first
    | (go_at_call 83; refine (len_0 _).mono ?_; rintro e w' ⟨rfl, hw⟩; obtain rfl := hw.symm)
    | (go_at_call 82; refine (pdq_0 p cap _).mono ?_; rintro e w' ⟨rfl, hw⟩; obtain rfl := hw.symm)
  first | refine bodyPost_ret (results_none rfl _ _ _) rfl ?_ | refine bodyPost_end (results_none rfl _ _ _) rfl ?_
  exact ⟨rfl, rfl⟩
set_option maxRecDepth 100000 in
set_option maxHeartbeats 800000 in
theorem numbers_k {h m : Nat} {w : World} (hl : h < w.heap.size) (c4 : w.cell? ⟨h, 4, none⟩ = some (.map (some m))) (hm : w.heap[m]? = some (.map #[] 0)) : Calls Tryd.prog 35 #[.pointer (some ⟨h, 0, none⟩)] w fun e w' => (∃ p c, e = .returned (.slice p 0 c)) ∧ Below w.heap.size w w' := by
  obtain ⟨k, e, hmt⟩ : ∃ k e, (Tryd.prog).underlying 82 = some (.map k e) := ⟨_, _, Tryd.underlying82⟩
  have hmb : ∀ W, Below w.heap.size w W → W.heap[m]? = some (.map #[] 0) := fun W hW => (hW.block m (Array.getElem?_eq_some_iff.1 hm).1).trans hm
  have hlen : (Builtin.len_ #[82] 3 #[.map (some m)]).run Tryd.prog w = .ok (.int .i64 0) w := by
    simp [Builtin.len_, run_underlying hmt, MapKept.run_getObj_map hm, goInt]
  obtain ⟨hsl, ⟨i, z, hi, hz, hsize, _, _⟩, _⟩ := elIn
  have hby : i.bytes * 0 ≤ 281474976710656 := by omega
  obtain ⟨w1, hmk, _, hgr⟩ := run_make_own (P := Tryd.prog) w w.heap.size 54 3 i z 1 hsl hi hz hsize .i64 .i64 0 hby (by decide) (Nat.le_refl _)
  have hB1 : Below w.heap.size w w1 := ⟨hgr.os, hgr.tape, hgr.output, hgr.size, fun k hk => hgr.block k hk (by simp)⟩
  have hm1 := hmb w1 hB1
  have c5 : w1.cell? ⟨h, 4, none⟩ = some (.map (some m)) := (hB1.cell (p := ⟨h, 4, none⟩) hl).trans c4
  have hrg := run_range_map (P := Tryd.prog) w1 82 k e m #[] 0 hmt hm1
  have hnx : ∀ ty, (Instr.next (.pointer (some ⟨w1.heap.size, 0, none⟩)) false ty).run Tryd.prog (w1.alloc (.mapIter (some m) 0 #[] 0)) = .ok (.tuple #[.bool false]) (w1.alloc (.mapIter (some m) 0 #[] 0)) := fun ty => by
    rcases run_next_map (P := Tryd.prog) w1 ty m 0 0 #[] #[] 0 hm1 (fun x hx => by simp at hx) (Nat.le_refl _) with ⟨_, h2⟩ | ⟨e, he, _⟩
    · exact h2
    · simp [leftOf] at he
  have hfin : Below w.heap.size w (w1.alloc (.mapIter (some m) 0 #[] 0)) := hB1.alloc hB1.size _
  replace hmk : (Instr.makeSlice 54 (.int .i64 0) (.int .i64 0)).run Tryd.prog w = .ok (.slice (some ⟨w.heap.size, 0, none⟩) 0 0) w1 := hmk
  replace hfin := Lib.hid hfin
  clear hm1 hB1 hgr hby hmb hm
  go_enter Tryd.func35, Tryd.ntmps35
  go_wp2
  refine wp_loop_rounds 1 ?_
  rw [rounds_succ]
  go_wp2_with (go_at_call 54; refine (sort_0 _ 0 _).mono ?_; rintro e' w' ⟨rfl, hw⟩; obtain rfl := hw.symm)
  go_ret
  exact ⟨⟨_, _, rfl⟩, hfin.out⟩
set_option maxHeartbeats 800000 in
theorem queries_k {h : Nat} {w : World} (H : HubAt w h) : Calls Tryd.prog 18 #[.pointer (some ⟨h, 0, none⟩)] w fun e w' => (∃ p c, e = .returned (.slice p 0 c)) ∧ Below h w w' := by
  obtain ⟨s, g, m, hb, hg, hm, hne⟩ := H
  have c0 : w.cell? ⟨h, 0, none⟩ = some (.int .i32 0) := hb.cell 0
  have f0 : w.frozen? ⟨h, 0, none⟩ = false := hb.frozen 0
  have hb1 := hb.set_ 0 (.int .i32 1)
  have hl : h < w.heap.size := hb.lt
  have hmh : m ≠ h := fun e => by
    have := hb
    unfold Blk at this
    rw [← e, hm] at this
    cases this
  have hnk : Calls Tryd.prog 35 #[.pointer (some ⟨h, 0, none⟩)] (w.setCell ⟨h, 0, none⟩ (.int .i32 1)) fun e w' => (∃ p c, e = .returned (.slice p 0 c)) ∧ Below (w.setCell ⟨h, 0, none⟩ (.int .i32 1)).heap.size (w.setCell ⟨h, 0, none⟩ (.int .i32 1)) w' :=
    numbers_k (h := h) (m := m) (by simpa using hl) (hb1.cell 4) ((Below.heap_setCell _ _ _ _ hmh).trans hm)
  have hB1 : Below h w (w.setCell ⟨h, 0, none⟩ (.int .i32 1)) := (Below.refl _ _).setCell (p := ⟨h, 0, none⟩) (Nat.le_refl _) _
  replace hnk := Lib.hid hnk
  replace hB1 := Lib.hid hB1
  replace hb1 := Lib.hid hb1
  clear hb hg hm
  go_enter_defers Tryd.func18, Tryd.ntmps18
  go_wp2_with first
    | (go_at_call 32; refine (lock_free muLib ⟨h, 0, none⟩ _ c0 f0).mono ?_; rintro e w' ⟨rfl, rfl⟩)
    | (go_at_call 35; refine hnk.out.mono ?_; rintro e w2 ⟨⟨p, c, rfl⟩, hB2⟩; have hb2 := Lib.hid (hb1.out.stay hB2); replace hB2 := Lib.hid (hB1.out.trans (hB2.mono (by simp; omega))))
  refine leaves_cons (f := 33) (args := #[.pointer (some ⟨h, 0, none⟩)]) (by simp) (by simp [go_sem]) ?_
  refine (unlock_deferred muLib ⟨h, 0, none⟩ .returning _ (hb2.out.cell 0) (hb2.out.frozen 0)).mono ?_
  rintro e u' w'' ⟨rfl, rfl, rfl⟩
  exact ⟨_, results_tmp rfl _ _ _, ⟨_, _, rfl⟩, hB2.out.setCell (p := ⟨h, 0, none⟩) (Nat.le_refl _) _⟩
end hbW
end Go.Proofs.YtmadafejenjkcaaDoor
