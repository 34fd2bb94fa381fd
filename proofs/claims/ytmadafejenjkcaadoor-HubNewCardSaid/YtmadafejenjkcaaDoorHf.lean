/- The hub's lock by the library's contracts; the hub's mark. (The numbers are this dump's own: types 84, 85, 87, 89, 144, 163, 165, 167.) -/
import Derived.Test.YtmadafejenjkcaaDoorHe
import Derived.Conc.MuLone
namespace Go.Proofs.YtmadafejenjkcaaDoor
open Go.RowKit Go.Deep Go.MuLone
open hbW
set_option linter.unusedVariables false
set_option linter.unusedSimpArgs false

abbrev muLink : Go.Conc.Locks.MuLink := { lock := 32, unlock := 33, ilock := 52, iunlock := 53, lockSlow := 78, unlockSlow := 81, disable := 74, enable := 76, acquire := 77, relMerge := 79, cas32 := 75, add32 := 80, tMutex := 89, tIMutex := 87, tPMutex := 144, tPIMutex := 163, tPI32 := 165, tUP := 167, tNoCopy := 84, tU32 := 85 }
theorem muLib : Go.Conc.Locks.MuLib Tryd.prog muLink :=
  ⟨Tryd.func32, Tryd.func33, Tryd.func52, Tryd.func53, Tryd.func74, Tryd.func76, Tryd.func77, Tryd.func79, Tryd.func75, Tryd.func80,
    Tryd.underlying87, Tryd.runUnderlying87, Tryd.sizeOf87, Tryd.isAgg87, Tryd.zeroValue87, Tryd.underlying89, Tryd.runUnderlying89, Tryd.sizeOf89, Tryd.isAgg89, Tryd.zeroValue89, Tryd.underlying144, Tryd.runUnderlying144, Tryd.sizeOf144, Tryd.isAgg144, Tryd.zeroValue144, Tryd.underlying163, Tryd.runUnderlying163, Tryd.sizeOf163, Tryd.isAgg163, Tryd.zeroValue163, Tryd.underlying165, Tryd.runUnderlying165, Tryd.sizeOf165, Tryd.isAgg165, Tryd.zeroValue165, Tryd.underlying167, Tryd.runUnderlying167, Tryd.sizeOf167, Tryd.isAgg167, Tryd.zeroValue167, Tryd.underlying84, Tryd.runUnderlying84, Tryd.sizeOf84, Tryd.isAgg84, Tryd.zeroValue84, Tryd.underlying21, Tryd.runUnderlying21, Tryd.sizeOf21, Tryd.isAgg21, Tryd.zeroValue21, (by kernel_rfl)⟩
namespace hbW
set_option maxHeartbeats 800000 in
theorem gateMark_k {g : Nat} {w : World} (h : GateAt w g) : Calls Tryd.prog 34 #[.pointer (some ⟨g, 0, none⟩)] w fun e w' => e = .returned (.int .i64 (-1152921504606846977)) ∧ w' = w := by
  have h' : w.cell? ⟨g, 3, none⟩ = some (.int .i64 (-1152921504606846977)) := h
  go_enter Tryd.func34, Tryd.ntmps34
  go_wp2
  go_ret
  exact ⟨rfl, rfl⟩
set_option maxHeartbeats 800000 in
theorem hubMark_k {h : Nat} {w : World} (H : HubAt w h) : Calls Tryd.prog 17 #[.pointer (some ⟨h, 0, none⟩)] w fun e w' => e = .returned (.int .i64 (-1152921504606846977)) ∧ HubAt w' h ∧ Below h w w' := by
  obtain ⟨s, g, m, hb, hg, hm, hne⟩ := H
  have c0 : w.cell? ⟨h, 0, none⟩ = some (.int .i32 0) := hb.cell 0
  have f0 : w.frozen? ⟨h, 0, none⟩ = false := hb.frozen 0
  have hb1 := hb.set_ 0 (.int .i32 1)
  have c3 : (w.setCell ⟨h, 0, none⟩ (.int .i32 1)).cell? ⟨h, 3, none⟩ = some (.pointer (some ⟨g, 0, none⟩)) := hb1.cell 3
  have hg1 : GateAt (w.setCell ⟨h, 0, none⟩ (.int .i32 1)) g := (World.cell?_setCell_other w ⟨h, 0, none⟩ ⟨g, 3, none⟩ (.int .i32 1) (by intro e; injection e with e; exact hne e.symm)).trans hg
  have hl : h < w.heap.size := hb.lt
  have hfin : HubAt ((w.setCell ⟨h, 0, none⟩ (.int .i32 1)).setCell ⟨h, 0, none⟩ (.int .i32 0)) h ∧ Below h w ((w.setCell ⟨h, 0, none⟩ (.int .i32 1)).setCell ⟨h, 0, none⟩ (.int .i32 0)) := by
    refine ⟨⟨s, g, m, hb1.set_ 0 (.int .i32 0), (World.cell?_setCell_other _ ⟨h, 0, none⟩ ⟨g, 3, none⟩ (.int .i32 0) (by intro e; injection e with e; exact hne e.symm)).trans hg1, ?_, hne⟩, ((Below.refl _ _).setCell (p := ⟨h, 0, none⟩) (Nat.le_refl _) _).setCell (p := ⟨h, 0, none⟩) (Nat.le_refl _) _⟩
    have hmh : m ≠ h := fun e => by
      have := hb
      unfold Blk at this
      rw [← e, hm] at this
      cases this
    exact (Below.heap_setCell _ _ _ _ hmh).trans ((Below.heap_setCell _ _ _ _ hmh).trans hm)
  replace hfin := Lib.hid hfin
  clear hb hb1 hg hm
  go_enter_defers Tryd.func17, Tryd.ntmps17
  go_wp2_with first
    | (go_at_call 32; refine (lock_free muLib ⟨h, 0, none⟩ _ c0 f0).mono ?_; rintro e w' ⟨rfl, rfl⟩)
    | (go_at_call 34; refine (gateMark_k hg1).mono ?_; rintro e w' ⟨rfl, hw⟩; obtain rfl := hw.symm)
  refine leaves_cons (f := 33) (args := #[.pointer (some ⟨h, 0, none⟩)]) (by simp) (by simp [go_sem]) ?_
  refine (unlock_deferred muLib ⟨h, 0, none⟩ .returning _ ?_ ?_).mono ?_
  · exact World.cell?_setCell_same w ⟨h, 0, none⟩ (.int .i32 1) c0
  · simp [f0]
  rintro e u' w'' ⟨rfl, rfl, rfl⟩
  exact ⟨_, results_tmp rfl _ _ _, rfl, hfin.out⟩
end hbW
end Go.Proofs.YtmadafejenjkcaaDoor
