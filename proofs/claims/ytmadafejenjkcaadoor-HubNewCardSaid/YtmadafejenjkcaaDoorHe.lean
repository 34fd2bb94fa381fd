/- The document's model is made, or refused alike. -/
import Derived.Test.YtmadafejenjkcaaDoorHd
namespace Go.Proofs.YtmadafejenjkcaaDoor
open Go.RowKit Go.Deep
open hbW
set_option linter.unusedVariables false
set_option linter.unusedSimpArgs false

def qZ : Array Value := #[.slice none 0 0, .int .i64 0, .int .i64 0, .slice none 0 0, .int .i64 0, .string ⟨#[]⟩, .slice none 0 0]
def MPost (T : ByteArray) (cap : Int) (w : World) (e : Ending) (w' : World) : Prop :=
  ∃ v, e = .returned (.tuple #[v, .agg ⟨ftV (hubF T cap)⟩]) ∧ Below w.heap.size w w' ∧ ((hubF T cap).1 ≠ 0 → v = .pointer none) ∧ ((hubF T cap).1 = 0 → ∃ p, v = .pointer (some p))
theorem MPost.bad {T : ByteArray} {cap : Int} {w w' : World} {f : Int × Int × Int} (hf : hubF T cap = f) (h0 : f.1 ≠ 0) (hb : Below w.heap.size w w') : MPost T cap w (.returned (.tuple #[.pointer none, .agg ⟨ftV f⟩])) w' :=
  ⟨_, by rw [hf], hb, fun _ => rfl, fun h => absurd (hf ▸ h) h0⟩
theorem MPost.good {T : ByteArray} {cap : Int} {w w' : World} {f : Int × Int × Int} {p : Addr} (hf : hubF T cap = f) (h0 : f.1 = 0) (hb : Below w.heap.size w w') : MPost T cap w (.returned (.tuple #[.pointer (some p), .agg ⟨ftV f⟩])) w' :=
  ⟨_, by rw [hf], hb, fun h => absurd (hf.symm ▸ h0) h, fun _ => ⟨p, rfl⟩⟩
namespace hbW
open nmW
set_option maxHeartbeats 1600000 in
theorem begin_k (A : Option Addr) (n c : Nat) (cap : Int) (w : World) : Calls Tryd.prog 31 #[.agg #[.slice A n c], .agg qZ, .int .i64 cap] w fun e w' => ∃ p, e = .returned (.pointer (some p)) ∧ Below w.heap.size w w' := by
  unfold qZ
  go_enter Tryd.func31, Tryd.ntmps31
  go_wp2
  go_ret
  exact ⟨_, rfl, (((Below.refl _ _).alloc (Nat.le_refl _) _).alloc (by simp) _).alloc (by simp; try omega) _⟩
set_option maxHeartbeats 1600000 in
theorem refNew_k (T : ByteArray) (cap : Int) (w : World) (hK : KwIs w) : Calls Tryd.prog 16 #[.string T, .int .i64 cap] w (MPost T cap w) := by
  have hBa : Below w.heap.size w (w.alloc (.cells ⟨ftV (0, 0, 0)⟩ 47)) := (Below.refl _ _).alloc (Nat.le_refl _) _
  have hba : Blk (w.alloc (.cells ⟨ftV (0, 0, 0)⟩ 47)) w.heap.size 47 (ftV (0, 0, 0)) := Blk.new _ _ _
  have k1 := Lib.hid (rparse_k T _ (hK.stay hBa))
  unfold PSPost at k1
  have k2 := Lib.hid begin_k
  have hfF : hubF T cap = if (psC T).1 ≠ 0 then (1, (psC T).1, ((psC T).2 : Int)) else if 1 ≤ cap ∧ cap ≤ 4096 then (0, 0, 0) else (3, 100, 0) := rfl
  generalize (psC T).1 = cd at *
  generalize ((psC T).2 : Int) = pl at *
  replace hBa := Lib.hid hBa
  replace hba := Lib.hid hba
  clear hK
  go_enter Tryd.func16, Tryd.ntmps16
  go_upto_region 2 with (go_at_call 30; refine k1.out.mono ?_; rintro e W1 ⟨A, n, c, rfl, hB1⟩)
  have hba2 : Blk (W1.alloc (.cells ⟨[.slice A n c]⟩ 24)) w.heap.size 47 (ftV (0, 0, 0)) := (hba.out.stay hB1).alloc _
  have hBw : Below w.heap.size w (W1.alloc (.cells ⟨[.slice A n c]⟩ 24)) := (hBa.out.trans (hB1.mono hBa.out.size)).alloc (by have := hBa.out.size; have := hB1.size; omega) _
  have hbs : Blk (W1.alloc (.cells ⟨[.slice A n c]⟩ 24)) W1.heap.size 24 [.slice A n c] := Blk.new _ _ _
  clear hB1 hba hBa k1
  generalize W1.alloc (.cells ⟨[.slice A n c]⟩ 24) = W2 at *
  generalize W1.heap.size = bs at *
  have y0 : W2.cell? ⟨bs, 0, none⟩ = some (.slice A n c) := hbs.cell 0
  have hba' := Lib.hid hba2
  have hBw' := Lib.hid hBw
  have hbs' := Lib.hid hbs
  clear hba2 hbs hBw
  by_cases h0 : cd = 0
  · subst h0
    simp only [ne_eq, not_true_eq_false, if_false] at hfF
    by_cases h1 : cap < 1
    · rw [if_neg (by omega)] at hfF
      replace hfF := Lib.hid hfF
      go_wp2_with (refine at_op (.store 47 (.tmp 5) (.tmp 26)) rfl ?_; refine wpList_store_blk rfl 47 (.tmp 5) (.tmp 26) rfl (cs' := ftV (3, 100, 0)) hba'.out aggFt rfl rfl rfl rfl ?_; intro w1 hz1 hg1)
      exact bodyPost_tc rfl hz1 aggFt rfl rfl rfl (.bad hfF.out (by decide) (hBw'.out.grown hg1 hBw'.out.size (fun q hq => by injection hq with hq; omega)))
    · by_cases h2 : 4096 < cap
      · rw [if_neg (by omega)] at hfF
        replace hfF := Lib.hid hfF
        go_wp2_with (refine at_op (.store 47 (.tmp 5) (.tmp 26)) rfl ?_; refine wpList_store_blk rfl 47 (.tmp 5) (.tmp 26) rfl (cs' := ftV (3, 100, 0)) hba'.out aggFt rfl rfl rfl rfl ?_; intro w1 hz1 hg1)
        exact bodyPost_tc rfl hz1 aggFt rfl rfl rfl (.bad hfF.out (by decide) (hBw'.out.grown hg1 hBw'.out.size (fun q hq => by injection hq with hq; omega)))
      · rw [if_pos ⟨by omega, by omega⟩] at hfF
        replace hfF := Lib.hid hfF
        go_upto_region 6 with fail
        have hcs : ∀ W3, Below W2.heap.size W2 W3 → W3.cell? ⟨w.heap.size, 0, none⟩ = some (.int .i64 0) ∧ W3.cell? ⟨w.heap.size, 1, none⟩ = some (.int .i64 0) ∧ W3.cell? ⟨w.heap.size, 2, none⟩ = some (.int .i64 0) ∧ W3.frozen? ⟨w.heap.size, 0, none⟩ = false ∧ W3.frozen? ⟨w.heap.size, 1, none⟩ = false ∧ W3.frozen? ⟨w.heap.size, 2, none⟩ = false ∧ W3.cell? ⟨bs, 0, none⟩ = some (.slice A n c) := fun W3 hW3 => by
          have hz := hba'.out.stay hW3
          exact ⟨hz.cell 0, hz.cell 1, hz.cell 2, hz.frozen 0, hz.frozen 1, hz.frozen 2, (hbs'.out.stay hW3).cell 0⟩
        replace hcs := Lib.hid hcs
        go_region_law ((go_simp; go_at_call 31; refine (k2.out A n c cap _).mono ?_; rintro e W3 ⟨p, rfl, hB3⟩; have hW3 : Below W2.heap.size W2 W3 := (by first | exact hB3 | exact (Below.refl _ _).drew.trans (hB3.mono (by simp))); have z6 := (hcs.out W3 hW3).2.2.2.2.2.2; have zz := fun o => hcs.out (W3.alloc o) (hW3.alloc hW3.size o); have z0 := fun o => (zz o).1; have z1 := fun o => (zz o).2.1; have z2 := fun o => (zz o).2.2.1; have z3 := fun o => (zz o).2.2.2.1; have z4 := fun o => (zz o).2.2.2.2.1; have z5 := fun o => (zz o).2.2.2.2.2.1; clear zz; replace hW3 := Lib.hid hW3; clear hB3))
        all_goals
          have hz := Lib.hid (((((hba'.out.stay hW3.out).alloc (.cells ⟨[.slice A n c, .pointer (some p), .slice none 0 0]⟩ 103)).set_ 0 (.int .i64 0)).set_ 1 (.int .i64 0)).set_ 2 (.int .i64 0))
          have hb3 := hBw'.out.trans (hW3.out.mono hBw'.out.size)
          have hb := Lib.hid ((((hb3.alloc hb3.size (.cells ⟨[.slice A n c, .pointer (some p), .slice none 0 0]⟩ 103)).setCell (p := ⟨w.heap.size, 0, none⟩) (Nat.le_refl _) (.int .i64 0)).setCell (p := ⟨w.heap.size, 1, none⟩) (Nat.le_refl _) (.int .i64 0)).setCell (p := ⟨w.heap.size, 2, none⟩) (Nat.le_refl _) (.int .i64 0))
          clear hb3
          go_wp2
          exact bodyPost_tc rfl hz.out aggFt rfl rfl rfl (.good hfF.out rfl hb.out)
  · rw [if_pos h0] at hfF
    have f0 : (cd == 0) = false := by rw [beq_eq_false_iff_ne]; exact h0
    replace hfF := Lib.hid hfF
    replace h0 := Lib.hid h0
    clear k2
    go_wp2_with (refine at_op (.store 47 (.tmp 5) (.tmp 19)) rfl ?_; refine wpList_store_blk rfl 47 (.tmp 5) (.tmp 19) rfl (cs' := ftV (1, cd, pl)) hba'.out aggFt rfl rfl rfl rfl ?_; intro w1 hz1 hg1)
    exact bodyPost_tc rfl hz1 aggFt rfl rfl rfl (.bad hfF.out (show (1 : Int) ≠ 0 by decide) (hBw'.out.grown hg1 hBw'.out.size (fun q hq => by injection hq with hq; omega)))
end hbW
end Go.Proofs.YtmadafejenjkcaaDoor
