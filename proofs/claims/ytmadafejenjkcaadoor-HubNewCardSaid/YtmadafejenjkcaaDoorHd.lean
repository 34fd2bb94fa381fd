/- The hub and the document's model are made, or refused alike. -/
import Derived.Test.YtmadafejenjkcaaDoorH6
import Derived.Test.YtmadafejenjkcaaDoorHc
namespace Go.Proofs.YtmadafejenjkcaaDoor
open Go.RowKit Go.Deep
set_option linter.unusedVariables false
set_option linter.unusedSimpArgs false

/-- the fault: where, which, at what place -/
noncomputable def hubF (T : ByteArray) (cap : Int) : Int × Int × Int := if (psC T).1 ≠ 0 then (1, (psC T).1, (psC T).2) else if 1 ≤ cap ∧ cap ≤ 4096 then (0, 0, 0) else (3, 100, 0)
namespace hbW
open nmW
theorem sound_k (c : Int) (w : World) : Calls Tryd.prog 47 #[.int .i64 c] w fun e w' => e = .returned (.bool (decide (1 ≤ c ∧ c ≤ 4096))) ∧ w' = w := by
  by_cases h1 : 1 ≤ c
  · by_cases h2 : c ≤ 4096
    · rw [decide_eq_true ⟨h1, h2⟩]
      go_enter Tryd.func47, Tryd.ntmps47
      go_wp2
      go_ret
      exact ⟨rfl, rfl⟩
    · rw [decide_eq_false (fun h => h2 h.2)]
      go_enter Tryd.func47, Tryd.ntmps47
      go_wp2
      go_ret
      exact ⟨rfl, rfl⟩
  · rw [decide_eq_false (fun h => h1 h.1)]
    go_enter Tryd.func47, Tryd.ntmps47
    go_wp2
    go_ret
    exact ⟨rfl, rfl⟩
theorem pile_k (w : World) : Calls Tryd.prog 48 #[] w fun e w' => ∃ b, e = .returned (.pointer (some b)) ∧ Below w.heap.size w w' := by
  go_enter Tryd.func48, Tryd.ntmps48
  go_wp2
  go_ret
  exact ⟨_, rfl, (Below.refl _ _).alloc (Nat.le_refl _) _⟩
/-- a gate at NoMark -/
def GateAt (w : World) (g : Nat) : Prop := w.cell? ⟨g, 3, none⟩ = some (.int .i64 (-1152921504606846977))
theorem GateAt.lt {w : World} {g : Nat} (h : GateAt w g) : g < w.heap.size := World.block_lt_of_cell? w _ h
theorem GateAt.stay {w w' : World} {g : Nat} (h : GateAt w g) (hb : Below w.heap.size w w') : GateAt w' g := (hb.cell (p := ⟨g, 3, none⟩) h.lt).trans h
def GPost (c : Int) (w : World) (e : Ending) (w' : World) : Prop := Below w.heap.size w w' ∧ if 1 ≤ c ∧ c ≤ 4096 then ∃ g, e = .returned (.tuple #[.pointer (some ⟨g, 0, none⟩), .int .i64 0]) ∧ GateAt w' g ∧ w.heap.size ≤ g else e = .returned (.tuple #[.pointer none, .int .i64 100])
set_option maxHeartbeats 800000 in
theorem gateNew_k (c : Int) (w : World) : Calls Tryd.prog 29 #[.int .i64 c] w (GPost c w) := by
  have k1 := Lib.hid (sound_k c)
  have hmk : ∀ W, (Instr.makeMap 133 none).run Tryd.prog W = .ok (.map (some W.heap.size)) (W.alloc (.map #[] 0)) := fun _ => rfl
  by_cases h : 1 ≤ c ∧ c ≤ 4096
  · have hP : ∀ g w', Below w.heap.size w w' → GateAt w' g → w.heap.size ≤ g → GPost c w (.returned (.tuple #[.pointer (some ⟨g, 0, none⟩), .int .i64 0])) w' := fun g w' h1 h2 h3 => ⟨h1, by rw [if_pos h]; exact ⟨g, rfl, h2, h3⟩⟩
    replace hP := Lib.hid hP
    have hd := decide_eq_true h
    replace h := Lib.hid h
    replace hd := Lib.hid hd
    go_enter Tryd.func29, Tryd.ntmps29
    go_wp2_with first
      | (go_at_call 47; refine (k1.out _).mono ?_; rw [hd.out]; rintro e W ⟨rfl, hW⟩; obtain rfl := hW.symm)
      | (go_at_call 48; refine (pile_k _).mono ?_; rintro e W ⟨b, rfl, hW⟩; replace hW := Lib.hid hW)
    refine bodyPost_ret (results_tmp2 rfl _ _ _) rfl ?_
    refine hP.out _ _ ((hW.out.alloc hW.out.size _).alloc (by simp; have := hW.out.size; omega) _) ?_ (by have := hW.out.size; simp; omega)
    exact (Blk.new' (w := W.alloc (.map #[] 0)) (g := W.heap.size + 1) (t := 135) (cs := [.pointer (some b), .map (some W.heap.size), .int .i64 c, .int .i64 (-1152921504606846977), .bool false]) (by simp)).cell 3
  · have hP : GPost c w (.returned (.tuple #[.pointer none, .int .i64 100])) w := ⟨Below.refl _ _, by rw [if_neg h]⟩
    have hd := decide_eq_false h
    replace hP := Lib.hid hP
    replace h := Lib.hid h
    replace hd := Lib.hid hd
    go_enter Tryd.func29, Tryd.ntmps29
    go_wp2_with (go_at_call 47; refine (k1.out _).mono ?_; rw [hd.out]; rintro e W ⟨rfl, hW⟩; obtain rfl := hW.symm)
    refine bodyPost_ret (results_tmp2 rfl _ _ _) rfl ?_
    exact hP.out
end hbW
open hbW

theorem aggFt : AggT Tryd.prog 47 3 := ⟨_, Tryd.underlying47, rfl, by kernel_rfl⟩
/-- two results, the second a struct in a block -/
theorem bodyPost_tc {P : Program} {w : World} {g t : Nat} {cs : List Value} {fn : Func} {R : Ending → World → Prop} {a : Act} {p q ty : Nat} {v : Value} (hr : fn.results = #[.tmp q, .cell p ty]) (h : Blk w g t cs) (T : AggT P ty cs.length)
    (hp : a.tmps.getD p undef = .pointer (some ⟨g, 0, none⟩)) (hq : a.tmps.getD q undef = v) (hd : a.defers = []) (hR : R (.returned (.tuple #[v, .agg ⟨cs⟩])) w) : bodyPost P fn R .ret a w := by
  refine bodyPost_ret (v := .tuple #[v, .agg ⟨cs⟩]) ?_ hd hR
  simp only [Array.getD_eq_getD_getElem?] at hp hq
  simp [results, hr, hp, hq, asAddr, run_loadVar_blk h T]
def ftV (f : Int × Int × Int) : List Value := [.int .i64 f.1, .int .i64 f.2.1, .int .i64 f.2.2]
/-- a hub without a query at NoMark -/
def HubAt (w : World) (h : Nat) : Prop := ∃ s g m, Blk w h 91 [.int .i32 0, .int .u32 0, s, .pointer (some ⟨g, 0, none⟩), .map (some m), .int .i64 0] ∧ GateAt w g ∧ w.heap[m]? = some (.map #[] 0) ∧ g ≠ h
theorem HubAt.stay {w w' : World} {h : Nat} (H : HubAt w h) (hb : Below w.heap.size w w') : HubAt w' h := by
  obtain ⟨s, g, m, h1, h2, h3, h4⟩ := H
  exact ⟨s, g, m, h1.stay hb, h2.stay hb, (hb.block _ (Array.getElem?_eq_some_iff.1 h3).1).trans h3, h4⟩
def HPost (T : ByteArray) (cap : Int) (w : World) (e : Ending) (w' : World) : Prop :=
  ∃ v, e = .returned (.tuple #[v, .agg ⟨ftV (hubF T cap)⟩]) ∧ Below w.heap.size w w' ∧ ((hubF T cap).1 ≠ 0 → v = .pointer none) ∧ ((hubF T cap).1 = 0 → ∃ h, v = .pointer (some ⟨h, 0, none⟩) ∧ HubAt w' h ∧ w.heap.size ≤ h)
theorem HPost.bad {T : ByteArray} {cap : Int} {w w' : World} {f : Int × Int × Int} (hf : hubF T cap = f) (h0 : f.1 ≠ 0) (hb : Below w.heap.size w w') : HPost T cap w (.returned (.tuple #[.pointer none, .agg ⟨ftV f⟩])) w' :=
  ⟨_, by rw [hf], hb, fun _ => rfl, fun h => absurd (hf ▸ h) h0⟩
theorem HPost.good {T : ByteArray} {cap : Int} {w w' : World} {f : Int × Int × Int} {h : Nat} (hf : hubF T cap = f) (h0 : f.1 = 0) (hb : Below w.heap.size w w') (hh : HubAt w' h) (hw : w.heap.size ≤ h) : HPost T cap w (.returned (.tuple #[.pointer (some ⟨h, 0, none⟩), .agg ⟨ftV f⟩])) w' :=
  ⟨_, by rw [hf], hb, fun h => absurd (hf.symm ▸ h0) h, fun _ => ⟨h, rfl, hh, hw⟩⟩
namespace hbW
open nmW
set_option maxHeartbeats 1600000 in
theorem hubNew_k (T : ByteArray) (cap : Int) (w : World) (hK : KwIs w) : Calls Tryd.prog 15 #[.string T, .int .i64 cap] w (HPost T cap w) := by
  have hBa : Below w.heap.size w (w.alloc (.cells ⟨ftV (0, 0, 0)⟩ 47)) := (Below.refl _ _).alloc (Nat.le_refl _) _
  have hba : Blk (w.alloc (.cells ⟨ftV (0, 0, 0)⟩ 47)) w.heap.size 47 (ftV (0, 0, 0)) := Blk.new _ _ _
  have k1 := Lib.hid (parse_k T _ (hK.stay hBa))
  unfold PSPost at k1
  have k2 := Lib.hid gateNew_k
  have hmk : ∀ W, (Instr.makeMap 82 none).run Tryd.prog W = .ok (.map (some W.heap.size)) (W.alloc (.map #[] 0)) := fun _ => rfl
  have hfF : hubF T cap = if (psC T).1 ≠ 0 then (1, (psC T).1, ((psC T).2 : Int)) else if 1 ≤ cap ∧ cap ≤ 4096 then (0, 0, 0) else (3, 100, 0) := rfl
  generalize (psC T).1 = cd at *
  generalize ((psC T).2 : Int) = pl at *
  replace hBa := Lib.hid hBa
  replace hba := Lib.hid hba
  clear hK
  go_enter Tryd.func15, Tryd.ntmps15
  go_upto_region 2 with (go_at_call 28; refine k1.out.mono ?_; rintro e W1 ⟨A, n, c, rfl, hB1⟩)
  have hba2 : Blk (W1.alloc (.cells ⟨[.slice A n c]⟩ 24)) w.heap.size 47 (ftV (0, 0, 0)) := (hba.out.stay hB1).alloc _
  have hBw : Below w.heap.size w (W1.alloc (.cells ⟨[.slice A n c]⟩ 24)) := (hBa.out.trans (hB1.mono hBa.out.size)).alloc (by have := hBa.out.size; have := hB1.size; omega) _
  have hbs : Blk (W1.alloc (.cells ⟨[.slice A n c]⟩ 24)) W1.heap.size 24 [.slice A n c] := Blk.new _ _ _
  clear hB1 hba hBa k1
  generalize W1.alloc (.cells ⟨[.slice A n c]⟩ 24) = W2 at *
  generalize W1.heap.size = bs at *
  have hba' := Lib.hid hba2
  have hbs' := Lib.hid hbs
  have hBw' := Lib.hid hBw
  by_cases h0 : cd = 0
  · subst h0
    simp only [ne_eq, not_true_eq_false, if_false] at hfF
    have kg := k2.out cap W2
    unfold GPost at kg
    by_cases hc : 1 ≤ cap ∧ cap ≤ 4096
    · rw [if_pos hc] at hfF
      simp only [if_pos hc] at kg
      replace kg := Lib.hid kg
      replace hc := Lib.hid hc
      replace hfF := Lib.hid hfF
      clear hba2 hbs hBw
      go_upto_region 7 with (go_at_call 29; refine kg.out.mono ?_; rintro e W3 ⟨hB3, g, rfl, hg, hgl⟩)
      have hba3 := hba'.out.stay hB3
      have hbs3 := hbs'.out.stay hB3
      have hBw3 := hBw'.out.trans (hB3.mono hBw'.out.size)
      have y0 : W3.cell? ⟨bs, 0, none⟩ = some (.slice A n c) := hbs3.cell 0
      have hg' := Lib.hid hg
      have hba4 := Lib.hid hba3
      have hBw4 := Lib.hid hBw3
      clear hg hba3 hbs3 hBw3 hB3
      have hB4 : Below W3.heap.size W3 ((W3.alloc (.map #[] 0)).alloc (.cells ⟨[.int .i32 0, .int .u32 0, .slice A n c, .pointer (some ⟨g, 0, none⟩), .map (some W3.heap.size), .int .i64 0]⟩ 91)) := ((Below.refl _ _).alloc (Nat.le_refl _) _).alloc (by simp; try omega) _
      have hfz := Lib.hid (hba4.out.stay hB4)
      have hBz := hBw4.out.trans (hB4.mono hBw4.out.size)
      have hhb : Blk ((W3.alloc (.map #[] 0)).alloc (.cells ⟨[.int .i32 0, .int .u32 0, .slice A n c, .pointer (some ⟨g, 0, none⟩), .map (some W3.heap.size), .int .i64 0]⟩ 91)) (W3.heap.size + 1) 91 [.int .i32 0, .int .u32 0, .slice A n c, .pointer (some ⟨g, 0, none⟩), .map (some W3.heap.size), .int .i64 0] := Blk.new' (by simp)
      have hmp : ((W3.alloc (.map #[] 0)).alloc (.cells ⟨[.int .i32 0, .int .u32 0, .slice A n c, .pointer (some ⟨g, 0, none⟩), .map (some W3.heap.size), .int .i64 0]⟩ 91)).heap[W3.heap.size]? = some (.map #[] 0) := by
        have h1 : W3.heap.size < (W3.alloc (.map #[] 0)).heap.size := by simp
        exact (heap_alloc_old _ _ h1).trans (heap_alloc_new _ _)
      have hgt := hg'.out.stay hB4
      have hgs := hg'.out.lt
      have hw3 := hba4.out.lt
      have hwg : w.heap.size < g := by have := hba'.out.lt; omega
      have hfin : ∀ w1, ((W3.alloc (.map #[] 0)).alloc (.cells ⟨[.int .i32 0, .int .u32 0, .slice A n c, .pointer (some ⟨g, 0, none⟩), .map (some W3.heap.size), .int .i64 0]⟩ 91)).grownBy w1 (some w.heap.size) → Below w.heap.size w w1 ∧ HubAt w1 (W3.heap.size + 1) := fun w1 hg1 =>
        ⟨hBz.grown hg1 hBz.size (fun q hq => by injection hq with hq; omega), _, g, W3.heap.size, hhb.grown hg1 (fun e => by injection e with e; omega), (World.cell?_of_block (hg1.block g (by simp; omega) (fun e => by injection e with e; omega))).trans hgt,
          (hg1.block W3.heap.size (by simp; omega) (fun e => by injection e with e; omega)).trans hmp, by omega⟩
      replace hfin := Lib.hid hfin
      clear hB4 hBz hhb hmp hgt
      go_wp2_with (refine at_op (.store 47 (.tmp 5) (.tmp 35)) rfl ?_; refine wpList_store_blk rfl 47 (.tmp 5) (.tmp 35) rfl (cs' := ftV (0, 0, 0)) hfz.out aggFt rfl rfl rfl rfl ?_; intro w1 hz1 hg1)
      exact bodyPost_tc rfl hz1 aggFt rfl rfl rfl (.good hfF.out rfl (hfin.out w1 hg1).1 (hfin.out w1 hg1).2 (by omega))
    · rw [if_neg hc] at hfF
      simp only [if_neg hc] at kg
      replace kg := Lib.hid kg
      replace hc := Lib.hid hc
      replace hfF := Lib.hid hfF
      clear hba2 hbs hBw
      go_wp2_with first
        | (go_at_call 29; refine kg.out.mono ?_; rintro e W3 ⟨hB3, rfl⟩; have hba3 := Lib.hid (hba'.out.stay hB3); have hBw3 := Lib.hid (hBw'.out.trans (hB3.mono hBw'.out.size)); clear hB3)
        | (refine at_op (.store 47 (.tmp 5) (.tmp 29)) rfl ?_; refine wpList_store_blk rfl 47 (.tmp 5) (.tmp 29) rfl (cs' := ftV (3, 100, 0)) hba3.out aggFt rfl rfl rfl rfl ?_; intro w1 hz1 hg1)
      exact bodyPost_tc rfl hz1 aggFt rfl rfl rfl (.bad hfF.out (by decide) (hBw3.out.grown hg1 hBw3.out.size (fun q hq => by injection hq with hq; omega)))
  · rw [if_pos h0] at hfF
    have f0 : (cd == 0) = false := by rw [beq_eq_false_iff_ne]; exact h0
    replace hfF := Lib.hid hfF
    replace h0 := Lib.hid h0
    clear hba2 hbs hBw k2
    go_wp2_with (refine at_op (.store 47 (.tmp 5) (.tmp 20)) rfl ?_; refine wpList_store_blk rfl 47 (.tmp 5) (.tmp 20) rfl (cs' := ftV (1, cd, pl)) hba'.out aggFt rfl rfl rfl rfl ?_; intro w1 hz1 hg1)
    exact bodyPost_tc rfl hz1 aggFt rfl rfl rfl (.bad hfF.out (show (1 : Int) ≠ 0 by decide) (hBw'.out.grown hg1 hBw'.out.size (fun q hq => by injection hq with hq; omega)))
end hbW
end Go.Proofs.YtmadafejenjkcaaDoor
