/- MergeLows: the law's own walk. -/
import Derived.Test.YtfnejelbacpheaaLows
import Derived.Deep.QuietTactic
import Derived.BigQuiet
namespace Go.Proofs.Ytfnejelbacpheaa.mergeLowsW
open Go.RowKit Go.Deep
set_option linter.unusedVariables false

theorem el25 : ElT Try.prog 25 4 1 1 := .of Try.underlying25 (by kernel_rfl) (by omega)

def St (w wr : World) (A1 A2 : Option Addr) (c1 c2 n m : Nat) (ms : List Int) (ds : List Bool) : Prop :=
  ms.length = n ∧ ds.length = m ∧ Below w.heap.size w wr ∧ OL wr w.heap.size (fun _ => False) 2 1 (.slice A1 n c1) n (ms.flatMap (intD .i64)) ∧ OL wr w.heap.size (fun _ => False) 4 1 (.slice A2 m c2) m (ds.flatMap boolD)

theorem St.drewN {w wr : World} {A1 A2 : Option Addr} {c1 c2 n m : Nat} {ms : List Int} {ds : List Bool} (h : St w wr A1 A2 c1 c2 n m ms ds) (k : Nat) : St w (wr.drewN k) A1 A2 c1 c2 n m ms ds :=
  ⟨h.1, h.2.1, below_drewN h.2.2.1 k, h.2.2.2.1.drewN k, h.2.2.2.2.drewN k⟩

theorem St.stay {w wr w3 : World} {A1 A2 : Option Addr} {c1 c2 n m : Nat} {ms : List Int} {ds : List Bool} (h : St w wr A1 A2 c1 c2 n m ms ds) (hb : Below wr.heap.size wr w3) : St w w3 A1 A2 c1 c2 n m ms ds :=
  ⟨h.1, h.2.1, h.2.2.1.trans (hb.mono h.2.2.1.size), h.2.2.2.1.stay hb, h.2.2.2.2.stay hb⟩

/-- the k-th mark is written over -/
theorem St.setA {w wr : World} {A1 A2 : Option Addr} {c1 c2 n m : Nat} {ms : List Int} {ds : List Bool} (h : St w wr A1 A2 c1 c2 n m ms ds) {k : Nat} (hk : k < n) :
    ∃ g, A1 = some ⟨g, 0, none⟩ ∧ wr.frozen? ⟨g, k, none⟩ = false ∧ (∃ y, wr.cell? ⟨g, k, none⟩ = some y) ∧ ∀ x, St w (wr.setCell ⟨g, k, none⟩ (.int .i64 x)) A1 A2 c1 c2 n m (ms.set k x) ds := by
  obtain ⟨h1, h2, h3, h4, h5⟩ := h
  obtain ⟨g, cap, e, hB, hg, hf, hc⟩ := h4.row (by omega)
  injection e with e1 _ e2
  subst e1 e2
  obtain ⟨y, hy⟩ := getx (l := ms) (i := k) (by omega)
  have hd : (ms.flatMap (intD .i64))[k]? = some (.v (.int .i64 y)) := by
    have := flatMap_get (f := intD .i64) (m := 1) (fun _ => rfl) hy (j := 0) rfl
    simpa using this
  obtain ⟨u, hu, _⟩ := hc k _ hd
  refine ⟨g, rfl, hf k, ⟨u, hu⟩, fun x => ⟨by simpa using h1, h2, h3.setCell hB _, ?_, ?_⟩⟩
  · have := h4.set (j := k) (u := .int .i64 x) (d := .v (.int .i64 x)) (.v _ rfl)
    rw [show (ms.set k x).flatMap (intD .i64) = (ms.flatMap (intD .i64)).set k (.v (.int .i64 x)) from (set1 (f := fun x => D.v (.int .i64 x))).symm]
    exact this
  · refine h5.setCell ?_ (fun h => h) _
    rcases h5.ne h4 (by decide) with e | e
    · rw [e]; simp
    · simpa [Value.ownBlock] using e

theorem St.setB {w wr : World} {A1 A2 : Option Addr} {c1 c2 n m : Nat} {ms : List Int} {ds : List Bool} (h : St w wr A1 A2 c1 c2 n m ms ds) {k : Nat} (hk : k < m) :
    ∃ g, A2 = some ⟨g, 0, none⟩ ∧ wr.frozen? ⟨g, k, none⟩ = false ∧ (∃ y, wr.cell? ⟨g, k, none⟩ = some y) ∧ ∀ x, St w (wr.setCell ⟨g, k, none⟩ (.bool x)) A1 A2 c1 c2 n m ms (ds.set k x) := by
  obtain ⟨h1, h2, h3, h4, h5⟩ := h
  obtain ⟨g, cap, e, hB, hg, hf, hc⟩ := h5.row (by omega)
  injection e with e1 _ e2
  subst e1 e2
  obtain ⟨y, hy⟩ := getx (l := ds) (i := k) (by omega)
  have hd : (ds.flatMap boolD)[k]? = some (.v (.bool y)) := by
    have := flatMap_get (f := boolD) (m := 1) (fun _ => rfl) hy (j := 0) rfl
    simpa using this
  obtain ⟨u, hu, _⟩ := hc k _ hd
  refine ⟨g, rfl, hf k, ⟨u, hu⟩, fun x => ⟨h1, by simpa using h2, h3.setCell hB _, ?_, ?_⟩⟩
  · refine h4.setCell ?_ (fun h => h) _
    rcases h4.ne h5 (by decide) with e | e
    · rw [e]; simp
    · simpa [Value.ownBlock] using e
  · have := h5.set (j := k) (u := .bool x) (d := .v (.bool x)) (.v _ rfl)
    rw [show (ds.set k x).flatMap boolD = (ds.flatMap boolD).set k (.v (.bool x)) from (set1 (f := fun x => D.v (.bool x))).symm]
    exact this

set_option maxHeartbeats 1600000 in
theorem law (A B : Option Addr) (c d : Nat) (ms : List Int) (ds : List Bool) (w : World) (hn : ms.length ≤ 1048576) (hm : ds.length ≤ 1048576)
    (ra : Rd w (fun b => b < w.heap.size) (.slice A ms.length c) (.sl ms.length (ms.flatMap (intD .i64)))) (rb : Rd w (fun b => b < w.heap.size) (.slice B ds.length d) (.sl ds.length (ds.flatMap boolD))) :
    Calls Try.prog 4 #[.slice A ms.length c, .slice B ds.length d] w fun e w' => e = .returned (.bool true) ∧ Below w.heap.size w w' := by
  have hl1 : (ms.flatMap (intD .i64)).length = ms.length * 1 := by rw [Nat.mul_one]; exact len1 ms
  have hl2 : (ds.flatMap boolD).length = ds.length * 1 := by rw [Nat.mul_one]; exact len1 ds
  go_enter Try.func4, Try.ntmps4
  go_wp2_with (first
    | (at_builtin
       refine wpList_app rfl (.tmp 12) (.tmp 13) _ rfl (m := ms.length) (news := ms.flatMap (intD .i64)) el24 (OL.nil w w.heap.size (fun _ => False) 2 1) rfl rfl ra.srcp hl1 (by omega) (by omega) (Nat.le_refl _) ?_
       intro v1 w1 hO1 hg1 ha1
       have hb1 : Below w.heap.size w w1 := (Below.refl _ _).grown hg1 (Nat.le_refl _) (by simp [Value.ownBlock])
       have rb1 := rb.stay hb1)
    | (at_builtin
       refine wpList_app rfl (.tmp 15) (.tmp 16) _ rfl (m := ds.length) (news := ds.flatMap boolD) el25 (OL.nil w1 w.heap.size (fun _ => False) 4 1) rfl rfl rb1.srcp hl2 (by omega) (by omega) hb1.size ?_
       intro v2 w2 hO2 hg2 ha2
       have hb2 : Below w.heap.size w w2 := hb1.grown hg2 hb1.size (by simp [Value.ownBlock])
       have hA : OL w2 w.heap.size (fun _ => False) 2 1 v1 ms.length (ms.flatMap (intD .i64)) := by simpa using hO1.kept (row := none) hg2 (by cases v1.ownBlock <;> simp) (fun _ h => h.elim)
       have hB : OL w2 w.heap.size (fun _ => False) 4 1 v2 ds.length (ds.flatMap boolD) := by simpa using hO2
       obtain ⟨A1, c1, rfl⟩ := hA.form
       obtain ⟨A2, c2, rfl⟩ := hB.form
       have rA := hA.rd (G := fun _ => True) (fun _ _ _ => trivial) (fun _ _ _ => trivial)
       have rB := hB.rd (G := fun _ => True) (fun _ _ _ => trivial) (fun _ _ _ => trivial)
       clear hO1 hO2 ha1 ha2 hg1 hg2 hb1 rb1)
    | (go_at_call 11
       refine (low_any _ _ _ _ _ _ _ _ _ hn hm rA rB).mono ?_
       rintro e w' ⟨rfl, rfl⟩))
  have hst : St w w2 A1 A2 c1 c2 ms.length ds.length ms ds := ⟨rfl, rfl, hb2, hA, hB⟩
  clear hA hB rA rB hb2
  obtain ⟨low, hlow⟩ : ∃ low, low = (lowF ms ds ms.length).1 := ⟨_, rfl⟩
  rw [← hlow]
  replace hlow := Lib.hid hlow
  go_loopw [8] (fun i wr => ∃ k : Nat, k ≤ ms.length ∧ i = .int .i64 k ∧ St w wr A1 A2 c1 c2 ms.length ds.length ms ds) (fun i _ => ms.length - (intOf i).toNat)
  case atStart => exact ⟨0, Nat.zero_le _, rfl, hst⟩
  case round =>
    clear hst
    obtain ⟨k, hk, rfl, hst⟩ := hrel
    by_cases hlt : k < ms.length
    · obtain ⟨x, hx⟩ := getx hlt
      have hs := hst
      obtain ⟨_, _, hb, hA, hB⟩ := hs
      have ra' := ra.stay hb
      obtain ⟨b, off, rfl, _, hc⟩ := ra'.at_ hx
      have rA := hA.rd (G := fun _ => True) (fun _ _ _ => trivial) (fun _ _ _ => trivial)
      obtain ⟨b1, off1, rfl, _, hc1⟩ := rA.at_ hx
      have b0 : (0 : Int) ≤ (k : Int) := by omega
      have b3 : (k : Int) < ms.length := by omega
      replace hst := Lib.hid hst
      clear rA hA hB hb ra' hx
      go_wp2
      go_quiet (fail)
      go_wp2
      go_roundw
      case rel => exact ⟨k + 1, by omega, by go_num, hst.out.drewN _⟩
      case measure => simp [intOf]; omega
    · obtain ⟨w3, hw3⟩ : ∃ w3 : World, w3 = wr := ⟨_, rfl⟩
      subst hw3
      go_wp2
      go_loopw [9] (fun i wr => ∃ k : Nat, k ≤ ds.length ∧ i = .int .i64 k ∧ St w wr A1 A2 c1 c2 ms.length ds.length ms ds) (fun i _ => ds.length - (intOf i).toNat)
      case atStart => exact ⟨0, Nat.zero_le _, rfl, hst⟩
      case round =>
        clear hst
        obtain ⟨k, hk, rfl, hst⟩ := hrel
        by_cases hlt : k < ds.length
        · obtain ⟨x, hx⟩ := getx hlt
          have hs := hst
          obtain ⟨_, _, hb, hA, hB⟩ := hs
          have rb' := rb.stay hb
          obtain ⟨b, off, rfl, _, hc⟩ := rb'.at_ hx
          have rB := hB.rd (G := fun _ => True) (fun _ _ _ => trivial) (fun _ _ _ => trivial)
          obtain ⟨b1, off1, rfl, _, hc1⟩ := rB.at_ hx
          have b0 : (0 : Int) ≤ (k : Int) := by omega
          have b3 : (k : Int) < ds.length := by omega
          replace hst := Lib.hid hst
          clear rB hA hB hb rb' hx
          go_wp2
          go_quiet (fail)
          go_wp2
          go_roundw
          case rel => exact ⟨k + 1, by omega, by go_num, hst.out.drewN _⟩
          case measure => simp [intOf]; omega
        · have hb := hst.2.2.1
          have hbs := hb.size
          have ra' := ra.stay hb
          have rb' := rb.stay hb
          obtain ⟨w4, hw4⟩ : ∃ w4 : World, w4 = wr := ⟨_, rfl⟩
          subst hw4
          go_wp2_with (go_at_call 12; refine (rlow_any _ _ _ _ _ _ ms ds _ hn hm (fun b h => by omega) (fun b h => by omega) ra' rb').mono ?_; rintro e w5 ⟨he, hb5⟩; rw [← hlow.out] at he; subst he)
          replace hst := hst.stay hb5
          clear hb hbs ra' rb' hb5
          go_loopw [10] (fun i wr => ∃ (k : Nat) (ms' : List Int), k ≤ ms.length ∧ i = .int .i64 k ∧ St w wr A1 A2 c1 c2 ms.length ds.length ms' ds) (fun i _ => ms.length - (intOf i).toNat)
          case atStart => exact ⟨0, ms, Nat.zero_le _, rfl, hst⟩
          case round =>
            clear hst
            obtain ⟨k, ms', hk, rfl, hst⟩ := hrel
            by_cases hlt : k < ms.length
            · obtain ⟨x, hx⟩ := getx (l := ms) (i := ms.length - 1 - k) (by omega)
              obtain ⟨b, off, rfl, _, hc⟩ := (ra.stay hst.2.2.1).at_ hx
              obtain ⟨g, rfl, hfr, ⟨y, hy⟩, hst'⟩ := hst.setA hlt
              replace hst' := Lib.hid hst'
              clear hst hx
              go_wp2
              go_roundw
              case rel => exact ⟨k + 1, ms'.set k x, by omega, by go_num, hst'.out x⟩
              case measure => simp [intOf]; omega
            · obtain ⟨w6, hw6⟩ : ∃ w6 : World, w6 = wr := ⟨_, rfl⟩
              subst hw6
              clear hlow
              go_wp2
              go_loopw [11] (fun i wr => ∃ (k : Nat) (ds' : List Bool), k ≤ ds.length ∧ i = .int .i64 k ∧ St w wr A1 A2 c1 c2 ms.length ds.length ms' ds') (fun i _ => ds.length - (intOf i).toNat)
              case atStart => exact ⟨0, ds, Nat.zero_le _, rfl, hst⟩
              case round =>
                clear hst
                obtain ⟨k, ds', hk, rfl, hst⟩ := hrel
                by_cases hlt : k < ds.length
                · obtain ⟨x, hx⟩ := getx hlt
                  obtain ⟨b, off, rfl, _, hc⟩ := (rb.stay hst.2.2.1).at_ hx
                  obtain ⟨g, rfl, hfr, ⟨y, hy⟩, hst'⟩ := hst.setB hlt
                  replace hst' := Lib.hid hst'
                  clear hst hx
                  go_wp2
                  go_roundw
                  case rel => exact ⟨k + 1, ds'.set k (!x), by omega, by go_num, hst'.out (!x)⟩
                  case measure => simp [intOf]; omega
                · obtain ⟨w7, hw7⟩ : ∃ w7 : World, w7 = wr := ⟨_, rfl⟩
                  subst hw7
                  obtain ⟨e1, e2, hb, hA, hB⟩ := hst
                  have rA := hA.rd (G := fun b => b < w7.heap.size) (fun _ h _ => h.elim) (fun _ _ h => h)
                  have rB := hB.rd (G := fun b => b < w7.heap.size) (fun _ h _ => h.elim) (fun _ _ h => h)
                  rw [← e1] at rA
                  rw [← e2] at rB
                  have hn' : ms'.length ≤ 1048576 := by omega
                  have hm' : ds'.length ≤ 1048576 := by omega
                  obtain ⟨lo2, hlo2⟩ : ∃ lo2, lo2 = (lowF ms' ds' ms'.length).1 := ⟨_, rfl⟩
                  have l1 : Hid (∀ W, W = w7 → Calls Try.prog 11 #[.slice A1 ms.length c1, .slice A2 ds.length c2] W fun e w' => e = .returned (.int .i64 lo2) ∧ W = w') := by
                    rintro W rfl
                    rw [hlo2, ← e1, ← e2]
                    exact low_any _ _ _ _ _ _ ms' ds' _ hn' hm' rA rB
                  have l2 : Hid (∀ W, W = w7 → Calls Try.prog 12 #[.slice A1 ms.length c1, .slice A2 ds.length c2] W fun e w' => e = .returned (.int .i64 lo2) ∧ Below W.heap.size W w') := by
                    rintro W rfl
                    rw [hlo2, ← e1, ← e2]
                    exact rlow_any _ _ _ _ _ _ ms' ds' _ hn' hm' (fun _ h => h) (fun _ h => h) rA rB
                  clear e1 e2 hlo2 hA hB rA rB
                  go_wp2_with (first | (go_at_call 11; refine (l1.out _ rfl).mono ?_; rintro e w' ⟨rfl, rfl⟩) | (go_at_call 12; refine (l2.out _ rfl).mono ?_; rintro e w8 ⟨rfl, hb8⟩))
                  go_ret
                  exact ⟨rfl, hb.trans (hb8.mono hb.size)⟩
end Go.Proofs.Ytfnejelbacpheaa.mergeLowsW
