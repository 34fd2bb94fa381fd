/- CascadeNamesUnlike: the law's own walk. -/
import Derived.Test.YtfnejelbacpheaaDerives
import Derived.Deep.CutBlock
import Derived.Deep.QuietTactic
import Derived.BigQuiet
namespace Go.Proofs.Ytfnejelbacpheaa.cascadeNamesUnlikeW
open Go.RowKit Go.Deep
open Go.Proofs.Ytfnejelbacpheaa.cascadeDerivesW (Mt nameD valD attl evC zeroC known fits Drv DrvPost drv_any Small aggEv)
set_option linter.unusedVariables false

def att (vals : List (Bool × Int)) (j : Nat) : Int := if j < vals.length then (vals[j]?.getD (false, 0)).2 else 0
theorem attl_eq (vals : List (Bool × Int)) : attl vals vals.length = [att vals 0, att vals 1, att vals 2, att vals 3, att vals 4, att vals 5, att vals 6, att vals 7] := rfl

/-- the event's cells -/
def evL (dec id typ : Int) (vals : List (Bool × Int)) : List Value :=
  [.int .i64 dec, .int .u64 id, .int .i64 typ, .int .i64 (att vals 0), .int .i64 (att vals 1), .int .i64 (att vals 2), .int .i64 (att vals 3), .int .i64 (att vals 4), .int .i64 (att vals 5), .int .i64 (att vals 6), .int .i64 (att vals 7)]
def idOf (rule nth : Int) : Int := 9223372036854775808 + rule * 281474976710656 + nth
def zeL : List Value := [.int .i64 0, .int .u64 0, .int .i64 0, .int .i64 0, .int .i64 0, .int .i64 0, .int .i64 0, .int .i64 0, .int .i64 0, .int .i64 0, .int .i64 0]

theorem drv_t (A1 A2 A3 : Option Addr) (n1 n2 c1 c2 c3 : Nat) (F : Nat → Prop) (rule typ nth dec : Int) (vals : List (Bool × Int)) (w : World) (h4 : 0 ≤ nth) (hF : ∀ b, F b → b < w.heap.size) (ho : fits rule typ nth dec vals ∧ known vals = true)
    (ra : Rd w F (.slice A3 vals.length c3) (.sl vals.length (vals.flatMap valD))) :
    Calls Try.prog 14 #[.int .i64 rule, .int .i64 typ, .int .u64 nth, .agg #[.int .i64 dec, .slice A1 n1 c1, .slice A2 n2 c2, .slice A3 vals.length c3]] w
      fun e w' => e = .returned (.tuple #[.agg ⟨evL dec (idOf rule nth) typ vals⟩, .bool true]) ∧ Below w.heap.size w w' := by
  refine (drv_any A1 A2 A3 n1 n2 c1 c2 c3 F rule typ nth dec vals w h4 hF ra).mono fun e w' hP => ?_
  obtain ⟨cs, ok, rfl, hd, hb⟩ := hP
  rcases hd with ⟨_, _, rfl, rfl⟩ | ⟨no, _, _⟩
  · exact ⟨rfl, hb⟩
  · exact absurd ho no
theorem drv_f (A1 A2 A3 : Option Addr) (n1 n2 c1 c2 c3 : Nat) (F : Nat → Prop) (rule typ nth dec : Int) (vals : List (Bool × Int)) (w : World) (h4 : 0 ≤ nth) (hF : ∀ b, F b → b < w.heap.size) (ho : ¬ (fits rule typ nth dec vals ∧ known vals = true))
    (ra : Rd w F (.slice A3 vals.length c3) (.sl vals.length (vals.flatMap valD))) :
    Calls Try.prog 14 #[.int .i64 rule, .int .i64 typ, .int .u64 nth, .agg #[.int .i64 dec, .slice A1 n1 c1, .slice A2 n2 c2, .slice A3 vals.length c3]] w
      fun e w' => e = .returned (.tuple #[.agg ⟨zeL⟩, .bool false]) ∧ Below w.heap.size w w' := by
  refine (drv_any A1 A2 A3 n1 n2 c1 c2 c3 F rule typ nth dec vals w h4 hF ra).mono fun e w' hP => ?_
  obtain ⟨cs, ok, rfl, hd, hb⟩ := hP
  rcases hd with ⟨a, b, _, _⟩ | ⟨_, rfl, rfl⟩
  · exact absurd ⟨a, b⟩ ho
  · exact ⟨rfl, hb⟩

/-- the event of a Derive: its cells and whether there is one -/
def evOf (rule nth dec : Int) (vals : List (Bool × Int)) (ok : Bool) : List Value := if ok then evL dec (idOf rule nth) 2 vals else zeL
theorem drv_b (A1 A2 A3 : Option Addr) (n1 n2 c1 c2 c3 : Nat) (F : Nat → Prop) (rule nth dec : Int) (vals : List (Bool × Int)) (ok : Bool) (w : World) (h4 : 0 ≤ nth) (hF : ∀ b, F b → b < w.heap.size) (ho : ok = true ↔ (fits rule 2 nth dec vals ∧ known vals = true))
    (ra : Rd w F (.slice A3 vals.length c3) (.sl vals.length (vals.flatMap valD))) :
    Calls Try.prog 14 #[.int .i64 rule, .int .i64 2, .int .u64 nth, .agg #[.int .i64 dec, .slice A1 n1 c1, .slice A2 n2 c2, .slice A3 vals.length c3]] w
      fun e w' => e = .returned (.tuple #[.agg ⟨evOf rule nth dec vals ok⟩, .bool ok]) ∧ Below w.heap.size w w' := by
  cases ok
  · exact drv_f _ _ _ _ _ _ _ _ F rule 2 nth dec vals w h4 hF (fun h => by have := ho.2 h; cases this) ra
  · exact drv_t _ _ _ _ _ _ _ _ F rule 2 nth dec vals w h4 hF (ho.1 rfl) ra

theorem evOf_len (rule nth dec : Int) (vals : List (Bool × Int)) (ok : Bool) : (evOf rule nth dec vals ok).length = 11 := by cases ok <;> rfl
theorem evOf_one (rule nth dec : Int) (vals : List (Bool × Int)) (ok : Bool) : (evOf rule nth dec vals ok).all (·.oneCell') = true := by cases ok <;> rfl

/-- what holds behind both calls -/
def NS (w W : World) (gx gy : Nat) (mc nc xs ys : List Value) : Prop :=
  Below w.heap.size w W ∧ Blk W w.heap.size 33 mc ∧ Blk W (w.heap.size + 1) 33 nc ∧ Blk W gx 38 xs ∧ Blk W gy 38 ys
theorem NS.stay {w W W' : World} {gx gy : Nat} {mc nc xs ys : List Value} (h : NS w W gx gy mc nc xs ys) (hb : Below W.heap.size W W') : NS w W' gx gy mc nc xs ys :=
  ⟨h.1.trans (hb.mono h.1.size), h.2.1.stay hb, h.2.2.1.stay hb, h.2.2.2.1.stay hb, h.2.2.2.2.stay hb⟩
theorem NS.drewN {w W : World} {gx gy : Nat} {mc nc xs ys : List Value} (h : NS w W gx gy mc nc xs ys) (k : Nat) : NS w (W.drewN k) gx gy mc nc xs ys := h.stay (below_drewN (Below.refl _ _) k)

def fits0 (rule nth dec : Int) (n : Nat) : Prop := 0 ≤ rule ∧ rule < 8 ∧ nth < 281474976710656 ∧ n ≤ 8 ∧ -1152921504606846976 ≤ dec ∧ dec ≤ 1152921504606846976

def allK (vals : List (Bool × Int)) (k : Nat) : Prop := ∀ j x, vals[j]? = some x → j < k → x.1 = true
theorem allK_succ {vals : List (Bool × Int)} {k : Nat} {x : Bool × Int} (hx : vals[k]? = some x) : allK vals (k + 1) ↔ allK vals k ∧ x.1 = true := by
  constructor
  · intro h
    exact ⟨fun j y hy hj => h j y hy (by omega), h k x hx (by omega)⟩
  · rintro ⟨h, h'⟩ j y hy hj
    by_cases e : j = k
    · subst e; rw [hx] at hy; injection hy with hy; subst hy; exact h'
    · exact h j y hy (by omega)
theorem allK_all {vals : List (Bool × Int)} : allK vals vals.length ↔ known vals = true := by
  unfold known
  rw [List.all_eq_true]
  constructor
  · intro h x hx
    obtain ⟨j, hj⟩ := List.getElem?_of_mem hx
    exact h j x hj (List.getElem?_eq_some_iff.1 hj).1
  · intro h j x hx _
    exact h x (List.mem_of_getElem? hx)
/-- the flag behind k rounds -/
def Flag (i a dec : Int) (vals : List (Bool × Int)) (k : Nat) (t : Bool) : Prop := t = true ↔ (fits0 i a dec vals.length ∧ allK vals k)
theorem Flag.succ {i a dec : Int} {vals : List (Bool × Int)} {k : Nat} {x : Bool × Int} (h : Flag i a dec vals k true) (hx : vals[k]? = some x) : Flag i a dec vals (k + 1) x.1 := by
  have := h.1 rfl
  unfold Flag
  rw [allK_succ hx]
  exact ⟨fun e => ⟨this.1, this.2, e⟩, fun e => e.2.2⟩
theorem fits_iff {i a dec : Int} {vals : List (Bool × Int)} : fits i 2 a dec vals ↔ fits0 i a dec vals.length := by unfold fits fits0; omega
theorem Flag.false_ {i a dec : Int} {vals : List (Bool × Int)} {k : Nat} {ok : Bool} (h : Flag i a dec vals k false) (ho : ok = true ↔ (fits i 2 a dec vals ∧ known vals = true)) : false = ok := by
  cases ok
  · rfl
  · have := ho.1 rfl
    have h2 := h.2 ⟨fits_iff.1 this.1, fun j x hx hj => allK_all.2 this.2 j x hx (List.getElem?_eq_some_iff.1 hx).1⟩
    cases h2
theorem Flag.end_ {i a dec : Int} {vals : List (Bool × Int)} {t ok : Bool} (h : Flag i a dec vals vals.length t) (ho : ok = true ↔ (fits i 2 a dec vals ∧ known vals = true)) : t = ok := by
  unfold Flag at h
  rw [allK_all, ← fits_iff] at h
  cases t <;> cases ok <;> simp_all

theorem evL_get (dec id typ : Int) (vals : List (Bool × Int)) {k : Nat} (hk : k < 8) : (evL dec id typ vals)[3 + k]? = some (.int .i64 (att vals k)) := by
  match k, hk with
  | 0, _ => rfl
  | 1, _ => rfl
  | 2, _ => rfl
  | 3, _ => rfl
  | 4, _ => rfl
  | 5, _ => rfl
  | 6, _ => rfl
  | 7, _ => rfl
theorem att_in {vals : List (Bool × Int)} {k : Nat} {x : Bool × Int} (hx : vals[k]? = some x) : x.2 = att vals k := by
  unfold att
  rw [if_pos (List.getElem?_eq_some_iff.1 hx).1, hx]; rfl
theorem att_out {vals : List (Bool × Int)} {k : Nat} (h : vals.length ≤ k) : att vals k = 0 := by
  unfold att
  exact if_neg (by omega)

theorem neqEv (w : World) (x0 x1 x2 x3 x4 x5 x6 x7 x8 x9 x10 y0 y1 y2 y3 y4 y5 y6 y7 y8 y9 y10 : Int) :
    (binOp .neq 38 (.agg #[.int .i64 x0, .int .u64 x1, .int .i64 x2, .int .i64 x3, .int .i64 x4, .int .i64 x5, .int .i64 x6, .int .i64 x7, .int .i64 x8, .int .i64 x9, .int .i64 x10])
      (.agg #[.int .i64 y0, .int .u64 y1, .int .i64 y2, .int .i64 y3, .int .i64 y4, .int .i64 y5, .int .i64 y6, .int .i64 y7, .int .i64 y8, .int .i64 y9, .int .i64 y10])).run Try.prog w = .ok (.bool (!evEq x0 x1 x2 x3 x4 x5 x6 x7 x8 x9 x10 y0 y1 y2 y3 y4 y5 y6 y7 y8 y9 y10)) w := by
  rw [run_neq_struct, eqEv]; rfl

set_option maxRecDepth 100000 in
set_option maxHeartbeats 800000 in

theorem law (A1 A2 A3 B1 B2 B3 : Option Addr) (c1 c2 c3 d1 d2 d3 : Nat) (i j a b : Int) (m n : Mt) (ok may : Bool) (w : World) (h4 : 0 ≤ a) (h5 : 0 ≤ b) (hm : Small m) (hn : Small n)
    (hok : ok = true ↔ (fits i 2 a m.dec m.vals ∧ known m.vals = true)) (hmay : may = true ↔ (fits j 2 b n.dec n.vals ∧ known n.vals = true))
    (r3 : Rd w (fun b => b < w.heap.size) (.slice A3 m.vals.length c3) (.sl m.vals.length (m.vals.flatMap valD))) (e3 : Rd w (fun b => b < w.heap.size) (.slice B3 n.vals.length d3) (.sl n.vals.length (n.vals.flatMap valD))) :
    Calls Try.prog 6 #[.agg #[.int .i64 m.dec, .slice A1 m.names.length c1, .slice A2 m.lens.length c2, .slice A3 m.vals.length c3], .agg #[.int .i64 n.dec, .slice B1 n.names.length d1, .slice B2 n.lens.length d2, .slice B3 n.vals.length d3], .int .i64 i, .int .i64 j, .int .u64 a, .int .u64 b] w
      fun e w' => e = .returned (.bool true) ∧ Below w.heap.size w w' := by
  have hc1 : Hid (∀ W, Below w.heap.size w W → Calls Try.prog 14 #[.int .i64 i, .int .i64 2, .int .u64 a, .agg #[.int .i64 m.dec, .slice A1 m.names.length c1, .slice A2 m.lens.length c2, .slice A3 m.vals.length c3]] W
      fun e w' => e = .returned (.tuple #[.agg ⟨evOf i a m.dec m.vals ok⟩, .bool ok]) ∧ Below W.heap.size W w') := fun W hb => drv_b _ _ _ _ _ _ _ _ (fun b => b < w.heap.size) _ _ _ _ ok W h4 (fun q h => Nat.lt_of_lt_of_le h hb.size) hok (r3.under hb fun _ h => h)
  have hc2 : Hid (∀ W, Below w.heap.size w W → Calls Try.prog 14 #[.int .i64 j, .int .i64 2, .int .u64 b, .agg #[.int .i64 n.dec, .slice B1 n.names.length d1, .slice B2 n.lens.length d2, .slice B3 n.vals.length d3]] W
      fun e w' => e = .returned (.tuple #[.agg ⟨evOf j b n.dec n.vals may⟩, .bool may]) ∧ Below W.heap.size W w') := fun W hb => drv_b _ _ _ _ _ _ _ _ (fun b => b < w.heap.size) _ _ _ _ may W h5 (fun q h => Nat.lt_of_lt_of_le h hb.size) hmay (e3.under hb fun _ h => h)
  obtain ⟨xs, hxs⟩ : ∃ xs, xs = evOf i a m.dec m.vals ok := ⟨_, rfl⟩
  obtain ⟨ys, hys⟩ : ∃ ys, ys = evOf j b n.dec n.vals may := ⟨_, rfl⟩
  have lx : Hid (xs.length = 11) := by rw [hxs]; exact evOf_len _ _ _ _ _
  have ly : Hid (ys.length = 11) := by rw [hys]; exact evOf_len _ _ _ _ _
  have ox : Hid (xs.all (·.oneCell') = true) := by rw [hxs]; exact evOf_one _ _ _ _ _
  have oy : Hid (ys.all (·.oneCell') = true) := by rw [hys]; exact evOf_one _ _ _ _ _
  rw [← hxs] at hc1
  rw [← hys] at hc2
  replace hxs := Lib.hid hxs
  replace hys := Lib.hid hys
  replace hok := Lib.hid hok
  replace hmay := Lib.hid hmay
  go_enter Try.func6, Try.ntmps6
  go_wp2_with fail
  refine (hc1.out _ (((Below.refl _ _).alloc (Nat.le_refl _) _).alloc (by simp) _)).mono ?_
  rintro e w1 ⟨rfl, hb1⟩
  have m1 : Blk w1 w.heap.size 33 [.int .i64 m.dec, .slice A1 m.names.length c1, .slice A2 m.lens.length c2, .slice A3 m.vals.length c3] := ((Blk.new _ _ _).alloc _).stay hb1
  have n1 : Blk w1 (w.heap.size + 1) 33 [.int .i64 n.dec, .slice B1 n.names.length d1, .slice B2 n.lens.length d2, .slice B3 n.vals.length d3] := (Blk.new' (by simp)).stay hb1
  have hb1' : Below w.heap.size w w1 := (((Below.refl _ _).alloc (Nat.le_refl _) _).alloc (by simp) _).trans (hb1.mono (by simp; omega))
  clear hb1
  go_upto_region 3 with (first
    | (refine at_op (.store 38 (.tmp 13) (.tmp 25)) rfl ?_
       refine wpList_store_blk rfl 38 (.tmp 13) (.tmp 25) rfl (cs' := xs) (Blk.new' (cs := zeL) rfl) (by rw [lx.out]; exact aggEv) (by rw [lx.out]; rfl) rfl rfl ox.out ?_
       intro w2 x2 g2
       have hb2 : Below w.heap.size w w2 := (hb1'.alloc hb1'.size _).grown g2 (by have := hb1'.size; simp; omega) (fun q hq => by injection hq with hq; have := hb1'.size; omega)
       have m2 := (m1.alloc _).grown g2 (by have := m1.lt; simp; omega)
       have n2 := (n1.alloc _).grown g2 (by have := n1.lt; simp; omega)
       have q0 : w2.cell? ⟨w.heap.size + 1, 0, none⟩ = some (.int .i64 n.dec) := n2.cell 0
       have q1 : w2.cell? ⟨w.heap.size + 1, 1, none⟩ = some (.slice B1 n.names.length d1) := n2.cell 1
       have q2 : w2.cell? ⟨w.heap.size + 1, 2, none⟩ = some (.slice B2 n.lens.length d2) := n2.cell 2
       have q3 : w2.cell? ⟨w.heap.size + 1, 3, none⟩ = some (.slice B3 n.vals.length d3) := n2.cell 3
       clear m1 n1 hb1' g2)
    | (go_at_call 14
       refine (hc2.out _ hb2).mono ?_
       rintro e w3 ⟨rfl, hb3⟩
       have x3 := x2.stay hb3
       have m3 := m2.stay hb3
       have n3 := n2.stay hb3
       have hb3' := hb2.trans (hb3.mono hb2.size)
       clear x2 m2 n2 hb2 hb3 q0 q1 q2 q3)
    | (refine at_op (.store 38 (.tmp 15) (.tmp 32)) rfl ?_
       refine wpList_store_blk rfl 38 (.tmp 15) (.tmp 32) rfl (cs' := ys) (Blk.new' (cs := zeL) rfl) (by rw [ly.out]; exact aggEv) (by rw [ly.out]; rfl) rfl rfl oy.out ?_
       intro w4 y4 g4
       have hb4 : Below w.heap.size w w4 := (hb3'.alloc hb3'.size _).grown g4 (by have := hb3'.size; simp; omega) (fun q hq => by injection hq with hq; have := hb3'.size; omega)
       have hns : NS w w4 w1.heap.size w3.heap.size _ _ xs ys := ⟨hb4, (m3.alloc _).grown g4 (by have := m3.lt; simp; omega), (n3.alloc _).grown g4 (by have := n3.lt; simp; omega), (x3.alloc _).grown g4 (by have := x3.lt; simp; omega), y4⟩
       clear x3 m3 n3 hb3' y4 g4 hb4
       ))
  have p0 : w4.cell? ⟨w.heap.size, 0, none⟩ = some (.int .i64 m.dec) := hns.2.1.cell 0
  have p3 : w4.cell? ⟨w.heap.size, 3, none⟩ = some (.slice A3 m.vals.length c3) := hns.2.1.cell 3
  clear hc1 hc2 lx ly ox oy
  replace hns := Lib.hid hns
  replace r3 := Lib.hid r3
  go_cut [17] (fun s17 wx => ∃ t : Bool, s17 = .bool t ∧ (t = true ↔ fits0 i a m.dec m.vals.length) ∧ wx = w4)
  case first =>
    have hbad : i < 0 ∨ (0 ≤ i ∧ 8 ≤ i) ∨ (0 ≤ i ∧ i < 8 ∧ 281474976710656 ≤ a) ∨ (0 ≤ i ∧ i < 8 ∧ a < 281474976710656 ∧ (8 : Int) < m.vals.length) ∨
      (0 ≤ i ∧ i < 8 ∧ a < 281474976710656 ∧ (m.vals.length : Int) ≤ 8 ∧ m.dec < -1152921504606846976) ∨ (0 ≤ i ∧ i < 8 ∧ a < 281474976710656 ∧ (m.vals.length : Int) ≤ 8 ∧ -1152921504606846976 ≤ m.dec ∧ 1152921504606846976 < m.dec) ∨
      (0 ≤ i ∧ i < 8 ∧ a < 281474976710656 ∧ (m.vals.length : Int) ≤ 8 ∧ -1152921504606846976 ≤ m.dec ∧ m.dec ≤ 1152921504606846976) := by omega
    rcases hbad with h | ⟨z1, h⟩ | ⟨z1, z2, h⟩ | ⟨z1, z2, z3, h⟩ | ⟨z1, z2, z3, z4, h⟩ | ⟨z1, z2, z3, z4, z5, h⟩ | ⟨z1, z2, z3, z4, z5, h⟩
    all_goals
      go_wp2_with fail
      go_meet
    · exact ⟨_, rfl, by unfold fits0; simp; omega, rfl⟩
    · exact ⟨_, rfl, by unfold fits0; simp; omega, rfl⟩
    · exact ⟨_, rfl, by unfold fits0; simp; omega, rfl⟩
    · exact ⟨_, rfl, by unfold fits0; simp; omega, rfl⟩
    · exact ⟨_, rfl, by unfold fits0; simp; omega, rfl⟩
    · exact ⟨_, rfl, by unfold fits0; simp; omega, rfl⟩
    · exact ⟨_, rfl, by unfold fits0; simp; omega, rfl⟩
  case rest =>
    obtain ⟨t0, rfl, ht0, rfl⟩ := hcut
    clear p0 p3
    go_upto_block 0 with fail
    go_cut [17] (fun s17 wx => s17 = .bool ok ∧ NS w wx w1.heap.size w3.heap.size [.int .i64 m.dec, .slice A1 m.names.length c1, .slice A2 m.lens.length c2, .slice A3 m.vals.length c3] [.int .i64 n.dec, .slice B1 n.names.length d1, .slice B2 n.lens.length d2, .slice B3 n.vals.length d3] xs ys)
    case first =>
      obtain ⟨lm, hlm⟩ : ∃ lm, lm = m.vals.length := ⟨_, rfl⟩
      go_wp2
      go_loopw [17, 18] (fun s17 s18 wr => ∃ (k : Nat) (t : Bool), k ≤ m.vals.length ∧ s18 = .int .i64 k ∧ s17 = .bool t ∧ Hid (Flag i a m.dec m.vals k t) ∧ NS w wr w1.heap.size w3.heap.size [.int .i64 m.dec, .slice A1 m.names.length c1, .slice A2 m.lens.length c2, .slice A3 m.vals.length c3] [.int .i64 n.dec, .slice B1 n.names.length d1, .slice B2 n.lens.length d2, .slice B3 n.vals.length d3] xs ys) (fun _ s18 _ => m.vals.length - (intOf s18).toNat)
      case atStart => exact ⟨0, t0, Nat.zero_le _, rfl, rfl, (by unfold Flag; rw [ht0]; exact ⟨fun h => ⟨h, fun j x _ hj => by omega⟩, fun h => h.1⟩), hns.out⟩
      case round =>
        clear hlm
        obtain ⟨k, t, hk, rfl, rfl, hfl, hs⟩ := hrel
        have hl : m.vals.length ≤ 1048576 := hm.2.2
        have p3 : wr.cell? ⟨w.heap.size, 3, none⟩ = some (.slice A3 m.vals.length c3) := hs.2.1.cell 3
        by_cases hlt : k < m.vals.length
        · obtain ⟨⟨kn, x⟩, hx⟩ := getx hlt
          obtain ⟨bk, off, rfl, _, hc, _⟩ := (r3.out.under hs.1 (fun _ h => h)).rowv (m := 2) (fun _ => rfl) hx (by omega)
          have c0 : wr.cell? ⟨bk, off + k * 2, none⟩ = some (.bool kn) := hc 0 _ rfl
          replace hs := Lib.hid hs
          clear hc
          cases t
          · clear hx
            go_wp2
            go_meet
            exact ⟨by rw [hfl.out.false_ hok.out], hs.out⟩
          · have hfl' := Lib.hid (hfl.out.succ hx)
            clear hx
            go_wp2
            go_roundw
            case rel => exact ⟨k + 1, kn, by omega, by go_num, rfl, hfl'.out, hs.out⟩
            case measure => simp [intOf]; omega
        · have hkk : k = m.vals.length := by omega
          subst hkk
          have hto := hfl.out.end_ hok.out
          subst hto
          replace hs := Lib.hid hs
          go_wp2
          go_meet
          exact ⟨rfl, hs.out⟩
    case rest =>
      obtain ⟨rfl, hns⟩ := hcut
      have hx := hns.2.2.2.1
      have hy := hns.2.2.2.2
      have hz : ∀ W, (binOp .neq 38 (.agg #[.int .i64 0, .int .u64 0, .int .i64 0, .int .i64 0, .int .i64 0, .int .i64 0, .int .i64 0, .int .i64 0, .int .i64 0, .int .i64 0, .int .i64 0])
        (.agg #[.int .i64 0, .int .u64 0, .int .i64 0, .int .i64 0, .int .i64 0, .int .i64 0, .int .i64 0, .int .i64 0, .int .i64 0, .int .i64 0, .int .i64 0])).run Try.prog W = .ok (.bool false) W := fun W => by
        rw [neqEv]; rfl
      have m0 : wc.cell? ⟨w.heap.size, 0, none⟩ = some (.int .i64 m.dec) := hns.2.1.cell 0
      replace hns := Lib.hid hns
      rw [hxs.out] at hx
      rw [hys.out] at hy
      cases ok
      · replace hx : Blk wc w1.heap.size 38 zeL := hx
        have xc0 : wc.cell? ⟨w1.heap.size, 0, none⟩ = some (.int .i64 0) := hx.cell 0
        have xc1 : wc.cell? ⟨w1.heap.size, 1, none⟩ = some (.int .u64 0) := hx.cell 1
        have xc2 : wc.cell? ⟨w1.heap.size, 2, none⟩ = some (.int .i64 0) := hx.cell 2
        have xc3 : wc.cell? ⟨w1.heap.size, 3, none⟩ = some (.int .i64 0) := hx.cell 3
        have xc4 : wc.cell? ⟨w1.heap.size, 4, none⟩ = some (.int .i64 0) := hx.cell 4
        have xc5 : wc.cell? ⟨w1.heap.size, 5, none⟩ = some (.int .i64 0) := hx.cell 5
        have xc6 : wc.cell? ⟨w1.heap.size, 6, none⟩ = some (.int .i64 0) := hx.cell 6
        have xc7 : wc.cell? ⟨w1.heap.size, 7, none⟩ = some (.int .i64 0) := hx.cell 7
        have xc8 : wc.cell? ⟨w1.heap.size, 8, none⟩ = some (.int .i64 0) := hx.cell 8
        have xc9 : wc.cell? ⟨w1.heap.size, 9, none⟩ = some (.int .i64 0) := hx.cell 9
        have xc10 : wc.cell? ⟨w1.heap.size, 10, none⟩ = some (.int .i64 0) := hx.cell 10
        clear hx
        cases may
        · replace hy : Blk wc w3.heap.size 38 zeL := hy
          have yc0 : wc.cell? ⟨w3.heap.size, 0, none⟩ = some (.int .i64 0) := hy.cell 0
          have yc1 : wc.cell? ⟨w3.heap.size, 1, none⟩ = some (.int .u64 0) := hy.cell 1
          have yc2 : wc.cell? ⟨w3.heap.size, 2, none⟩ = some (.int .i64 0) := hy.cell 2
          have yc3 : wc.cell? ⟨w3.heap.size, 3, none⟩ = some (.int .i64 0) := hy.cell 3
          have yc4 : wc.cell? ⟨w3.heap.size, 4, none⟩ = some (.int .i64 0) := hy.cell 4
          have yc5 : wc.cell? ⟨w3.heap.size, 5, none⟩ = some (.int .i64 0) := hy.cell 5
          have yc6 : wc.cell? ⟨w3.heap.size, 6, none⟩ = some (.int .i64 0) := hy.cell 6
          have yc7 : wc.cell? ⟨w3.heap.size, 7, none⟩ = some (.int .i64 0) := hy.cell 7
          have yc8 : wc.cell? ⟨w3.heap.size, 8, none⟩ = some (.int .i64 0) := hy.cell 8
          have yc9 : wc.cell? ⟨w3.heap.size, 9, none⟩ = some (.int .i64 0) := hy.cell 9
          have yc10 : wc.cell? ⟨w3.heap.size, 10, none⟩ = some (.int .i64 0) := hy.cell 10
          clear hy
          go_wp2
          go_ret
          exact ⟨rfl, hns.out.1⟩
        · clear hy
          go_wp2
          go_ret
          exact ⟨rfl, hns.out.1⟩
      · have hfo := hok.out.1 rfl
        obtain ⟨⟨i1, i2, _, i5, i6, i7, i8⟩, _⟩ := hfo
        have hi1 : 9223372036854775808 ≤ idOf i a := by unfold idOf; omega
        have hi2 : (idOf i a < 9223372036854775808) = False := by simp; omega
        clear hi2
        replace hx : Blk wc w1.heap.size 38 (evL m.dec (idOf i a) 2 m.vals) := hx
        have xc0 : wc.cell? ⟨w1.heap.size, 0, none⟩ = some (.int .i64 m.dec) := hx.cell 0
        have xc1 : wc.cell? ⟨w1.heap.size, 1, none⟩ = some (.int .u64 (idOf i a)) := hx.cell 1
        have xc2 : wc.cell? ⟨w1.heap.size, 2, none⟩ = some (.int .i64 2) := hx.cell 2
        clear hx
        cases may
        · replace hy : Blk wc w3.heap.size 38 zeL := hy
          have yc0 : wc.cell? ⟨w3.heap.size, 0, none⟩ = some (.int .i64 0) := hy.cell 0
          have yc1 : wc.cell? ⟨w3.heap.size, 1, none⟩ = some (.int .u64 0) := hy.cell 1
          have yc2 : wc.cell? ⟨w3.heap.size, 2, none⟩ = some (.int .i64 0) := hy.cell 2
          have yc3 : wc.cell? ⟨w3.heap.size, 3, none⟩ = some (.int .i64 0) := hy.cell 3
          have yc4 : wc.cell? ⟨w3.heap.size, 4, none⟩ = some (.int .i64 0) := hy.cell 4
          have yc5 : wc.cell? ⟨w3.heap.size, 5, none⟩ = some (.int .i64 0) := hy.cell 5
          have yc6 : wc.cell? ⟨w3.heap.size, 6, none⟩ = some (.int .i64 0) := hy.cell 6
          have yc7 : wc.cell? ⟨w3.heap.size, 7, none⟩ = some (.int .i64 0) := hy.cell 7
          have yc8 : wc.cell? ⟨w3.heap.size, 8, none⟩ = some (.int .i64 0) := hy.cell 8
          have yc9 : wc.cell? ⟨w3.heap.size, 9, none⟩ = some (.int .i64 0) := hy.cell 9
          have yc10 : wc.cell? ⟨w3.heap.size, 10, none⟩ = some (.int .i64 0) := hy.cell 10
          clear hy
          go_wp2
          go_loopw [19] (fun s19 wr => ∃ k : Nat, k ≤ 8 ∧ s19 = .int .i64 k ∧ NS w wr w1.heap.size w3.heap.size [.int .i64 m.dec, .slice A1 m.names.length c1, .slice A2 m.lens.length c2, .slice A3 m.vals.length c3] [.int .i64 n.dec, .slice B1 n.names.length d1, .slice B2 n.lens.length d2, .slice B3 n.vals.length d3] xs ys) (fun s19 _ => 8 - (intOf s19).toNat)
          case atStart => exact ⟨0, Nat.zero_le _, rfl, hns.out⟩
          case round =>
            clear hns yc0 yc1 yc2 yc3 yc4 yc5 yc6 yc7 yc8 yc9 yc10 xc0 xc1 xc2 m0
            obtain ⟨k, hk, rfl, hs⟩ := hrel
            have hl : m.vals.length ≤ 1048576 := hm.2.2
            have g0 : (0 : Int) ≤ (k : Int) := by omega
            by_cases hlt : k < 8
            · have g1 : (k : Int) < 8 := by omega
              have p3 : wr.cell? ⟨w.heap.size, 3, none⟩ = some (.slice A3 m.vals.length c3) := hs.2.1.cell 3
              by_cases hin : k < m.vals.length
              · obtain ⟨x, hx⟩ := getx hin
                obtain ⟨bk, off, rfl, _, hc, _⟩ := (r3.out.under hs.1 (fun _ h => h)).rowv (m := 2) (fun _ => rfl) hx (by omega)
                have c1 : wr.cell? ⟨bk, off + k * 2 + 1, none⟩ = some (.int .i64 (att m.vals k)) := by rw [← att_in hx]; exact hc 1 _ rfl
                have px : wr.cell? ⟨w1.heap.size, 3 + k, none⟩ = some (.int .i64 (att m.vals k)) := by rw [hs.2.2.2.1.cell, hxs.out]; exact evL_get _ _ _ _ hlt
                have g2 : (k : Int) < m.vals.length := by omega
                have gd : decide ((m.vals.length : Int) ≤ (k : Int)) = false := by simp; omega
                have gt : decide ((k : Int) < (m.vals.length : Int)) = true := by simp; omega
                have gq : decide (m.vals.length ≤ k) = false := by simp; omega
                replace hs := Lib.hid hs
                clear hc hx
                go_wp2
                go_quiet (fail)
                go_wp2
                go_roundw
                case rel => exact ⟨k + 1, by omega, by go_num, hs.out.drewN _⟩
                case measure => simp [intOf]; omega
              · have px : wr.cell? ⟨w1.heap.size, 3 + k, none⟩ = some (.int .i64 0) := by rw [hs.2.2.2.1.cell, hxs.out, ← att_out (vals := m.vals) (k := k) (by omega)]; exact evL_get _ _ _ _ hlt
                have gd : decide ((m.vals.length : Int) ≤ (k : Int)) = true := by simp; omega
                have gt : decide ((k : Int) < (m.vals.length : Int)) = false := by simp; omega
                have g2 : (m.vals.length : Int) ≤ k := by omega
                replace hs := Lib.hid hs
                go_wp2
                go_quiet (fail)
                go_wp2
                go_roundw
                case rel => exact ⟨k + 1, by omega, by go_num, hs.out.drewN _⟩
                case measure => simp [intOf]; omega
            · have px : wr.cell? ⟨w1.heap.size, 1, none⟩ = some (.int .u64 (idOf i a)) := by rw [hs.2.2.2.1.cell, hxs.out]; rfl
              replace hs := Lib.hid hs
              go_wp2
              go_ret
              exact ⟨rfl, hs.out.1⟩
        · clear hy
          go_wp2
          go_loopw [19] (fun s19 wr => ∃ k : Nat, k ≤ 8 ∧ s19 = .int .i64 k ∧ NS w wr w1.heap.size w3.heap.size [.int .i64 m.dec, .slice A1 m.names.length c1, .slice A2 m.lens.length c2, .slice A3 m.vals.length c3] [.int .i64 n.dec, .slice B1 n.names.length d1, .slice B2 n.lens.length d2, .slice B3 n.vals.length d3] xs ys) (fun s19 _ => 8 - (intOf s19).toNat)
          case atStart => exact ⟨0, Nat.zero_le _, rfl, hns.out⟩
          case round =>
            clear hns xc0 xc1 xc2 m0
            obtain ⟨k, hk, rfl, hs⟩ := hrel
            have hl : m.vals.length ≤ 1048576 := hm.2.2
            have g0 : (0 : Int) ≤ (k : Int) := by omega
            by_cases hlt : k < 8
            · have g1 : (k : Int) < 8 := by omega
              have p3 : wr.cell? ⟨w.heap.size, 3, none⟩ = some (.slice A3 m.vals.length c3) := hs.2.1.cell 3
              by_cases hin : k < m.vals.length
              · obtain ⟨x, hx⟩ := getx hin
                obtain ⟨bk, off, rfl, _, hc, _⟩ := (r3.out.under hs.1 (fun _ h => h)).rowv (m := 2) (fun _ => rfl) hx (by omega)
                have c1 : wr.cell? ⟨bk, off + k * 2 + 1, none⟩ = some (.int .i64 (att m.vals k)) := by rw [← att_in hx]; exact hc 1 _ rfl
                have px : wr.cell? ⟨w1.heap.size, 3 + k, none⟩ = some (.int .i64 (att m.vals k)) := by rw [hs.2.2.2.1.cell, hxs.out]; exact evL_get _ _ _ _ hlt
                have g2 : (k : Int) < m.vals.length := by omega
                have gd : decide ((m.vals.length : Int) ≤ (k : Int)) = false := by simp; omega
                have gt : decide ((k : Int) < (m.vals.length : Int)) = true := by simp; omega
                have gq : decide (m.vals.length ≤ k) = false := by simp; omega
                replace hs := Lib.hid hs
                clear hc hx
                go_wp2
                go_quiet (fail)
                go_wp2
                go_roundw
                case rel => exact ⟨k + 1, by omega, by go_num, hs.out.drewN _⟩
                case measure => simp [intOf]; omega
              · have px : wr.cell? ⟨w1.heap.size, 3 + k, none⟩ = some (.int .i64 0) := by rw [hs.2.2.2.1.cell, hxs.out, ← att_out (vals := m.vals) (k := k) (by omega)]; exact evL_get _ _ _ _ hlt
                have gd : decide ((m.vals.length : Int) ≤ (k : Int)) = true := by simp; omega
                have gt : decide ((k : Int) < (m.vals.length : Int)) = false := by simp; omega
                have g2 : (m.vals.length : Int) ≤ k := by omega
                replace hs := Lib.hid hs
                go_wp2
                go_quiet (fail)
                go_wp2
                go_roundw
                case rel => exact ⟨k + 1, by omega, by go_num, hs.out.drewN _⟩
                case measure => simp [intOf]; omega
            · have px : wr.cell? ⟨w1.heap.size, 1, none⟩ = some (.int .u64 (idOf i a)) := by rw [hs.2.2.2.1.cell, hxs.out]; rfl
              have py : wr.cell? ⟨w3.heap.size, 1, none⟩ = some (.int .u64 (idOf j b)) := by rw [hs.2.2.2.2.cell, hys.out]; rfl
              replace hs := Lib.hid hs
              have hfm := hmay.out.1 (by trivial)
              obtain ⟨⟨j1, j2, _, j5, _⟩, _⟩ := hfm
              have hid : (idOf i a == idOf j b) = decide (i = j ∧ a = b) := by
                rw [Bool.eq_iff_iff]; simp [idOf]; omega
              by_cases e1 : i = j
              · by_cases e2 : a = b
                · have q1 : (idOf i a == idOf j b) = true := by rw [hid]; simp [e1, e2]
                  have q2 : (i == j) = true := by simp [e1]
                  have q3 : (a == b) = true := by simp [e2]
                  clear hid e1 e2
                  go_wp2
                  go_ret
                  exact ⟨rfl, hs.out.1⟩
                · have q1 : (idOf i a == idOf j b) = false := by rw [hid]; simp [e2]
                  have q2 : (i == j) = true := by simp [e1]
                  have q3 : (a == b) = false := by simp [e2]
                  clear hid e1 e2
                  go_wp2
                  go_ret
                  exact ⟨rfl, hs.out.1⟩
              · have q1 : (idOf i a == idOf j b) = false := by rw [hid]; simp [e1]
                have q2 : (i == j) = false := by simp [e1]
                clear hid e1
                go_wp2
                go_ret
                exact ⟨rfl, hs.out.1⟩
end Go.Proofs.Ytfnejelbacpheaa.cascadeNamesUnlikeW
