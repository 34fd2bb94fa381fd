/- LagSees: See of the document, New of both, the law's own walk. -/
import Derived.Test.YtfnejelbacpheaaLag
namespace Go.Proofs.Ytfnejelbacpheaa.lagW
open Go.RowKit Go.Deep
set_option linter.unusedVariables false

theorem el24 : ElT Try.prog 24 2 1 8 := .of Try.underlying24 (by kernel_rfl) (by omega)

/-- the document's model: its block, the list of what has been seen -/
def Mdl (w : World) (B g : Nat) (n : Int) (l : List Int) : Prop :=
  ∃ v, Blk w g 74 [.int .i64 n, v] ∧ OL w B (fun _ => False) 2 1 v l.length (l.flatMap (intD .i64))
/-- the blocks that it owns -/
def MdlS (w : World) (g : Nat) (k : Nat) : Prop := k = g ∨ ∃ n v, Blk w g 74 [n, v] ∧ v.ownBlock = some k

theorem Mdl.stay {w w' : World} {B g : Nat} {n : Int} {l : List Int} (h : Mdl w B g n l) (hb : Below w.heap.size w w') : Mdl w' B g n l := by
  obtain ⟨v, h1, h2⟩ := h
  exact ⟨v, h1.stay hb, h2.stay hb⟩

theorem rmark_m (B g : Nat) (n : Int) (l : List Int) (w : World) (hn : l.length ≤ 2097152) (h0 : 0 ≤ n) (h1 : n ≤ 1099511627776) (hM : Mdl w B g n l) :
    Calls Try.prog 20 #[.pointer (some ⟨g, 0, none⟩)] w fun e w' => e = .returned (.int .i64 (lagW.mk n (topOf l).1 (topOf l).2)) ∧ w = w' := by
  obtain ⟨v, hB, hO⟩ := hM
  exact rmark_any g n v (fun _ => True) l w hn h0 h1 _ _ rfl hB (hO.rd (fun _ _ _ => trivial) (fun _ _ _ => trivial))

/-- what the document's See leaves and answers: the model knows one more; elsewhere nothing has turned but in its own blocks -/
def RSeePost (B g : Nat) (n : Int) (l : List Int) (x : Int) (w : World) (e : Ending) (w' : World) : Prop :=
  e = .returned (.tuple #[.int .i64 (lagW.mk n (topOf (l ++ [x])).1 (topOf (l ++ [x])).2), .bool (lagW.mk n (topOf (l ++ [x])).1 (topOf (l ++ [x])).2 != lagW.mk n (topOf l).1 (topOf l).2)]) ∧
    Mdl w' B g n (l ++ [x]) ∧ Chg (MdlS w g) w w'

set_option maxHeartbeats 400000 in
theorem rsee_any (B g : Nat) (n : Int) (l : List Int) (x : Int) (w : World) (hn : l.length ≤ 1048576) (h0 : 0 ≤ n) (h1 : n ≤ 1099511627776) (hBs : B ≤ w.heap.size) (hM : Mdl w B g n l) :
    Calls Try.prog 22 #[.pointer (some ⟨g, 0, none⟩), .int .i64 x] w (RSeePost B g n l x w) := by
  have hm : Hid (∀ W l, l.length ≤ 2097152 → Mdl W B g n l → Calls Try.prog 20 #[.pointer (some ⟨g, 0, none⟩)] W fun e w' => e = .returned (.int .i64 (lagW.mk n (topOf l).1 (topOf l).2)) ∧ W = w') :=
    fun W l hn h => rmark_m B g n l W hn h0 h1 h
  have hM' := Lib.hid hM
  obtain ⟨v, hB, hO⟩ := hM
  obtain ⟨A, c, rfl⟩ := hO.form
  have c1 : w.cell? ⟨g, 1, none⟩ = some (.slice A l.length c) := hB.cell 1
  have f1 : w.frozen? ⟨g, 1, none⟩ = false := hB.frozen 1
  have hgl := hB.lt
  have hfm : Hid (l.flatMap (intD .i64) ++ intD .i64 x = (l ++ [x]).flatMap (intD .i64)) := by show _ = _; simp
  have hne : Hid (∀ q, Value.ownBlock (.slice A l.length c) = some q → q ≠ g) := fun q hq e => by
    have := (hO.lt q hq).2
    obtain ⟨cells, ho, _⟩ := hO
    rcases ho.2 with ⟨e1, _⟩ | ⟨g', cap, cur, e1, _, hg, _⟩
    · rw [e1] at hq; simp [Value.ownBlock] at hq
    · rw [e1] at hq
      simp [Value.ownBlock] at hq
      subst hq
      subst e
      have hB' := hB
      unfold Blk at hB'
      rw [hB'] at hg
      injection hg with hg
      injection hg with _ ht
      exact absurd ht (by decide)
  replace hB := Lib.hid hB
  replace hO := Lib.hid hO
  go_enter Try.func22, Try.ntmps22
  go_wp2_with fail
  refine (hm.out w l (by omega) hM'.out).mono ?_
  rintro e w1 ⟨rfl, rfl⟩
  go_wp2_with (first
    | (at_builtin
       refine wpList_app rfl (.tmp 14) (.tmp 16) _ rfl (m := 1) (news := intD .i64 x) el24 (hO.out.alloc _) rfl rfl (Src.lit ⟨.v _ rfl, trivial⟩) rfl (by omega) (by omega) (by simp; omega) ?_
       intro v' w2 hO' hg ha
       have hB2 := (hB.out.alloc (.cells #[.int .i64 x] 2)).grown hg (fun e => hne.out g e.symm rfl)
       have d1 : w2.cell? ⟨g, 1, none⟩ = some (.slice A l.length c) := hB2.cell 1
       have d2 : w2.frozen? ⟨g, 1, none⟩ = false := hB2.frozen 1
       obtain ⟨A', c', rfl⟩ := hO'.form
       have hne' : ∀ q, Value.ownBlock (.slice A' (l.length + 1) c') = some q → q ≠ g := fun q hq e => by
         rcases ha with h | h
         · exact hne.out q (h ▸ hq) e
         · rw [hq] at h; injection h with h; simp at h; omega
       have hM2 : Hid (Mdl (w2.setCell ⟨g, 1, none⟩ (.slice A' (l.length + 1) c')) B g n (l ++ [x])) := by
         refine ⟨_, hB2.set_ 1 _, ?_⟩
         rw [← hfm.out, List.length_append]
         exact hO'.setCell (fun h => hne' g h rfl) (fun h => h) _
       have hC : Hid (Chg (MdlS w g) w (w2.setCell ⟨g, 1, none⟩ (.slice A' (l.length + 1) c'))) :=
         ((((Chg.refl _ _).alloc _).grown hg (fun q hq _ => .inr ⟨_, _, hB.out, hq⟩)).setCell (.inl rfl) _)
       clear hne')
    | (go_at_call 20
       refine (hm.out _ (l ++ [x]) (by simp; omega) hM2.out).mono ?_
       rintro e w3 ⟨rfl, rfl⟩))
  go_ret2
  exact ⟨rfl, hM2.out, hC.out⟩

def LagC : Type := Unit
theorem new_bad (n : Int) (w : World) (h : n < 0 ∨ (0 ≤ n ∧ 1099511627776 < n)) : Calls Try.prog 17 #[.int .i64 n] w fun e w' => e = .returned (.tuple #[.pointer none, .int .i64 200]) ∧ w = w' := by
  rcases h with h | ⟨h1, h⟩
  all_goals
    go_enter Try.func17, Try.ntmps17
    go_wp2
    go_ret2
    exact ⟨rfl, rfl⟩
theorem rnew_bad (n : Int) (w : World) (h : n < 0 ∨ (0 ≤ n ∧ 1099511627776 < n)) : Calls Try.prog 18 #[.int .i64 n] w fun e w' => e = .returned (.tuple #[.pointer none, .int .i64 200]) ∧ w = w' := by
  rcases h with h | ⟨h1, h⟩
  all_goals
    go_enter Try.func18, Try.ntmps18
    go_wp2
    go_ret2
    exact ⟨rfl, rfl⟩
theorem new_ok (n : Int) (w : World) (h0 : 0 ≤ n) (h1 : n ≤ 1099511627776) : Calls Try.prog 17 #[.int .i64 n] w fun e w' => e = .returned (.tuple #[.pointer (some ⟨w.heap.size, 0, none⟩), .int .i64 0]) ∧ w' = w.alloc (.cells #[.int .i64 n, .int .i64 0, .bool false] 72) := by
  go_enter Try.func17, Try.ntmps17
  go_wp2
  go_ret2
  exact ⟨rfl, rfl⟩
theorem rnew_ok (n : Int) (w : World) (h0 : 0 ≤ n) (h1 : n ≤ 1099511627776) : Calls Try.prog 18 #[.int .i64 n] w fun e w' => e = .returned (.tuple #[.pointer (some ⟨w.heap.size, 0, none⟩), .int .i64 0]) ∧ w' = w.alloc (.cells #[.int .i64 n, .slice none 0 0] 74) := by
  go_enter Try.func18, Try.ntmps18
  go_wp2
  go_ret2
  exact ⟨rfl, rfl⟩

theorem mdl_not {w : World} {B g gl : Nat} {n : Int} {l : List Int} {cs : List Value} (hM : Mdl w B g n l) (hL : Blk w gl 72 cs) : ¬ MdlS w g gl := by
  obtain ⟨v, hB, hO⟩ := hM
  rintro (h | ⟨n', v', hB', hv⟩)
  · subst h
    unfold Blk at hB hL
    rw [hB] at hL
    injection hL with hL
    injection hL with _ ht
    exact absurd ht (by decide)
  · have e : v' = v := by
      unfold Blk at hB hB'
      rw [hB] at hB'
      injection hB' with hB'
      injection hB' with hB'
      injection hB' with hB'
      simp at hB'
      exact hB'.2.symm
    subst e
    obtain ⟨cells, ho, _⟩ := hO
    rcases ho.2 with ⟨rfl, _⟩ | ⟨g', cap, cur, rfl, _, hg, _⟩
    · simp [Value.ownBlock] at hv
    · simp [Value.ownBlock] at hv
      subst hv
      unfold Blk at hL
      rw [hL] at hg
      injection hg with hg
      injection hg with _ ht
      exact absurd ht (by decide)
theorem mdl_above {w : World} {B g : Nat} {n : Int} {l : List Int} (hM : Mdl w B g n l) (hg : B ≤ g) {k : Nat} (hk : MdlS w g k) : B ≤ k := by
  obtain ⟨v, hB, hO⟩ := hM
  rcases hk with h | ⟨n', v', hB', hv⟩
  · omega
  · have e : v' = v := by
      unfold Blk at hB hB'
      rw [hB] at hB'
      injection hB' with hB'
      injection hB' with hB'
      injection hB' with hB'
      simp at hB'
      exact hB'.2.symm
    subst e
    exact (hO.lt k hv).1

/-- both, behind the k first timestamps -/
def LS (w W : World) (gl gm : Nat) (n : Int) (l : List Int) (t : Int) (s : Bool) : Prop :=
  Below w.heap.size w W ∧ w.heap.size ≤ gl ∧ w.heap.size ≤ gm ∧ Blk W gl 72 [.int .i64 n, .int .i64 t, .bool s] ∧ Mdl W w.heap.size gm n l ∧ topOf l = (t, s)
theorem LS.stay {w W W' : World} {gl gm : Nat} {n : Int} {l : List Int} {t : Int} {s : Bool} (h : LS w W gl gm n l t s) (hb : Below W.heap.size W W') : LS w W' gl gm n l t s :=
  ⟨h.1.trans (hb.mono h.1.size), h.2.1, h.2.2.1, h.2.2.2.1.stay hb, h.2.2.2.2.1.stay hb, h.2.2.2.2.2⟩

/-- the one See and the other, one behind the other -/
theorem ls_sees {w : World} {gl gm : Nat} {n : Int} {l : List Int} {t : Int} {s : Bool} (x : Int) (h0 : 0 ≤ n) (h1 : n ≤ 1099511627776) (hl : l.length ≤ 1048576) :
    ∃ (t' : Int) (s' : Bool) (M D : Value), (∃ m d, M = .int .i64 m ∧ D = .bool d ∧ m = lagW.mk n t' s') ∧
      (∀ W, LS w W gl gm n l t s → Calls Try.prog 21 #[.pointer (some ⟨gl, 0, none⟩), .int .i64 x] W fun e W1 => e = .returned (.tuple #[M, D]) ∧ Below w.heap.size w W1 ∧
        (Calls Try.prog 22 #[.pointer (some ⟨gm, 0, none⟩), .int .i64 x] W1 fun e W2 => e = .returned (.tuple #[M, D]) ∧ LS w W2 gl gm n (l ++ [x]) t' s')) := by
  refine ⟨(stepT (t, s) x).1, (stepT (t, s) x).2, .int .i64 (lagW.mk n (stepT (t, s) x).1 (stepT (t, s) x).2), .bool (lagW.mk n (stepT (t, s) x).1 (stepT (t, s) x).2 != lagW.mk n t s), ⟨_, _, rfl, rfl, rfl⟩, ?_⟩
  rintro W ⟨hb, hgl, hgm, hL, hM, ht⟩
  have hok := topOf_ok l
  rw [ht] at hok
  refine (see_any gl n t s x W h0 h1 hok hL).mono fun e W1 hP => ?_
  obtain ⟨he, hL1, hC1⟩ := hP
  have hM1 : Mdl W1 w.heap.size gm n l := by
    have hno := mdl_not hM hL
    obtain ⟨v, hB, hO⟩ := hM
    refine ⟨v, hB.chg hC1 (fun e => hno (.inl e.symm)), hO.chg hC1 (fun b hv e => hno (.inr ⟨_, _, hB, e ▸ hv⟩)) (fun _ h => h.elim)⟩
  have hb1 : Below w.heap.size w W1 := hb.trans (hC1.below hb.size (fun k hk e => by omega))
  refine ⟨he, hb1, ?_⟩
  refine (rsee_any w.heap.size gm n l x W1 hl h0 h1 hb1.size hM1).mono fun e2 W2 hP => ?_
  obtain ⟨he2, hM2, hC2⟩ := hP
  rw [topOf_snoc, ht] at he2
  refine ⟨he2, hb1.trans (hC2.below hb1.size (fun k hk e => by have := mdl_above hM1 hgm e; omega)), hgl, hgm, hL1.chg hC2 (mdl_not hM1 hL1), hM2, by rw [topOf_snoc, ht]⟩
end Go.Proofs.Ytfnejelbacpheaa.lagW
