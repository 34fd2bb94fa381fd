/- What each kind of change does to the design: dropType. -/
import Derived.Test.YtmadafejenjkcaaDoorW7
namespace Go.Proofs.YtmadafejenjkcaaDoor
open Go.RowKit Go.Deep
set_option linter.unusedVariables false

theorem flat_erase {α β : Type} {f : α → List β} {m : Nat} (hf : ∀ x, (f x).length = m) : ∀ (l : List α) (i : Nat), (l.flatMap f).take (i * m) ++ (l.flatMap f).drop ((i + 1) * m) = (l.eraseIdx i).flatMap f := by
  intro l
  induction l with
  | nil => intro i; simp
  | cons a l ih =>
    intro i
    cases i with
    | zero =>
      rw [List.flatMap_cons, Nat.zero_mul, List.take_zero, List.nil_append, Nat.zero_add, Nat.one_mul, ← hf a, List.drop_left]
      rfl
    | succ i =>
      have e1 : (i + 1) * m = m + i * m := by rw [Nat.succ_mul]; omega
      have e2 : (i + 1 + 1) * m = m + (i + 1) * m := by rw [Nat.succ_mul (i + 1)]; omega
      rw [List.eraseIdx_cons_succ, List.flatMap_cons, List.flatMap_cons, ← ih i, e2, e1, List.take_append, List.drop_append, hf a, List.take_of_length_le (by rw [hf a]; omega), List.drop_of_length_le (by rw [hf a]; omega), List.nil_append, List.append_assoc,
        show m + i * m - m = i * m by omega, show m + (m + i * m) - m = m + i * m by omega]
def lsV (a b c : Int) : List Value := [.int .i64 a, .int .i64 b, .int .i64 c]
def lsD (a b c : Int) : List D := [.v (.int .i64 a), .v (.int .i64 b), .v (.int .i64 c)]
theorem ls_rd (w : World) (G : Nat → Prop) (a b c : Int) : RdL w G (lsV a b c) (lsD a b c) := ⟨.v _ rfl, .v _ rfl, .v _ rfl, trivial⟩
theorem chK_2 {t : List Kd} {c : Cg} {i : Nat} (h : c.kd = 2) (ht : tyAt t c.ty = some i) : chK t c = some (t.eraseIdx i) := by
  unfold chK
  rw [if_neg (by omega), if_pos (by omega), ht]
  show (if _ then _ else _) = _
  rw [if_pos h]
theorem map_erase_fst {l : List (Kd × Value)} {i : Nat} : (l.eraseIdx i).map (·.1) = (l.map (·.1)).eraseIdx i := by
  apply List.ext_getElem?
  intro j
  simp only [List.getElem?_map, List.getElem?_eraseIdx]
  split <;> rfl
section
variable {w : World} {B g nl : Nat} {vk vl : Value} {by_ : Int} {l : List (Kd × Value)}
/-- behind an append to the losses: what of the design is read next -/
theorem DX.overL {W1 : World} (h : DX w B g vk vl by_ nl l) (hg : w.grownBy W1 vl.ownBlock) : W1.cell? ⟨g, 0, none⟩ = some vk ∧ W1.cell? ⟨g, 1, none⟩ = some vl ∧ W1.frozen? ⟨g, 1, none⟩ = false := by
  obtain ⟨dl, hlr⟩ := h.lr
  have n1 : vl.ownBlock ≠ some g := hlr.neBlk h.bx (by decide)
  exact ⟨hg.cell h.c0 (fun e => n1 e.symm), hg.cell h.c1 (fun e => n1 e.symm), (World.frozen?_of_block (a := ⟨g, 1, none⟩) (hg.block g h.bx.lt (fun e => n1 e.symm))).trans (h.bx.frozen 1)⟩
/-- behind a write to the row of kinds -/
theorem DX.overK {W1 : World} (h : DX w B g vk vl by_ nl l) (hg : w.grownBy W1 vk.ownBlock) : W1.cell? ⟨g, 0, none⟩ = some vk ∧ W1.frozen? ⟨g, 0, none⟩ = false := by
  have n1 : vk.ownBlock ≠ some g := h.kr.neBlk h.bx (by decide)
  exact ⟨hg.cell h.c0 (fun e => n1 e.symm), (World.frozen?_of_block (a := ⟨g, 0, none⟩) (hg.block g h.bx.lt (fun e => n1 e.symm))).trans (h.bx.frozen 0)⟩
theorem DX.belowL {w0 W1 : World} {x : Value} (h : DX w B g vk vl by_ nl l) (hb : Below B w0 w) (hg : w.grownBy W1 vl.ownBlock) : Below B w0 (W1.setCell ⟨g, 1, none⟩ x) := by
  obtain ⟨dl, hlr⟩ := h.lr
  exact (hb.grown hg (Nat.le_trans h.gB (Nat.le_of_lt h.bx.lt)) (fun q hq => (hlr.lt q hq).1)).setCell h.gB _
theorem DX.belowK {w0 W1 : World} {x : Value} (h : DX w B g vk vl by_ nl l) (hb : Below B w0 w) (hg : w.grownBy W1 vk.ownBlock) : Below B w0 (W1.setCell ⟨g, 0, none⟩ x) :=
  (hb.grown hg (Nat.le_trans h.gB (Nat.le_of_lt h.bx.lt)) (fun q hq => (h.kr.lt q hq).1)).setCell h.gB _
end
namespace evW
open nmW
set_option maxHeartbeats 4000000 in
theorem dropType_k {w : World} {B g nl : Nat} {vk vl : Value} {by_ : Int} {l : List (Kd × Value)} (h : DX w B g vk vl by_ nl l) (hm : SmK (l.map (·.1))) (hnl : nl ≤ 1048576) (c : Cg) (hc : c.kd = 2) (A : Option Addr) (d : Nat) :
    Calls Tryd.prog 59 #[.pointer (some ⟨g, 0, none⟩), .agg #[.int .i64 c.kd, .string c.ty, .string c.at_, .string c.nm, .slice A c.ats.length d, .int .i64 c.n]] w (DPost (l.map (·.1)) c B g (nl + 1) w) := by
  have hll : l.length ≤ 1048576 := by have := hm.len; simp at this; omega
  have h0 : Below w.heap.size w (w.alloc (.cells ⟨cgC c A d⟩ 60)) := (Below.refl _ _).alloc (Nat.le_refl _) _
  have hk1 := find_k (h.stay h0) hll c.ty
  have hg := h.bx.lt
  have hBg : B ≤ w.heap.size := Nat.le_trans h.gB (Nat.le_of_lt hg)
  cases hty : tyAt (l.map (·.1)) c.ty with
  | none =>
    rw [hty, show optI none = -1 from rfl] at hk1
    have hch := chK_no (l := l.map (·.1)) (c := c) (by omega) hty
    replace hch := Lib.hid hch
    replace hk1 := Lib.hid hk1
    replace h0 := Lib.hid h0
    clear h hm hc
    go_enter Tryd.func59, Tryd.ntmps59
    go_wp2_with (go_at_call 85; refine hk1.out.mono ?_; rintro e w' ⟨rfl, hB1⟩)
    go_ret
    exact DPost.mk_none hch.out ((h0.out.trans (hB1.mono h0.out.size)).mono hBg)
  | some i =>
    rw [hty, show optI (some i) = (i : Int) from rfl] at hk1
    obtain ⟨p1, hp1⟩ := getx (tyAt_lt hty)
    rw [List.getElem?_map] at hp1
    obtain ⟨p, hp, rfl⟩ := Option.map_eq_some_iff.1 hp1
    have hilt : i < l.length := (List.getElem?_eq_some_iff.1 hp).1
    have g0 : (0 : Int) ≤ (i : Int) := by omega
    have g1 : (i : Int) < l.length := by omega
    obtain ⟨gk, cap, rfl, h1, h2, _⟩ := h.at_ hp
    obtain ⟨dl, hlr⟩ := h.lr
    obtain ⟨A3, c3, rfl⟩ := hlr.form
    have hch := chK_2 hc hty
    have kc : ∀ W, Below w.heap.size w W → W.cell? ⟨g, 0, none⟩ = some (.slice (some ⟨gk, 0, none⟩) l.length cap) ∧ W.cell? ⟨g, 1, none⟩ = some (.slice A3 nl c3) ∧ W.cell? ⟨g, 2, none⟩ = some (.int .i64 by_) ∧ W.cell? ⟨gk, i * 3 + 1, none⟩ = some (.int .i64 p.1.fr) := fun W hW => by
      have hx := h.stay hW
      obtain ⟨a1, _, a2, _, _⟩ := hx.at' hp
      exact ⟨a1, hx.c1, hx.c2, a2⟩
    have ko : ∀ W, Below w.heap.size w W → OL W B NoB 177 3 (.slice A3 nl c3) nl dl := fun W hW => hlr.stay hW
    have kd := fun W (hW : Below w.heap.size w W) => h.stay hW
    have hmp : (l.eraseIdx i).map (·.1) = (l.map (·.1)).eraseIdx i := map_erase_fst
    have hel : (l.eraseIdx i).length = l.length - 1 := List.length_eraseIdx_of_lt hilt
    replace hel := Lib.hid hel
    replace hch := Lib.hid hch
    replace hk1 := Lib.hid hk1
    replace h0 := Lib.hid h0
    replace kc := Lib.hid kc
    replace ko := Lib.hid ko
    replace kd := Lib.hid kd
    replace hmp := Lib.hid hmp
    clear h hm hp hp1 hty hc hlr
    go_enter Tryd.func59, Tryd.ntmps59
    go_upto_region 4 with (go_at_call 85; refine hk1.out.mono ?_; rintro e w' ⟨rfl, hB1⟩)
    have hW1 := Lib.hid (h0.out.trans (hB1.mono h0.out.size))
    obtain ⟨q0, q1, q2, q3⟩ := kc.out w' hW1.out
    have hW2 := Lib.hid (show Below w.heap.size w (w'.alloc (.cells ⟨lsV p.1.fr (-2) by_⟩ 177)) from hW1.out.alloc hW1.out.size _)
    have hsz : w.heap.size ≤ w'.heap.size := hW1.out.size
    have hsz1 : gk < w'.heap.size := by omega
    have hsz2 : g < w'.heap.size := by omega
    clear hB1
    go_region_law ((refine step_app (by rfl) (.tmp 16) (.tmp 30) _ (by rfl) (m := 1) (news := lsD p.1.fr (-2) by_) elLoss (by exact (ko.out _ hW2.out).drew) (by rfl) (by rfl) (by exact (Src.lit (ls_rd w' _ p.1.fr (-2) by_)).drew) rfl (by omega) (by omega) (by simp; omega) ?_; intro v' w1 hO1 hg1 ha1; obtain ⟨B3, d3, rfl⟩ := hO1.form; have hg2 := undrew hg1; obtain ⟨t0, t1, t2⟩ := (kd.out _ hW2.out).overL hg2))
    all_goals
      have hD := (kd.out _ hW2.out).putL hg2 hO1
      have hBB := (kd.out _ hW2.out).belowL (x := .slice B3 (nl + 1) d3) (hW2.out.mono hBg) hg2
      have hdel := delKind_k B gk cap l.length i NoB (l.flatMap kcD) _ hD.kr hilt
      replace hD := Lib.hid hD
      replace hBB := Lib.hid hBB
      replace hdel := Lib.hid hdel
      clear hg1 hg2 hO1 ha1
      go_wp2_with (go_at_call 86; refine hdel.out.mono ?_; rintro e w3 ⟨rfl, hO3, hg3⟩; obtain ⟨s0, s1⟩ := hD.out.overK hg3)
      rw [flat_erase (f := kcD) (m := 3) (fun _ => rfl), ← hel.out] at hO3
      have hfin := hD.out.putK hg3 hO3 (fun q hq => .inl (mem_eraseIdx hq)) (hD.out.ne_erase i)
      have hfb := hD.out.belowK (x := .slice (some ⟨gk, 0, none⟩) (l.eraseIdx i).length cap) hBB.out hg3
      rw [hel.out] at hfin hfb
      go_ret
      exact DPost.mk_some hch.out hfin hmp.out (Nat.le_refl _) hfb
end evW
end Go.Proofs.YtmadafejenjkcaaDoor
