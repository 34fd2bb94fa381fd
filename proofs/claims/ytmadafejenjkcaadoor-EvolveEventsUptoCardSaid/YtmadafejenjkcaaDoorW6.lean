/- What each kind of change does to the design: renameType, renameAttr. -/
import Derived.Test.YtmadafejenjkcaaDoorW5
import Derived.Test.YtmadafejenjkcaaDoorV7
namespace Go.Proofs.YtmadafejenjkcaaDoor
open Go.RowKit Go.Deep
set_option linter.unusedVariables false

def DS (w : World) (B g : Nat) (t : List Kd) (N : Nat) : Prop := ∃ vk vl by_ nl l, DX w B g vk vl by_ nl l ∧ l.map (·.1) = t ∧ nl ≤ N
def DPost (t : List Kd) (c : Cg) (B g N : Nat) (w : World) (e : Ending) (w' : World) : Prop := ∃ b, e = .returned (.bool b) ∧ (∀ t', chK t c = some t' → b = true ∧ DS w' B g t' N) ∧ (chK t c = none → b = false) ∧ Below B w w'
theorem DPost.mk_none {t : List Kd} {c : Cg} {B g N : Nat} {w w' : World} (h : chK t c = none) (hb : Below B w w') : DPost t c B g N w (.returned (.bool false)) w' :=
  ⟨false, rfl, fun t' h' => (by rw [h] at h'; cases h'), fun _ => rfl, hb⟩
theorem DPost.mk_some {t t' : List Kd} {c : Cg} {B g N nl : Nat} {w w' : World} {vk vl : Value} {by_ : Int} {l : List (Kd × Value)} (h : chK t c = some t') (hd : DX w' B g vk vl by_ nl l) (hl : l.map (·.1) = t') (hn : nl ≤ N) (hb : Below B w w') : DPost t c B g N w (.returned (.bool true)) w' :=
  ⟨true, rfl, fun t2 h' => (by rw [h] at h'; injection h' with h'; subst h'; exact ⟨rfl, vk, vl, by_, nl, l, hd, hl, hn⟩), fun h' => (by rw [h] at h'; cases h'), hb⟩
theorem DX.at' {w : World} {B g nl gk n cap : Nat} {vl : Value} {by_ : Int} {l : List (Kd × Value)} (h : DX w B g (.slice (some ⟨gk, 0, none⟩) n cap) vl by_ nl l) {i : Nat} {p : Kd × Value} (hp : l[i]? = some p) :
    w.cell? ⟨g, 0, none⟩ = some (.slice (some ⟨gk, 0, none⟩) n cap) ∧ w.cell? ⟨gk, i * 3, none⟩ = some (.string p.1.nm) ∧ w.cell? ⟨gk, i * 3 + 1, none⟩ = some (.int .i64 p.1.fr) ∧ w.cell? ⟨gk, i * 3 + 2, none⟩ = some p.2 ∧ (∀ j, w.frozen? ⟨gk, j, none⟩ = false) := by
  obtain ⟨gk', cap', e, _, _, h3, h4, h5, h6⟩ := h.at_ hp
  injection e with e1 e2 e3
  injection e1 with e1
  injection e1 with e1
  subst e1
  exact ⟨h.c0, h4, h5, h6, h3⟩
theorem map_set_fst {l : List (Kd × Value)} {i : Nat} {x : Kd × Value} : (l.set i x).map (·.1) = (l.map (·.1)).set i x.1 := by
  rw [List.map_set]
theorem chK_3 {t : List Kd} {c : Cg} {i : Nat} {x : Kd} (h : c.kd = 3) (ht : tyAt t c.ty = some i) (hx : t[i]? = some x) : chK t c = some (t.set i { x with nm := c.nm }) := by
  unfold chK
  rw [if_neg (by omega), if_pos (by omega), ht]
  show (if _ then _ else if _ then _ else _) = _
  rw [if_neg (by omega), if_pos h, mod_set hx]
theorem chK_4 {t : List Kd} {c : Cg} {i : Nat} {x : Kd} {fs : List Fd} (h : 4 ≤ c.kd) (h7 : c.kd ≤ 7) (ht : tyAt t c.ty = some i) (hx : t[i]? = some x) (hc : chF x.fs c = some fs) : chK t c = some (t.set i { x with fs := fs }) := by
  unfold chK
  rw [if_neg (by omega), if_pos (by omega), ht]
  show (if _ then _ else if _ then _ else _) = _
  rw [if_neg (by omega), if_neg (by omega), hx]
  show Option.map _ (chF x.fs c) = _
  rw [hc]; rfl
theorem chF_6 {l : List Fd} {c : Cg} {k : Nat} {x : Fd} (h : c.kd = 6) (hf : flAt l c.at_ = some k) (hx : l[k]? = some x) : chF l c = some (l.set k { x with nm := c.nm }) := by
  unfold chF
  rw [if_neg (by omega), hf]
  show (if _ then _ else if _ then _ else _) = _
  rw [if_neg (by omega), if_pos h, mod_set hx]
theorem chF_no {l : List Fd} {c : Cg} (h : c.kd ≠ 4) (hf : flAt l c.at_ = none) : chF l c = none := by
  unfold chF
  rw [if_neg h, hf]
namespace evW
open nmW
set_option maxHeartbeats 800000 in
theorem renameType_k {w : World} {B g nl : Nat} {vk vl : Value} {by_ : Int} {l : List (Kd × Value)} (h : DX w B g vk vl by_ nl l) (hm : SmK (l.map (·.1))) (c : Cg) (hc : c.kd = 3) (A : Option Addr) (d : Nat) :
    Calls Tryd.prog 60 #[.pointer (some ⟨g, 0, none⟩), .agg #[.int .i64 c.kd, .string c.ty, .string c.at_, .string c.nm, .slice A c.ats.length d, .int .i64 c.n]] w (DPost (l.map (·.1)) c B g (nl + 1) w) := by
  have hll : l.length ≤ 1048576 := by have := hm.len; simp at this; omega
  have h0 : Below w.heap.size w (w.alloc (.cells ⟨cgC c A d⟩ 60)) := (Below.refl _ _).alloc (Nat.le_refl _) _
  have hX0 : Blk (w.alloc (.cells ⟨cgC c A d⟩ 60)) w.heap.size 60 (cgC c A d) := Blk.new _ _ _
  have hk1 := find_k (h.stay h0) hll c.ty
  have hg := h.bx.lt
  have hBg : B ≤ w.heap.size := Nat.le_trans h.gB (Nat.le_of_lt hg)
  cases hty : tyAt (l.map (·.1)) c.ty with
  | none =>
    rw [hty, show optI none = -1 from rfl] at hk1
    have hch := chK_no (l := l.map (·.1)) (c := c) (by omega) hty
    replace hch := Lib.hid hch
    replace hk1 := Lib.hid hk1
    replace h0 := Lib.hid h0
    clear h hm hX0 hc
    go_enter Tryd.func60, Tryd.ntmps60
    go_wp2_with (go_at_call 85; refine hk1.out.mono ?_; rintro e w' ⟨rfl, hB1⟩)
    go_ret
    exact DPost.mk_none hch.out ((h0.out.trans (hB1.mono h0.out.size)).mono hBg)
  | some i =>
    rw [hty, show optI (some i) = (i : Int) from rfl] at hk1
    have hil := tyAt_lt hty
    obtain ⟨p1, hp1⟩ := getx hil
    rw [List.getElem?_map] at hp1
    obtain ⟨p, hp, rfl⟩ := Option.map_eq_some_iff.1 hp1
    have hp1 : (l.map (·.1))[i]? = some p.1 := by rw [List.getElem?_map, hp]; rfl
    have hilt : i < l.length := (List.getElem?_eq_some_iff.1 hp).1
    have g0 : (0 : Int) ≤ (i : Int) := by omega
    have g1 : (i : Int) < l.length := by omega
    obtain ⟨gk, cap, rfl, h1, h2, _⟩ := h.at_ hp
    have hch := chK_3 hc hty hp1
    have kc := fun W (hW : Below w.heap.size w W) => (h.stay hW).at' hp
    have kd : ∀ W, Below w.heap.size w W → DX (W.drew.setCell ⟨gk, i * 3, none⟩ (.string c.nm)) B g (.slice (some ⟨gk, 0, none⟩) l.length cap) vl by_ nl (l.set i ({ p.1 with nm := c.nm }, p.2)) := fun W hW => (h.stay hW.drew).setN hp
    have hmp : (l.set i ({ p.1 with nm := c.nm }, p.2)).map (·.1) = (l.map (·.1)).set i { p.1 with nm := c.nm } := map_set_fst
    replace hch := Lib.hid hch
    replace hk1 := Lib.hid hk1
    replace h0 := Lib.hid h0
    replace hX0 := Lib.hid hX0
    replace kc := Lib.hid kc
    replace kd := Lib.hid kd
    replace hmp := Lib.hid hmp
    clear h hm hp hp1 hty hc
    go_enter Tryd.func60, Tryd.ntmps60
    go_upto_region 3 with (go_at_call 85; refine hk1.out.mono ?_; rintro e w' ⟨rfl, hB1⟩)
    have hW1 := Lib.hid (h0.out.trans (hB1.mono h0.out.size))
    obtain ⟨q0, q1, _, _, q2⟩ := kc.out w' hW1.out
    have q3 : w'.cell? ⟨w.heap.size, 3, none⟩ = some (.string c.nm) := (hX0.out.stay hB1).cell 3
    have q4 : w'.frozen? ⟨gk, i * 3, none⟩ = false := q2 _
    clear q2
    go_region
    all_goals
      go_wp2
      go_ret
      exact DPost.mk_some hch.out (kd.out w' hW1.out) hmp.out (by omega) ((hW1.out.mono hBg).drew.setCell h1 _)
end evW
end Go.Proofs.YtmadafejenjkcaaDoor
