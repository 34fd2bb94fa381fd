/- What each kind of change does to the design: renameAttr, addAttr. -/
import Derived.Test.YtmadafejenjkcaaDoorW6
namespace Go.Proofs.YtmadafejenjkcaaDoor
open Go.RowKit Go.Deep
set_option linter.unusedVariables false

def AtOk (t : List Kd) (c : Cg) : Prop := ∃ (i : Nat) (p : Kd) (k : Nat), tyAt t c.ty = some i ∧ t[i]? = some p ∧ flAt p.fs c.at_ = some k
theorem AtIs.bad {t : List Kd} {c : Cg} {i k : Int} {b : Bool} (h : AtIs t c i k b) (hno : ¬ AtOk t c) : b = false := by
  rcases h with ⟨h, _⟩ | ⟨_, i', k', p, _, _, h1, h2, h3⟩
  · exact h
  · exact absurd ⟨i', p, k', h1, h2, h3⟩ hno
theorem AtIs.good {t : List Kd} {c : Cg} {i k : Int} {b : Bool} {i' k' : Nat} {p : Kd} (h : AtIs t c i k b) (h1 : tyAt t c.ty = some i') (h2 : t[i']? = some p) (h3 : flAt p.fs c.at_ = some k') : i = i' ∧ k = k' ∧ b = true := by
  rcases h with ⟨_, h | ⟨i2, p2, g1, g2, g3⟩⟩ | ⟨hb, i2, k2, p2, rfl, rfl, g1, g2, g3⟩
  · rw [h1] at h; cases h
  · rw [h1] at g1; injection g1 with g1; subst g1
    rw [h2] at g2; injection g2 with g2; subst g2
    rw [h3] at g3; cases g3
  · rw [h1] at g1; injection g1 with g1; subst g1
    rw [h2] at g2; injection g2 with g2; subst g2
    rw [h3] at g3; injection g3 with g3; subst g3
    exact ⟨rfl, rfl, hb⟩
theorem chK_noAt {t : List Kd} {c : Cg} (h5 : 5 ≤ c.kd) (h7 : c.kd ≤ 7) (hno : ¬ AtOk t c) : chK t c = none := by
  cases ht : tyAt t c.ty with
  | none => exact chK_no (by omega) ht
  | some i =>
    obtain ⟨p, hp⟩ := getx (tyAt_lt ht)
    refine chK_none (by omega) ht hp (chF_no (by omega) ?_)
    cases hf : flAt p.fs c.at_ with
    | none => rfl
    | some k => exact absurd ⟨i, p, k, ht, hp, hf⟩ hno
/-- the place of an attribute, in the design -/
theorem AtOk.pair {l : List (Kd × Value)} {c : Cg} (h : AtOk (l.map (·.1)) c) : ∃ (i : Nat) (p : Kd × Value) (k : Nat) (x : Fd), tyAt (l.map (·.1)) c.ty = some i ∧ l[i]? = some p ∧ (l.map (·.1))[i]? = some p.1 ∧ flAt p.1.fs c.at_ = some k ∧ p.1.fs[k]? = some x := by
  obtain ⟨i, p1, k, h1, h2, h3⟩ := h
  rw [List.getElem?_map] at h2
  obtain ⟨p, hp, rfl⟩ := Option.map_eq_some_iff.1 h2
  obtain ⟨x, hx⟩ := getx (flAt_lt h3)
  exact ⟨i, p, k, x, h1, hp, by rw [List.getElem?_map, hp]; rfl, h3, hx⟩
namespace evW
open nmW
set_option maxHeartbeats 800000 in
theorem renameAttr_k {w : World} {B g nl : Nat} {vk vl : Value} {by_ : Int} {l : List (Kd × Value)} (h : DX w B g vk vl by_ nl l) (hm : SmK (l.map (·.1))) (c : Cg) (hc : c.kd = 6) (A : Option Addr) (d : Nat) :
    Calls Tryd.prog 63 #[.pointer (some ⟨g, 0, none⟩), .agg #[.int .i64 c.kd, .string c.ty, .string c.at_, .string c.nm, .slice A c.ats.length d, .int .i64 c.n]] w (DPost (l.map (·.1)) c B g (nl + 1) w) := by
  have h0 : Below w.heap.size w (w.alloc (.cells ⟨cgC c A d⟩ 60)) := (Below.refl _ _).alloc (Nat.le_refl _) _
  have hX0 : Blk (w.alloc (.cells ⟨cgC c A d⟩ 60)) w.heap.size 60 (cgC c A d) := Blk.new _ _ _
  have hk1 := at_k (h.stay h0) hm c A d
  have hg := h.bx.lt
  have hBg : B ≤ w.heap.size := Nat.le_trans h.gB (Nat.le_of_lt hg)
  by_cases hok : AtOk (l.map (·.1)) c
  · obtain ⟨i, p, k, x, ht, hp, hp1, hf, hx⟩ := hok.pair
    have hch := chK_4 (by omega) (by omega) ht hp1 (chF_6 hc hf hx)
    have hpm := List.mem_of_getElem? hp
    have hilt : i < l.length := (List.getElem?_eq_some_iff.1 hp).1
    have hklt : k < p.1.fs.length := (List.getElem?_eq_some_iff.1 hx).1
    have g0 : (0 : Int) ≤ (i : Int) := by omega
    have g1 : (i : Int) < l.length := by omega
    have g2 : (0 : Int) ≤ (k : Int) := by omega
    have g3 : (k : Int) < p.1.fs.length := by omega
    obtain ⟨gk, cap, rfl, h1, h2, _⟩ := h.at_ hp
    obtain ⟨gf, capf, hv, h3, h4, h5, h6⟩ := (h.fr p hpm).row (by omega)
    have hk2 := fun (i2 k2 : Int) (b : Bool) (hI : AtIs (l.map (·.1)) c i2 k2 b) => hI.good ht hp1 hf
    obtain ⟨u, hu, hru⟩ := h6 (k * 3 + 0) _ (flatMap_get (f := fdD) (m := 3) (fun _ => rfl) hx rfl)
    rw [hru.v_inv] at hu
    have kc : ∀ W, Below w.heap.size w W → W.cell? ⟨g, 0, none⟩ = some (.slice (some ⟨gk, 0, none⟩) l.length cap) ∧ W.cell? ⟨gk, i * 3 + 2, none⟩ = some (.slice (some ⟨gf, 0, none⟩) p.1.fs.length capf) ∧ W.cell? ⟨gf, k * 3, none⟩ = some (.string x.nm) ∧ W.frozen? ⟨gf, k * 3, none⟩ = false := fun W hW => by
      obtain ⟨a1, _, _, a2, _⟩ := (h.stay hW).at' hp
      rw [hv] at a2
      exact ⟨a1, a2, (hW.cell (p := ⟨gf, k * 3, none⟩) h4).trans hu, (World.frozen?_of_block (hW.block gf h4)).trans (h5 _)⟩
    have kd : ∀ W, Below w.heap.size w W → DX (W.drew.setCell ⟨gf, k * 3, none⟩ (.string c.nm)) B g (.slice (some ⟨gk, 0, none⟩) l.length cap) vl by_ nl (l.set i ({ p.1 with fs := p.1.fs.set k { x with nm := c.nm } }, p.2)) := fun W hW => (h.stay hW.drew).setF hp hv hx
    have hmp : (l.set i ({ p.1 with fs := p.1.fs.set k { x with nm := c.nm } }, p.2)).map (·.1) = (l.map (·.1)).set i { p.1 with fs := p.1.fs.set k { x with nm := c.nm } } := map_set_fst
    replace hch := Lib.hid hch
    replace hk1 := Lib.hid hk1
    replace hk2 := Lib.hid hk2
    replace h0 := Lib.hid h0
    replace hX0 := Lib.hid hX0
    replace kc := Lib.hid kc
    replace kd := Lib.hid kd
    replace hmp := Lib.hid hmp
    clear h hm hok hp hp1 hpm hx hf ht hc h6 hu hru hv
    go_enter Tryd.func63, Tryd.ntmps63
    go_upto_region 3 with (go_at_call 87; refine hk1.out.mono ?_; rintro e w' ⟨i2, k2, b2, rfl, hI, hB1⟩; obtain ⟨rfl, rfl, rfl⟩ := hk2.out i2 k2 b2 hI; clear hI)
    have hW1 := Lib.hid (h0.out.trans (hB1.mono h0.out.size))
    obtain ⟨q0, q1, q2, q3⟩ := kc.out w' hW1.out
    have q4 : w'.cell? ⟨w.heap.size, 3, none⟩ = some (.string c.nm) := (hX0.out.stay hB1).cell 3
    go_region
    all_goals
      go_wp2
      go_ret
      exact DPost.mk_some hch.out (kd.out w' hW1.out) hmp.out (by omega) ((hW1.out.mono hBg).drew.setCell h3 _)
  · have hch := chK_noAt (by omega) (by omega) hok
    have hk2 := fun (i2 k2 : Int) (b : Bool) (hI : AtIs (l.map (·.1)) c i2 k2 b) => hI.bad hok
    replace hch := Lib.hid hch
    replace hk1 := Lib.hid hk1
    replace hk2 := Lib.hid hk2
    replace h0 := Lib.hid h0
    clear h hm hok hX0 hc
    go_enter Tryd.func63, Tryd.ntmps63
    go_wp2_with (go_at_call 87; refine hk1.out.mono ?_; rintro e w' ⟨i2, k2, b2, rfl, hI, hB1⟩; obtain rfl := hk2.out i2 k2 b2 hI; clear hI)
    go_ret
    exact DPost.mk_none hch.out ((h0.out.trans (hB1.mono h0.out.size)).mono hBg)
end evW
end Go.Proofs.YtmadafejenjkcaaDoor
