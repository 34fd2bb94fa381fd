/- The design's searches: find, at. -/
import Derived.Test.YtmadafejenjkcaaDoorW4
namespace Go.Proofs.YtmadafejenjkcaaDoor
open Go.RowKit Go.Deep
set_option linter.unusedVariables false

def AtIs (t : List Kd) (c : Cg) (i k : Int) (b : Bool) : Prop :=
  (b = false ∧ (tyAt t c.ty = none ∨ ∃ (i' : Nat) (p : Kd), tyAt t c.ty = some i' ∧ t[i']? = some p ∧ flAt p.fs c.at_ = none)) ∨
  (b = true ∧ ∃ (i' k' : Nat) (p : Kd), i = i' ∧ k = k' ∧ tyAt t c.ty = some i' ∧ t[i']? = some p ∧ flAt p.fs c.at_ = some k')
def AtIPost (t : List Kd) (c : Cg) (w : World) (e : Ending) (w' : World) : Prop := ∃ i k b, e = .returned (.tuple #[.int .i64 i, .int .i64 k, .bool b]) ∧ AtIs t c i k b ∧ Below w.heap.size w w'
theorem AtIPost.mk' {t : List Kd} {c : Cg} {w w' : World} {i k : Int} {b : Bool} (h : AtIs t c i k b) (hb : Below w.heap.size w w') : AtIPost t c w (.returned (.tuple #[.int .i64 i, .int .i64 k, .bool b])) w' := ⟨i, k, b, rfl, h, hb⟩
namespace evW
open nmW
set_option maxHeartbeats 400000 in
theorem find_k {w : World} {B g nl : Nat} {vk vl : Value} {by_ : Int} {l : List (Kd × Value)} (h : DX w B g vk vl by_ nl l) (hm : l.length ≤ 1048576) (s : ByteArray) :
    Calls Tryd.prog 85 #[.pointer (some ⟨g, 0, none⟩), .string s] w fun e w' => e = .returned (.int .i64 (optI (tyAt (l.map (·.1)) s))) ∧ Below w.heap.size w w' := by
  obtain ⟨A, c, rfl⟩ := h.kr.form
  have h0 : Below w.heap.size w (w.alloc (.cells ⟨[.string s]⟩ 9)) := (Below.refl _ _).alloc (Nat.le_refl _) _
  have hk := idxK_k A c (fun b => b < w.heap.size) l s w.heap.size hm (w.alloc (.cells ⟨[.string s]⟩ 9)) (fun b hb => by simp; omega) ((h.kr.rd (G := fun b => b < w.heap.size) (fun b hb _ => hb.elim) (fun b _ hb => hb)).alloc _) ((Blk.new w 9 [.string s]).cell 0)
  have g0 := h.c0
  have hg := h.bx.lt
  have hmf : ∀ (fn : Fn) (first cap : Array Value) (w : World), (Instr.makeFunc fn first cap).run Tryd.prog w = .ok (.func fn first cap) w := fun _ _ _ _ => rfl
  replace hk := Lib.hid hk
  replace h0 := Lib.hid h0
  clear h
  go_enter Tryd.func85, Tryd.ntmps85
  go_wp2_with (go_at_call 41; refine hk.out.mono ?_; rintro e w' ⟨rfl, hB1⟩)
  go_ret
  exact ⟨rfl, h0.out.trans (hB1.mono h0.out.size)⟩
set_option maxHeartbeats 400000 in
theorem at_k {w : World} {B g nl : Nat} {vk vl : Value} {by_ : Int} {l : List (Kd × Value)} (h : DX w B g vk vl by_ nl l) (hm : SmK (l.map (·.1))) (c : Cg) (A : Option Addr) (d : Nat) :
    Calls Tryd.prog 87 #[.pointer (some ⟨g, 0, none⟩), .agg #[.int .i64 c.kd, .string c.ty, .string c.at_, .string c.nm, .slice A c.ats.length d, .int .i64 c.n]] w (AtIPost (l.map (·.1)) c w) := by
  have hll : l.length ≤ 1048576 := by have := hm.len; simp at this; omega
  have h0 : Below w.heap.size w (w.alloc (.cells ⟨cgC c A d⟩ 60)) := (Below.refl _ _).alloc (Nat.le_refl _) _
  have hX0 : Blk (w.alloc (.cells ⟨cgC c A d⟩ 60)) w.heap.size 60 (cgC c A d) := Blk.new _ _ _
  have hk1 := find_k (h.stay h0) hll c.ty
  have hg := h.bx.lt
  have hmf : ∀ (fn : Fn) (first cap : Array Value) (w : World), (Instr.makeFunc fn first cap).run Tryd.prog w = .ok (.func fn first cap) w := fun _ _ _ _ => rfl
  cases hty : tyAt (l.map (·.1)) c.ty with
  | none =>
    rw [hty, show optI none = -1 from rfl] at hk1
    have hat : AtIs (l.map (·.1)) c 0 0 false := .inl ⟨rfl, .inl hty⟩
    replace hat := Lib.hid hat
    replace hk1 := Lib.hid hk1
    replace h0 := Lib.hid h0
    clear h hm hX0
    go_enter Tryd.func87, Tryd.ntmps87
    go_wp2_with (go_at_call 85; refine hk1.out.mono ?_; rintro e w' ⟨rfl, hB1⟩)
    go_ret3
    exact AtIPost.mk' hat.out (h0.out.trans (hB1.mono h0.out.size))
  | some i =>
    rw [hty, show optI (some i) = (i : Int) from rfl] at hk1
    have hil := tyAt_lt hty
    obtain ⟨p1, hp1⟩ := getx hil
    rw [List.getElem?_map] at hp1
    obtain ⟨p, hp, rfl⟩ := Option.map_eq_some_iff.1 hp1
    have hp1 : (l.map (·.1))[i]? = some p.1 := by rw [List.getElem?_map, hp]; rfl
    have hpm := List.mem_of_getElem? hp
    have hfl : p.1.fs.length ≤ 8 := hm.fl p.1 (List.mem_map_of_mem hpm)
    have hilt : i < l.length := (List.getElem?_eq_some_iff.1 hp).1
    have g0 : (0 : Int) ≤ (i : Int) := by omega
    have g1 : (i : Int) < l.length := by omega
    obtain ⟨gk, cap, rfl, h1, h2, h3, k0, k1, k2⟩ := h.at_ hp
    have hf := h.fr p hpm
    obtain ⟨A2, c2, hv2⟩ := hf.form
    have hat : ∀ r : Int, r = optI (flAt p.1.fs c.at_) → AtIs (l.map (·.1)) c i r (decide (r ≥ 0)) := fun r hr => by
      subst hr
      cases hfa : flAt p.1.fs c.at_ with
      | none => exact .inl ⟨rfl, .inr ⟨i, p.1, hty, hp1, hfa⟩⟩
      | some k => exact .inr ⟨by simp [optI], i, k, p.1, rfl, rfl, hty, hp1, hfa⟩
    have hk2 : ∀ W, Below w.heap.size w W → W.cell? ⟨w.heap.size, 2, none⟩ = some (.string c.at_) → Calls Tryd.prog 117 #[.slice A2 p.1.fs.length c2, .func (.func 118) #[] #[.pointer (some ⟨w.heap.size, 0, none⟩)]] W fun e w' => e = .returned (.int .i64 (optI (flAt p.1.fs c.at_))) ∧ Below W.heap.size W w' := fun W hW hq => by
      have hr := hf.rd (G := fun b => b < w.heap.size) (fun b hb _ => hb.elim) (fun b _ hb => hb)
      rw [hv2] at hr
      exact idxF_k A2 c2 (fun b => b < w.heap.size) p.1.fs c.at_ w.heap.size (by omega) W (fun b hb => by have := hW.size; omega) (hr.under hW (fun b hb => hb)) hq
    rw [hv2] at k2
    have kc : ∀ W, Below w.heap.size w W → W.cell? ⟨g, 0, none⟩ = some (.slice (some ⟨gk, 0, none⟩) l.length cap) ∧ W.cell? ⟨gk, i * 3 + 2, none⟩ = some (.slice A2 p.1.fs.length c2) := fun W hW => ⟨(hW.cell (p := ⟨g, 0, none⟩) hg).trans h.c0, (hW.cell (p := ⟨gk, i * 3 + 2, none⟩) h2).trans k2⟩
    generalize optI (flAt p.1.fs c.at_) = r at hat hk2
    replace hat := Lib.hid (hat r rfl)
    replace hk1 := Lib.hid hk1
    replace hk2 := Lib.hid hk2
    replace h0 := Lib.hid h0
    replace hX0 := Lib.hid hX0
    replace kc := Lib.hid kc
    clear h hm hf hp hp1 hpm hty k0 k1 k2 h3
    go_enter Tryd.func87, Tryd.ntmps87
    go_wp2_with (first
      | (go_at_call 85; refine hk1.out.mono ?_; rintro e w' ⟨rfl, hB1⟩; have hW1 := Lib.hid (h0.out.trans (hB1.mono h0.out.size)); obtain ⟨q0, q1⟩ := kc.out w' hW1.out; have q2 : w'.cell? ⟨w.heap.size, 2, none⟩ = some (.string c.at_) := (hX0.out.stay hB1).cell 2; have hk3 := Lib.hid (hk2.out w' hW1.out q2))
      | (go_at_call 117; refine hk3.out.mono ?_; rintro e w2 ⟨rfl, hB2⟩))
    go_ret3
    exact AtIPost.mk' hat.out (hW1.out.trans (hB2.mono hW1.out.size))
end evW
end Go.Proofs.YtmadafejenjkcaaDoor
