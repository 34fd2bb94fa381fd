/- What each kind of change does to the design: addType. -/
import Derived.Test.YtmadafejenjkcaaDoorW9
import Derived.Test.YtmadafejenjkcaaDoorV8
namespace Go.Proofs.YtmadafejenjkcaaDoor
open Go.RowKit Go.Deep
set_option linter.unusedVariables false

theorem kc_rd (w : World) (G : Nat → Prop) (nm : ByteArray) (fr : Int) (fs : List Fd) (A : Option Addr) (n c : Nat) : RdL w G [.string nm, .int .i64 fr, .slice A n c] (kcD (⟨nm, fr, fs⟩, .slice A n c)) := ⟨.v _ rfl, .v _ rfl, .v _ rfl, trivial⟩
theorem DX.addK_ {w W1 : World} {B g nl : Nat} {vk vl vk' u : Value} {by_ : Int} {l : List (Kd × Value)} {k : Kd} (h : DX w B g vk vl by_ nl l) (hg : w.grownBy W1 vk.ownBlock) (hv : OL W1 B NoB 111 3 vk' (l.length + 1) (l.flatMap kcD ++ kcD (k, u)))
    (hu : OL w B NoB 113 3 u k.fs.length (k.fs.flatMap fdD)) (hne : ∀ p ∈ l, u.ownBlock = none ∨ u.ownBlock ≠ p.2.ownBlock) : DX (W1.setCell ⟨g, 0, none⟩ vk') B g vk' vl by_ nl (l ++ [(k, u)]) := by
  refine h.putK hg (by simpa using hv) (fun p hp => ?_) ?_
  · rcases List.mem_append.1 hp with hp | hp
    · exact .inl hp
    · simp at hp; subst hp
      exact .inr (hu.kept hg (hu.ne h.kr (by decide)) (fun _ hb => hb.elim))
  · intro a b x y hx hy hab
    have get : ∀ {a : Nat} {x}, (l ++ [(k, u)])[a]? = some x → (a < l.length ∧ l[a]? = some x) ∨ (a = l.length ∧ x = (k, u)) := fun {a x} hx => by
      by_cases ha : a < l.length
      · rw [List.getElem?_append_left ha] at hx; exact .inl ⟨ha, hx⟩
      · rw [List.getElem?_append_right (by omega)] at hx
        have := (List.getElem?_eq_some_iff.1 hx).1
        simp at this
        have e : a - l.length = 0 := by omega
        rw [e] at hx
        exact .inr ⟨by omega, by simpa using hx.symm⟩
    rcases get hx with ⟨h1, h2⟩ | ⟨h1, rfl⟩
    · rcases get hy with ⟨h3, h4⟩ | ⟨h3, rfl⟩
      · exact h.ne a b x y h2 h4 hab
      · exact ne_sym (hne x (List.mem_of_getElem? h2))
    · rcases get hy with ⟨h3, h4⟩ | ⟨h3, rfl⟩
      · exact hne y (List.mem_of_getElem? h4)
      · omega
namespace evW
open nmW
set_option maxHeartbeats 4000000 in
theorem addType_k {w : World} {B g nl : Nat} {vk vl : Value} {by_ : Int} {l : List (Kd × Value)} (h : DX w B g vk vl by_ nl l) (hm : SmK (l.map (·.1))) (c : Cg) (hc : c.kd = 1) (hc2 : c.ats.length ≤ 1048576) (A : Option Addr) (d : Nat) (G : Nat → Prop) (hG : ∀ b, G b → b < w.heap.size) (rc : Rd w G (.slice A c.ats.length d) (.sl c.ats.length (c.ats.flatMap strD))) :
    Calls Tryd.prog 58 #[.pointer (some ⟨g, 0, none⟩), .agg #[.int .i64 c.kd, .string c.ty, .string c.at_, .string c.nm, .slice A c.ats.length d, .int .i64 c.n]] w (DPost (l.map (·.1)) c B g (nl + 1) w) := by
  have hll : l.length ≤ 16 := by have := hm.len; simpa using this
  have hg := h.bx.lt
  have hBg : B ≤ w.heap.size := Nat.le_trans h.gB (Nat.le_of_lt hg)
  have hch := chK_1 (l := l.map (·.1)) hc
  have hmp : ∀ u : Value, (l ++ [(addK c, u)]).map (·.1) = l.map (·.1) ++ [addK c] := fun u => by simp
  obtain ⟨W0, hW0⟩ : ∃ W0, W0 = w.alloc (.cells ⟨cgC c A d⟩ 60) := ⟨_, rfl⟩
  have hs0 : W0.heap.size = w.heap.size + 1 := by rw [hW0]; simp
  have h0 : Below w.heap.size w W0 := by rw [hW0]; exact (Below.refl _ _).alloc (Nat.le_refl _) _
  have hst : IB W0 ((w.alloc (.cells ⟨cgC c A d⟩ 60)).alloc (.cells ⟨[.string c.ty, .int .i64 (-1), .slice none 0 0]⟩ 111)) 111 c.ty (-1) (.slice none 0 0) 113 0 [] := by
    rw [← hW0]
    exact ⟨(Below.refl _ _).alloc (Nat.le_refl _) _, Blk.new _ _ _, .nil _ _ _ _ _⟩
  have kd := fun W (hW : Below w.heap.size w W) => h.stay hW
  replace hs0 := Lib.hid hs0
  replace h0 := Lib.hid h0
  replace hst := Lib.hid hst
  replace hch := Lib.hid hch
  replace hmp := Lib.hid hmp
  replace kd := Lib.hid kd
  replace rc := Lib.hid rc
  replace hG := Lib.hid hG
  clear h hm hc hW0
  go_enter Tryd.func58, Tryd.ntmps58
  go_wp2
  go_loopw [7, 14] (fun _ y wr => ∃ (k : Nat) (u : Value), k ≤ c.ats.length ∧ y = .int .i64 k ∧ IB W0 wr 111 c.ty (-1) u 113 k (((c.ats.map fun a => (⟨a, -1, 0⟩ : Fd)).take k).flatMap fdD)) (fun _ y _ => c.ats.length - (intOf y).toNat)
  case atStart => exact ⟨0, .slice none 0 0, Nat.zero_le _, rfl, hst.out⟩
  case round =>
    obtain ⟨k, u, hk, rfl, hI⟩ := hrel
    have hBw : Below w.heap.size w wr := h0.out.trans (hI.hb.mono h0.out.size)
    have i2 : wr.cell? ⟨w.heap.size + 1, 2, none⟩ = some u := by rw [← hs0.out]; exact hI.bx.cell 2
    have hz : w.heap.size + 1 < wr.heap.size := by rw [← hs0.out]; exact hI.bx.lt
    by_cases hlk : k < c.ats.length
    · obtain ⟨a, ha⟩ := getx hlk
      obtain ⟨b2, off2, rfl, hFb2, ha2⟩ := (rc.out.under hBw hG.out).at_ ha
      have q0 : wr.cell? ⟨b2, off2 + k, none⟩ = some (.string a) := ha2
      have g2 : (0 : Int) ≤ (k : Int) := by omega
      have g3 : (k : Int) < c.ats.length := by omega
      have hfk := ad_next ha
      have f2 : wr.frozen? ⟨w.heap.size + 1, 2, none⟩ = false := by rw [← hs0.out]; exact hI.bx.frozen 2
      have hup : ∀ (w1 : World) (v' : Value), (wr.alloc (.cells ⟨fdV ⟨a, -1, 0⟩⟩ 113)).grownBy w1 u.ownBlock → OL w1 (W0.heap.size + 1) NoB 113 3 v' (k + 1) (((c.ats.map fun a => (⟨a, -1, 0⟩ : Fd)).take k).flatMap fdD ++ fdD ⟨a, -1, 0⟩) → w1.cell? ⟨w.heap.size + 1, 2, none⟩ = some u ∧ w1.frozen? ⟨w.heap.size + 1, 2, none⟩ = false ∧
          IB W0 (w1.setCell ⟨w.heap.size + 1, 2, none⟩ v') 111 c.ty (-1) v' 113 (k + 1) (((c.ats.map fun a => (⟨a, -1, 0⟩ : Fd)).take (k + 1)).flatMap fdD) := fun w1 v' hg hO => by
        have hB := hI.stay ((Below.refl _ _).alloc (Nat.le_refl _) (.cells ⟨fdV ⟨a, -1, 0⟩⟩ 113))
        have t0 := hB.bx.grown hg (fun e => by have := (hI.ol.lt _ e.symm).1; omega)
        have := hB.put hg (fun q hq => (hI.ol.lt q hq).1) hO
        rw [← hs0.out, hfk]
        exact ⟨t0.cell 2, t0.frozen 2, this⟩
      have hol := Lib.hid hI.ol
      replace hup := Lib.hid hup
      have hs1 : W0.heap.size + 1 ≤ wr.heap.size := hI.bx.lt
      clear ha2 ha hI hfk hBw
      go_wp2_with (at_builtin; refine wpList_app rfl (.tmp 19) (.tmp 22) _ rfl (m := 1) (news := fdD ⟨a, -1, 0⟩) elField (hol.out.alloc (.cells ⟨fdV ⟨a, -1, 0⟩⟩ 113)) rfl rfl (Src.lit (fdD_rd wr _ ⟨a, -1, 0⟩)) rfl (by omega) (by omega) (by simp; omega) ?_; intro v' w1 hO1 hg1 ha1; obtain ⟨B3, d3, rfl⟩ := hO1.form; obtain ⟨t1, t2, t3⟩ := hup.out _ _ hg1 hO1; replace t3 := Lib.hid t3)
      go_roundw
      case rel => exact ⟨k + 1, _, by omega, by go_num, t3.out⟩
      case measure => simp [intOf]; omega
    · have hkn : k = c.ats.length := by omega
      subst hkn
      have htk : (c.ats.map fun a => (⟨a, -1, 0⟩ : Fd)).take c.ats.length = c.ats.map fun a => (⟨a, -1, 0⟩ : Fd) := List.take_of_length_le (by simp)
      rw [htk] at hI
      obtain ⟨U, cu, rfl⟩ := hI.ol.form
      have i0 : wr.cell? ⟨w.heap.size + 1, 0, none⟩ = some (.string c.ty) := by rw [← hs0.out]; exact hI.bx.cell 0
      have i1 : wr.cell? ⟨w.heap.size + 1, 1, none⟩ = some (.int .i64 (-1)) := by rw [← hs0.out]; exact hI.bx.cell 1
      have hD := kd.out wr hBw
      have q0 := hD.c0
      have hsz2 : g < wr.heap.size := hD.bx.lt
      obtain ⟨A4, c4, rfl⟩ := hD.kr.form
      have hW2 : Below w.heap.size w (wr.alloc (.cells ⟨[.string c.ty, .int .i64 (-1), .slice U c.ats.length cu]⟩ 111)) := hBw.alloc hBw.size _
      have hD2 := kd.out _ hW2
      have hfu : OL (wr.alloc (.cells ⟨[.string c.ty, .int .i64 (-1), .slice U c.ats.length cu]⟩ 111)) B NoB 113 3 (.slice U c.ats.length cu) (addK c).fs.length ((addK c).fs.flatMap fdD) := by
        have := (hI.ol.base (B' := B) (by have := hs0.out; omega)).alloc (.cells ⟨[.string c.ty, .int .i64 (-1), .slice U c.ats.length cu]⟩ 111)
        simpa [addK] using this
      have hap : ∀ p ∈ l, (Value.slice U c.ats.length cu).ownBlock = none ∨ (Value.slice U c.ats.length cu).ownBlock ≠ p.2.ownBlock := fun p hp => by
        cases hq : (Value.slice U c.ats.length cu).ownBlock with
        | none => exact .inl rfl
        | some q =>
          refine .inr fun he => ?_
          have h1 := (hI.ol.lt q hq).1
          have h2 := (((kd.out w (Below.refl _ _)).fr p hp).lt q he.symm).2
          have := hs0.out
          omega
      have hkr := Lib.hid hD2.kr
      have hov := fun (w1 : World) (hg : (wr.alloc (.cells ⟨[.string c.ty, .int .i64 (-1), .slice U c.ats.length cu]⟩ 111)).grownBy w1 (Value.slice A4 l.length c4).ownBlock) => hD2.overK hg
      have hfi := fun (w1 : World) (v' : Value) (hg : (wr.alloc (.cells ⟨[.string c.ty, .int .i64 (-1), .slice U c.ats.length cu]⟩ 111)).grownBy w1 (Value.slice A4 l.length c4).ownBlock) hv => And.intro (hD2.addK_ (vk' := v') hg hv hfu hap) (hD2.belowK (x := v') (hW2.mono hBg) hg)
      have hs1 : B ≤ wr.heap.size := Nat.le_trans hBg hBw.size
      replace hov := Lib.hid hov
      replace hfi := Lib.hid hfi
      clear hI htk hD hD2 hfu hap hW2 hBw
      go_upto_region 7 with fail
      go_region_law ((refine step_app (by rfl) (.tmp 30) (.tmp 32) _ (by rfl) (m := 1) (news := kcD (addK c, .slice U c.ats.length cu)) elKind (by exact hkr.out.drew) (by rfl) (by rfl) (by exact (Src.lit (kc_rd wr _ c.ty (-1) _ U c.ats.length cu)).drew) rfl (by omega) (by omega) (by simp; omega) ?_; intro v' w1 hO1 hg1 ha1; obtain ⟨B3, d3, rfl⟩ := hO1.form; have hg2 := undrew hg1; obtain ⟨t0, t1⟩ := hov.out _ hg2))
      all_goals
        obtain ⟨f1, f2⟩ := hfi.out _ _ hg2 hO1
        replace f1 := Lib.hid f1
        replace f2 := Lib.hid f2
        go_wp2
        go_ret
        exact DPost.mk_some hch.out f1.out (hmp.out _) (Nat.le_succ _) f2.out
end evW
end Go.Proofs.YtmadafejenjkcaaDoor
