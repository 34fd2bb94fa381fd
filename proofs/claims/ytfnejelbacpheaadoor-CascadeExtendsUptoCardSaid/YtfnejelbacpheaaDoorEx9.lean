/- The document's Extend answers the plain extension. -/
import Derived.Test.YtfnejelbacpheaaDoorEx8
namespace Go.Proofs.YtfnejelbacpheaaDoor
open Go.RowKit Go.Deep Go.Maps
set_option linter.unusedVariables false

/-- a world of the loop: the boxes; the schema so far in its own -/
structure RS (w wr : World) (g : Nat) (u : Value) (T : List Td) : Prop where
  hb : Below w.heap.size w wr
  b1 : Blk wr (w.heap.size + 1) 24 [.slice none 0 0]
  b2 : Blk wr (w.heap.size + 1 + 1) 24 [.slice none 0 0]
  b3 : Blk wr g 24 [u]
  hr : Rd wr (fun b => w.heap.size ≤ b ∧ b < wr.heap.size ∧ b ≠ g ∧ b ≠ w.heap.size + 1) u (.sl T.length (T.flatMap tdD))
  hg : w.heap.size + 1 + 1 < g
theorem RS.stay {w wr w2 : World} {g : Nat} {u : Value} {T : List Td} (h : RS w wr g u T) (hb : Below wr.heap.size wr w2) : RS w w2 g u T :=
  ⟨h.hb.trans (hb.mono h.hb.size), h.b1.stay hb, h.b2.stay hb, h.b3.stay hb, (h.hr.stay hb).mono fun b h' h2 => ⟨h'.1, h2, h'.2.2⟩, h.hg⟩
theorem RS.drew {w wr : World} {g : Nat} {u : Value} {T : List Td} (h : RS w wr g u T) : RS w wr.drew g u T := h.stay (Below.refl _ _).drew

/-- the three boxes -/
def EB (w W : World) (v : Value) : Prop := Below w.heap.size w W ∧ Blk W w.heap.size 24 [v] ∧ Blk W (w.heap.size + 1) 24 [.slice none 0 0] ∧ Blk W (w.heap.size + 1 + 1) 24 [.slice none 0 0]
theorem EB.stay {w W W2 : World} {v : Value} (h : EB w W v) (hb : Below W.heap.size W W2) : EB w W2 v := ⟨h.1.trans (hb.mono h.1.size), h.2.1.stay hb, h.2.2.1.stay hb, h.2.2.2.stay hb⟩

namespace nmW
set_option maxHeartbeats 1600000 in
theorem rExtend_k (A A2 : Option Addr) (c c2 : Nat) (F G : Nat → Prop) (S : List Td) (rs : List Ru) (hS : SzT S) (hR : SzR rs) (w : World) (hK : KwIs w) (hF : ∀ b, F b → b < w.heap.size) (hG : ∀ b, G b → b < w.heap.size)
    (r : Rd w F (.slice A S.length c) (.sl S.length (S.flatMap tdD))) (r2 : Rd w G (.slice A2 rs.length c2) (.sl rs.length (rs.flatMap ruD))) :
    Calls Tryd.prog 7 #[.agg #[.slice A S.length c], .slice A2 rs.length c2] w (ExtPost S rs w) := by
  obtain ⟨q, hq⟩ : ∃ q, q = scC S := ⟨_, rfl⟩
  have hS1 := hS.1
  have hR1 := hR.1
  have hB0 : EB w (((w.alloc (.cells #[.slice A S.length c] 24)).alloc (.cells #[.slice none 0 0] 24)).alloc (.cells #[.slice none 0 0] 24)) (.slice A S.length c) :=
    ⟨(((Below.refl _ _).alloc (Nat.le_refl _) _).alloc (by simp) _).alloc (by simp; omega) _, ((Blk.new _ _ _).alloc _).alloc _, (Blk.new' (by simp)).alloc _, Blk.new' (by simp)⟩
  have kc : ∀ W, EB w W (.slice A S.length c) → Calls Tryd.prog 14 #[.agg #[.slice A S.length c]] W fun e w' => e = .returned (.int .i64 q) ∧ EB w w' (.slice A S.length c) := fun W hW => by
    rw [hq]
    exact (rCheckSchema_k A c F S hS W (hK.stay hW.1) (fun b h => Nat.lt_of_lt_of_le (hF b h) hW.1.size) (r.under hW.1 hF)).mono fun e w' ⟨h1, h2⟩ => ⟨h1, hW.stay h2⟩
  replace kc := Lib.hid kc
  have bad : ∀ W code at_, Below w.heap.size w W → Blk W (w.heap.size + 1) 24 [.slice none 0 0] → ExtIs S rs [] code at_ → (Blk (W.setCell ⟨w.heap.size + 1, 0, none⟩ (.slice none 0 0)) (w.heap.size + 1) 24 [.slice none 0 0]) ∧ ExtPost S rs w (.returned (.tuple #[.agg #[.slice none 0 0], .int .i64 code, .int .i64 at_])) (W.setCell ⟨w.heap.size + 1, 0, none⟩ (.slice none 0 0)) := fun W code at_ hW hW2 he =>
    ⟨hW2.set_ 0 _, .bad he (hW.setCell (by simp) _)⟩
  replace bad := Lib.hid bad
  by_cases hq0 : q = 0
  · subst hq0
    by_cases g1 : (rs.length : Int) < 1
    · have he : ExtIs S rs [] 240 0 := .inr (.inl ⟨hq.symm, .inl (by omega), rfl, rfl, rfl⟩)
      replace hB0 := Lib.hid hB0
      clear hS hR hK hF hG r r2 hq
      go_enter Tryd.func7, Tryd.ntmps7
      go_wp2_with (go_at_call 14; refine (kc.out _ hB0.out).mono ?_; rintro e W ⟨rfl, hW⟩; have n0 : W.cell? ⟨w.heap.size + 1 + 1, 0, none⟩ = some (.slice none 0 0) := hW.2.2.2.cell 0; have p0 : W.cell? ⟨w.heap.size + 1, 0, none⟩ = some (.slice none 0 0) := hW.2.2.1.cell 0; have f0 : W.frozen? ⟨w.heap.size + 1, 0, none⟩ = false := hW.2.2.1.frozen 0; replace hW := Lib.hid hW)
      obtain ⟨b1, b2⟩ := bad.out W _ _ hW.out.1 hW.out.2.2.1 he
      exact bodyPost_cell3 rfl b1 aggSc rfl rfl rfl rfl b2
    · by_cases g2 : (8 : Int) < rs.length
      · have he : ExtIs S rs [] 240 0 := .inr (.inl ⟨hq.symm, .inr (by omega), rfl, rfl, rfl⟩)
        replace hB0 := Lib.hid hB0
        clear hS hR hK hF hG r r2 hq
        go_enter Tryd.func7, Tryd.ntmps7
        go_wp2_with (go_at_call 14; refine (kc.out _ hB0.out).mono ?_; rintro e W ⟨rfl, hW⟩; have n0 : W.cell? ⟨w.heap.size + 1 + 1, 0, none⟩ = some (.slice none 0 0) := hW.2.2.2.cell 0; have p0 : W.cell? ⟨w.heap.size + 1, 0, none⟩ = some (.slice none 0 0) := hW.2.2.1.cell 0; have f0 : W.frozen? ⟨w.heap.size + 1, 0, none⟩ = false := hW.2.2.1.frozen 0; replace hW := Lib.hid hW)
        obtain ⟨b1, b2⟩ := bad.out W _ _ hW.out.1 hW.out.2.2.1 he
        exact bodyPost_cell3 rfl b1 aggSc rfl rfl rfl rfl b2
      · have hSl := scC_len hq.symm
        have hsk := SK_sz hS (by omega) hR
        have kt : ∀ W, EB w W (.slice A S.length c) → Calls Tryd.prog 4 #[.agg #[.slice A S.length c]] W fun e W' => ∃ U cu, e = .returned (.agg #[.slice U S.length cu]) ∧ RS w (W'.alloc (.cells #[.slice U S.length cu] 24)) W'.heap.size (.slice U S.length cu) S := fun W hW =>
          (twinSchema_k A c F S hS W (fun b h => Nat.lt_of_lt_of_le (hF b h) hW.1.size) (r.under hW.1 hF)).mono fun e W' ⟨v, h1, h2, h3⟩ => by
            obtain ⟨U, cu, rfl⟩ := h2.form
            have h4 := hW.stay h3
            have h5 := hW.2.2.2.lt
            have h6 := h3.size
            refine ⟨U, cu, h1, h4.1.alloc h4.1.size _, h4.2.2.1.alloc _, h4.2.2.2.alloc _, Blk.new _ _ _, ?_, by omega⟩
            exact ((h2.rd (G := fun b => W.heap.size ≤ b ∧ b < W'.heap.size) (fun _ h h' => ⟨h, h'⟩) (fun _ h h' => ⟨h, h'⟩)).alloc _).mono fun b h h' => ⟨by omega, h', by omega, by omega⟩
        have km : ∀ (g j : Nat) (rr : Ru) (U A3 : Option Addr) (cu c3 : Nat) (W : World), rs[j]? = some rr → j ≤ 8 → RS w W g (.slice U (SK S rs j).length cu) (SK S rs j) → Rd w G (.slice A3 rr.attrs.length c3) (.sl rr.attrs.length (rr.attrs.flatMap strD)) →
            Calls Tryd.prog 15 #[.agg #[.slice U (SK S rs j).length cu], .agg #[.string rr.query, .string rr.into, .slice A3 rr.attrs.length c3]] W fun e W' => ∃ b, e = .returned (.bool b) ∧ (b = true → OkR (SK S rs j) rr) ∧ (b = false → ¬ OkR (SK S rs j) rr) ∧ RS w W' g (.slice U (SK S rs j).length cu) (SK S rs j) := fun g j rr U A3 cu c3 W hj hj8 hRS hr3 =>
          (may_k U A3 cu c3 (fun b => b < W.heap.size) G (SK S rs j) rr (hsk j (by have := (List.getElem?_eq_some_iff.1 hj).1; omega) (by omega)).1 (by have := (hsk j (by have := (List.getElem?_eq_some_iff.1 hj).1; omega) (by omega)).2; omega) (hR.2 rr (List.mem_of_getElem? hj)) W (hK.stay hRS.hb) (fun _ h => h) (fun b h => Nat.lt_of_lt_of_le (hG b h) hRS.hb.size) (hRS.hr.mono fun b h h' => h') (hr3.under hRS.hb hG)).mono
            fun e W' ⟨b, h1, h2, h3, h4⟩ => ⟨b, h1, h2, h3, hRS.stay h4⟩
        have kw : ∀ (g j : Nat) (rr : Ru) (U A3 : Option Addr) (cu c3 : Nat) (W : World), rs[j]? = some rr → j ≤ 8 → RS w W g (.slice U (SK S rs j).length cu) (SK S rs j) → Rd w G (.slice A3 rr.attrs.length c3) (.sl rr.attrs.length (rr.attrs.flatMap strD)) →
            Calls Tryd.prog 16 #[.agg #[.slice U (SK S rs j).length cu], .agg #[.string rr.query, .string rr.into, .slice A3 rr.attrs.length c3]] W fun e W' => ∃ U' cu', e = .returned (.agg #[.slice U' (SK S rs (j + 1)).length cu']) ∧ W'.cell? ⟨g, 0, none⟩ = some (.slice U (SK S rs j).length cu) ∧ W'.frozen? ⟨g, 0, none⟩ = false ∧ RS w (W'.setCell ⟨g, 0, none⟩ (.slice U' (SK S rs (j + 1)).length cu')) g (.slice U' (SK S rs (j + 1)).length cu') (SK S rs (j + 1)) := fun g j rr U A3 cu c3 W hj hj8 hRS hr3 =>
          (with_k U A3 cu c3 (fun b => b < W.heap.size) G (SK S rs j) rr (hsk j (by have := (List.getElem?_eq_some_iff.1 hj).1; omega) (by omega)).1 (by have := (hsk j (by have := (List.getElem?_eq_some_iff.1 hj).1; omega) (by omega)).2; omega) (hR.2 rr (List.mem_of_getElem? hj)) W (fun _ h => h) (fun b h => Nat.lt_of_lt_of_le (hG b h) hRS.hb.size) (hRS.hr.mono fun b h h' => h') (hr3.under hRS.hb hG)).mono
            fun e W' ⟨v, h1, h2, h3⟩ => by
              rw [← SK_succ hj] at h2
              obtain ⟨U', cu', rfl⟩ := h2.form
              have hRS' := hRS.stay h3
              have hgl := hRS.b3.lt
              have hgg := hRS.hg
              refine ⟨U', cu', h1, hRS'.b3.cell 0, hRS'.b3.frozen 0, hRS'.hb.setCell (by show _ ≤ g; omega) _, hRS'.b1.far (by show _ ≠ g; omega) _, hRS'.b2.far (by show _ ≠ g; omega) _, hRS'.b3.set_ 0 _, ?_, hRS.hg⟩
              exact ((h2.rd (G := fun b => W.heap.size ≤ b ∧ b < W'.heap.size) (fun _ h h' => ⟨h, h'⟩) (fun _ h h' => ⟨h, h'⟩)).setCell (p := ⟨g, 0, none⟩) (by show ¬ (_ ≤ g ∧ _); omega) _).mono fun b h h' => ⟨by have := hRS.hb.size; omega, h', by omega, by omega⟩
        have hgood : ExtIs S rs (SK S rs rs.length) 0 0 ∨ ¬ ∀ p, p < rs.length → OkAt S rs p := by
          by_cases h : ∀ p, p < rs.length → OkAt S rs p
          · exact .inl (.inr (.inr (.inr ⟨hq.symm, by omega, by omega, h, rfl, rfl, rfl⟩)))
          · exact .inr h
        have hbad : ∀ k, k < rs.length → (∀ p, p < k → OkAt S rs p) → ¬ OkAt S rs k → ExtIs S rs [] 241 k := fun k hk h1 h2 => .inr (.inr (.inl ⟨hq.symm, by omega, by omega, k, hk, h1, h2, rfl, rfl, rfl⟩))
        replace kt := Lib.hid kt
        replace km := Lib.hid km
        replace kw := Lib.hid kw
        replace hgood := Lib.hid hgood
        replace hbad := Lib.hid hbad
        replace hG := Lib.hid hG
        replace r2 := Lib.hid r2
        replace hB0 := Lib.hid hB0
        clear hS hR hK hF r hq hsk
        go_enter Tryd.func7, Tryd.ntmps7
        go_wp2_with (first
          | (go_at_call 14; refine (kc.out _ hB0.out).mono ?_; rintro e W ⟨rfl, hW⟩; have z0 : W.cell? ⟨w.heap.size, 0, none⟩ = some (.slice A S.length c) := hW.2.1.cell 0; replace hW := Lib.hid hW)
          | (go_at_call 4; refine (kt.out _ hW.out).mono ?_; rintro e W2 ⟨U, cu, rfl, hRS⟩; clear z0))
        generalize W2.heap.size = g at hRS ⊢
        go_loopw [10, 11] (fun x _ wr => ∃ (j : Nat) (U : Option Addr) (cu : Nat), j ≤ rs.length ∧ x = .int .i64 j ∧ RS w wr g (.slice U (SK S rs j).length cu) (SK S rs j) ∧ Hid (∀ p, p < j → OkAt S rs p)) (fun x _ _ => rs.length - (intOf x).toNat)
        case atStart => exact ⟨0, U, cu, Nat.zero_le _, rfl, hRS, fun p h => by omega⟩
        case round =>
          clear hRS
          obtain ⟨j, U', cu', hj, rfl, hRS, hz⟩ := hrel
          have u0 : wr.cell? ⟨g, 0, none⟩ = some (.slice U' (SK S rs j).length cu') := hRS.b3.cell 0
          by_cases hlt : j < rs.length
          · obtain ⟨rr, hrr⟩ := getx hlt
            obtain ⟨b, off, rfl, hFb, hv, hsl⟩ := r2.out.rowv (m := 3) (fun _ => rfl) hrr (by omega)
            have hfB := hG.out b hFb
            obtain ⟨A3, c3, a2, r3⟩ := hsl 2 _ _ rfl
            have hcell : ∀ W3, Below w.heap.size w W3 → W3.cell? ⟨b, off + j * 3 + 2, none⟩ = some (.slice A3 rr.attrs.length c3) ∧ W3.cell? ⟨b, off + j * 3 + 1, none⟩ = some (.string rr.into) ∧ W3.cell? ⟨b, off + j * 3, none⟩ = some (.string rr.query) := fun W3 h3 =>
              ⟨(h3.cell (p := ⟨b, off + j * 3 + 2, none⟩) hfB).trans a2, (h3.cell (p := ⟨b, off + j * 3 + 1, none⟩) hfB).trans (hv 1 _ rfl), (h3.cell (p := ⟨b, off + j * 3, none⟩) hfB).trans (hv 0 _ rfl)⟩
            obtain ⟨x2, x1, x0⟩ := hcell wr hRS.hb
            have g3 : (0 : Int) ≤ (j : Int) := by omega
            have g4 : (j : Int) < rs.length := by omega
            have km2 := km.out g j rr U' A3 cu' c3 wr.drew hrr (by omega) hRS.drew r3
            have hok : OkR (SK S rs j) rr → OkAt S rs j := fun h x hx => by rw [hrr] at hx; injection hx with hx; subst hx; exact h
            have hnok : ¬ OkR (SK S rs j) rr → ¬ OkAt S rs j := fun h h2 => h (h2 rr hrr)
            have kw2 : ∀ W, RS w W g (.slice U' (SK S rs j).length cu') (SK S rs j) → _ := fun W hW => kw.out g j rr U' A3 cu' c3 W.drew hrr (by omega) hW.drew r3
            replace kw2 := Lib.hid kw2
            replace hcell := Lib.hid hcell
            by_cases ho : OkR (SK S rs j) rr
            · have km3 : Calls Tryd.prog 15 #[.agg #[.slice U' (SK S rs j).length cu'], .agg #[.string rr.query, .string rr.into, .slice A3 rr.attrs.length c3]] wr.drew fun e W' => e = .returned (.bool true) ∧ RS w W' g (.slice U' (SK S rs j).length cu') (SK S rs j) :=
                km2.mono fun e W' ⟨b, h1, h2, h3, h4⟩ => by
                  cases b with
                  | false => exact absurd ho (h3 rfl)
                  | true => exact ⟨h1, h4⟩
              replace km3 := Lib.hid km3
              have hok' := Lib.hid (hok ho)
              clear hv hsl r3 hrr km2 hok hnok ho hRS a2
              go_upto_region 11 with fail
              go_cut [11] (fun t wx => t = .bool true ∧ RS w wx g (.slice U' (SK S rs j).length cu') (SK S rs j))
              case first =>
                go_region_law ((go_simp; go_at_call 15; refine km3.out.mono ?_; rintro e W3 ⟨rfl, h4⟩))
                all_goals
                  go_wp2_with fail
                  go_meet
                  exact ⟨rfl, h4⟩
              case rest =>
                obtain ⟨rfl, hRS⟩ := hcut
                have u1 : wc.cell? ⟨g, 0, none⟩ = some (.slice U' (SK S rs j).length cu') := hRS.b3.cell 0
                obtain ⟨x2, x1, x0⟩ := hcell.out wc hRS.hb
                have kw3 := kw2.out wc hRS
                replace kw3 := Lib.hid kw3
                clear hRS
                go_upto_region 14 with fail
                go_region_law ((go_simp; go_at_call 16; refine kw3.out.mono ?_; rintro e W3 ⟨U3, cu3, rfl, v1, v2, h4⟩))
                all_goals
                  go_wp2_with fail
                  go_roundw
                  case rel =>
                    refine ⟨j + 1, U3, cu3, by omega, by go_num, h4, fun p hp => ?_⟩
                    by_cases e : p = j
                    · subst e; exact hok'.out
                    · exact hz.out p (by omega)
                  case measure => simp [intOf]; omega
            · have km3 : Calls Tryd.prog 15 #[.agg #[.slice U' (SK S rs j).length cu'], .agg #[.string rr.query, .string rr.into, .slice A3 rr.attrs.length c3]] wr.drew fun e W' => e = .returned (.bool false) ∧ RS w W' g (.slice U' (SK S rs j).length cu') (SK S rs j) :=
                km2.mono fun e W' ⟨b, h1, h2, h3, h4⟩ => by
                  cases b with
                  | true => exact absurd (h2 rfl) ho
                  | false => exact ⟨h1, h4⟩
              replace km3 := Lib.hid km3
              have he := Lib.hid (hbad.out j hlt hz.out (hnok ho))
              clear hv hsl r3 hrr km2 hok hnok ho hRS a2 kw2
              go_upto_region 11 with fail
              go_cut [11] (fun t wx => t = .bool false ∧ RS w wx g (.slice U' (SK S rs j).length cu') (SK S rs j))
              case first =>
                go_region_law ((go_simp; go_at_call 15; refine km3.out.mono ?_; rintro e W3 ⟨rfl, h4⟩))
                all_goals
                  go_wp2_with fail
                  go_meet
                  exact ⟨rfl, h4⟩
              case rest =>
                obtain ⟨rfl, hRS⟩ := hcut
                have n0 : wc.cell? ⟨w.heap.size + 1 + 1, 0, none⟩ = some (.slice none 0 0) := hRS.b2.cell 0
                have p0 : wc.cell? ⟨w.heap.size + 1, 0, none⟩ = some (.slice none 0 0) := hRS.b1.cell 0
                have f0 : wc.frozen? ⟨w.heap.size + 1, 0, none⟩ = false := hRS.b1.frozen 0
                obtain ⟨b1, b2⟩ := bad.out wc _ _ hRS.hb hRS.b1 he.out
                replace b1 := Lib.hid b1
                replace b2 := Lib.hid b2
                clear hRS
                go_wp2
                exact bodyPost_cell3 rfl b1.out aggSc rfl rfl rfl rfl b2.out
          · obtain rfl : j = rs.length := by omega
            have hgd : ExtIs S rs (SK S rs rs.length) 0 0 := hgood.out.resolve_right (fun h => h hz.out)
            have p0 : wr.cell? ⟨w.heap.size + 1, 0, none⟩ = some (.slice none 0 0) := hRS.b1.cell 0
            have f0 : wr.frozen? ⟨w.heap.size + 1, 0, none⟩ = false := hRS.b1.frozen 0
            have hb1 : Blk (wr.setCell ⟨w.heap.size + 1, 0, none⟩ (.slice U' (SK S rs rs.length).length cu')) (w.heap.size + 1) 24 [.slice U' (SK S rs rs.length).length cu'] := hRS.b1.set_ 0 _
            have hrd : Rd (wr.setCell ⟨w.heap.size + 1, 0, none⟩ (.slice U' (SK S rs rs.length).length cu')) (fun b => w.heap.size ≤ b ∧ b < (wr.setCell ⟨w.heap.size + 1, 0, none⟩ (.slice U' (SK S rs rs.length).length cu')).heap.size) (.slice U' (SK S rs rs.length).length cu') (.sl (SK S rs rs.length).length ((SK S rs rs.length).flatMap tdD)) :=
              (hRS.hr.setCell (p := ⟨w.heap.size + 1, 0, none⟩) (fun h => h.2.2.2 rfl) _).mono fun b h h2 => ⟨h.1, h2⟩
            have hpost : ExtPost S rs w (.returned (.tuple #[.agg #[.slice U' (SK S rs rs.length).length cu'], .int .i64 0, .int .i64 0])) (wr.setCell ⟨w.heap.size + 1, 0, none⟩ (.slice U' (SK S rs rs.length).length cu')) :=
              ⟨_, _, _, _, rfl, hgd, hrd, hRS.hb.setCell (by simp) _⟩
            replace hb1 := Lib.hid hb1
            replace hpost := Lib.hid hpost
            clear hRS hrd hgd km kw hgood hbad
            generalize SK S rs rs.length = T at *
            go_wp2
            exact bodyPost_cell3 rfl hb1.out aggSc rfl rfl rfl rfl hpost.out
  · have he : ExtIs S rs [] q 0 := .inl ⟨by rw [← hq]; exact hq0, rfl, hq, rfl⟩
    have hq0' : (q == 0) = false := by simpa using hq0
    replace hB0 := Lib.hid hB0
    clear hS hR hK hF hG r r2 hq
    go_enter Tryd.func7, Tryd.ntmps7
    go_wp2_with (go_at_call 14; refine (kc.out _ hB0.out).mono ?_; rintro e W ⟨rfl, hW⟩; have n0 : W.cell? ⟨w.heap.size + 1 + 1, 0, none⟩ = some (.slice none 0 0) := hW.2.2.2.cell 0; have p0 : W.cell? ⟨w.heap.size + 1, 0, none⟩ = some (.slice none 0 0) := hW.2.2.1.cell 0; have f0 : W.frozen? ⟨w.heap.size + 1, 0, none⟩ = false := hW.2.2.1.frozen 0; replace hW := Lib.hid hW)
    obtain ⟨b1, b2⟩ := bad.out W _ _ hW.out.1 hW.out.2.2.1 he
    exact bodyPost_cell3 rfl b1 aggSc rfl rfl rfl rfl b2
end nmW
end Go.Proofs.YtfnejelbacpheaaDoor
