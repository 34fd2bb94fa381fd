/- cascade.Extend: the walk. -/
import Derived.Test.YtfnejelbacpheaaDoorEx5
namespace Go.Proofs.YtfnejelbacpheaaDoor
open Go.RowKit Go.Deep Go.Maps
set_option linter.unusedVariables false
namespace nmW
set_option maxHeartbeats 800000 in
theorem extend_k (A A2 : Option Addr) (c c2 : Nat) (F G : Nat → Prop) (S : List Td) (rs : List Ru) (hS : SzT S) (hR : SzR rs) (w : World) (hK : KwIs w) (hF : ∀ b, F b → b < w.heap.size) (hG : ∀ b, G b → b < w.heap.size)
    (r : Rd w F (.slice A S.length c) (.sl S.length (S.flatMap tdD))) (r2 : Rd w G (.slice A2 rs.length c2) (.sl rs.length (rs.flatMap ruD))) :
    Calls Tryd.prog 6 #[.agg #[.slice A S.length c], .slice A2 rs.length c2] w (ExtPost S rs w) := by
  obtain ⟨q, hq⟩ : ∃ q, q = scC S := ⟨_, rfl⟩
  have hS1 := hS.1
  have hR1 := hR.1
  have hB0 : SB w ((w.alloc (.cells #[.slice A S.length c] 24)).alloc (.cells #[.slice none 0 0] 24)) (.slice A S.length c) (.slice none 0 0) := ⟨((Below.refl _ _).alloc (Nat.le_refl _) _).alloc (by simp) _, (Blk.new _ _ _).alloc _, Blk.new' (by simp)⟩
  have kc : ∀ W, SB w W (.slice A S.length c) (.slice none 0 0) → Calls Tryd.prog 11 #[.agg #[.slice A S.length c]] W fun e w' => e = .returned (.int .i64 q) ∧ SB w w' (.slice A S.length c) (.slice none 0 0) := fun W hW => by
    rw [hq]
    exact (checkSchema_k A c F S hS W (hK.stay hW.1) (fun b h => Nat.lt_of_lt_of_le (hF b h) hW.1.size) (r.under hW.1 hF)).mono fun e w' ⟨h1, h2⟩ => ⟨h1, hW.stay h2⟩
  replace kc := Lib.hid kc
  have bad : ∀ W code at_, SB w W (.slice A S.length c) (.slice none 0 0) → ExtIs S rs [] code at_ → (Blk (W.setCell ⟨w.heap.size + 1, 0, none⟩ (.slice none 0 0)) (w.heap.size + 1) 24 [.slice none 0 0]) ∧ ExtPost S rs w (.returned (.tuple #[.agg #[.slice none 0 0], .int .i64 code, .int .i64 at_])) (W.setCell ⟨w.heap.size + 1, 0, none⟩ (.slice none 0 0)) := fun W code at_ hW he =>
    ⟨hW.2.2.set_ 0 _, .bad he (hW.1.setCell (by simp) _)⟩
  replace bad := Lib.hid bad
  by_cases hq0 : q = 0
  · subst hq0
    by_cases g1 : (rs.length : Int) < 1
    · have he : ExtIs S rs [] 240 0 := .inr (.inl ⟨hq.symm, .inl (by omega), rfl, rfl, rfl⟩)
      replace hB0 := Lib.hid hB0
      clear hS hR hK hF hG r r2 hq
      go_enter Tryd.func6, Tryd.ntmps6
      go_wp2_with (go_at_call 11; refine (kc.out _ hB0.out).mono ?_; rintro e W ⟨rfl, hW⟩; have p0 : W.cell? ⟨w.heap.size + 1, 0, none⟩ = some (.slice none 0 0) := hW.2.2.cell 0; have f0 : W.frozen? ⟨w.heap.size + 1, 0, none⟩ = false := hW.2.2.frozen 0; replace hW := Lib.hid hW)
      obtain ⟨b1, b2⟩ := bad.out W _ _ hW.out he
      exact bodyPost_cell3 rfl b1 aggSc rfl rfl rfl rfl b2
    · by_cases g2 : (8 : Int) < rs.length
      · have he : ExtIs S rs [] 240 0 := .inr (.inl ⟨hq.symm, .inr (by omega), rfl, rfl, rfl⟩)
        replace hB0 := Lib.hid hB0
        clear hS hR hK hF hG r r2 hq
        go_enter Tryd.func6, Tryd.ntmps6
        go_wp2_with (go_at_call 11; refine (kc.out _ hB0.out).mono ?_; rintro e W ⟨rfl, hW⟩; have p0 : W.cell? ⟨w.heap.size + 1, 0, none⟩ = some (.slice none 0 0) := hW.2.2.cell 0; have f0 : W.frozen? ⟨w.heap.size + 1, 0, none⟩ = false := hW.2.2.frozen 0; replace hW := Lib.hid hW)
        obtain ⟨b1, b2⟩ := bad.out W _ _ hW.out he
        exact bodyPost_cell3 rfl b1 aggSc rfl rfl rfl rfl b2
      · have hSl := scC_len hq.symm
        have hsk := SK_sz hS (by omega) hR
        have kg : ∀ W, SB w W (.slice A S.length c) (.slice none 0 0) → Calls Tryd.prog 12 #[.agg #[.slice A S.length c]] W fun e w' => ∃ g m v B, e = .returned (.pointer (some ⟨g, 0, none⟩)) ∧ GS W.heap.size B w' g m v S ∧ SB w w' (.slice A S.length c) (.slice none 0 0) ∧ B ≤ w'.heap.size := fun W hW =>
          (grow_k A c F S hS (by omega) W (fun b h => Nat.lt_of_lt_of_le (hF b h) hW.1.size) (r.under hW.1 hF)).mono fun e w' ⟨g, m, v, B, h1, h2, h3, h4⟩ => ⟨g, m, v, B, h1, h2, hW.stay h3, h4⟩
        have kr : ∀ (B0 B g m : Nat) (v : Value) (j : Nat) (rr : Ru) (A3 : Option Addr) (c3 : Nat) (W : World), rs[j]? = some rr → j ≤ 8 → B ≤ W.heap.size → w.heap.size ≤ B0 → Below w.heap.size w W → GS B0 B W g m v (SK S rs j) → Rd w G (.slice A3 rr.attrs.length c3) (.sl rr.attrs.length (rr.attrs.flatMap strD)) →
            Calls Tryd.prog 13 #[.pointer (some ⟨g, 0, none⟩), .agg #[.string rr.query, .string rr.into, .slice A3 rr.attrs.length c3]] W (RulePost B0 B g m (SK S rs j) rr W) := fun B0 B g m v j rr A3 c3 W hj hj8 hBW hB0 hb hGS hr3 =>
          rule_k B0 B g m v (SK S rs j) rr A3 c3 G W (hsk j (by have := (List.getElem?_eq_some_iff.1 hj).1; omega) (by omega)).1 (by have := (hsk j (by have := (List.getElem?_eq_some_iff.1 hj).1; omega) (by omega)).2; omega) (hR.2 rr (List.mem_of_getElem? hj)) hBW (fun b h => Nat.lt_of_lt_of_le (hG b h) hB0) (hK.stay hb) (Nat.lt_of_lt_of_le hK.lt hB0) hGS (hr3.under hb hG)
        have hgood : ExtIs S rs (SK S rs rs.length) 0 0 ∨ ¬ ∀ p, p < rs.length → OkAt S rs p := by
          by_cases h : ∀ p, p < rs.length → OkAt S rs p
          · exact .inl (.inr (.inr (.inr ⟨hq.symm, by omega, by omega, h, rfl, rfl, rfl⟩)))
          · exact .inr h
        have hbad : ∀ k, k < rs.length → (∀ p, p < k → OkAt S rs p) → ¬ OkAt S rs k → ExtIs S rs [] 241 k := fun k hk h1 h2 => .inr (.inr (.inl ⟨hq.symm, by omega, by omega, k, hk, h1, h2, rfl, rfl, rfl⟩))
        replace kg := Lib.hid kg
        replace kr := Lib.hid kr
        replace hgood := Lib.hid hgood
        replace hbad := Lib.hid hbad
        replace hG := Lib.hid hG
        replace r2 := Lib.hid r2
        replace hB0 := Lib.hid hB0
        clear hS hR hK hF r hq hsk
        go_enter Tryd.func6, Tryd.ntmps6
        go_wp2_with (first
          | (go_at_call 11; refine (kc.out _ hB0.out).mono ?_; rintro e W ⟨rfl, hW⟩; have z0 : W.cell? ⟨w.heap.size, 0, none⟩ = some (.slice A S.length c) := hW.2.1.cell 0; have hWs := hW.2.2.lt; replace hW := Lib.hid hW)
          | (go_at_call 12; refine (kg.out _ hW.out).mono ?_; rintro e W2 ⟨g, m, v, B, rfl, hGS, hW2, hBW⟩; clear z0))
        go_loopw [32] (fun x wr => ∃ (j : Nat) (v : Value), j ≤ rs.length ∧ x = .int .i64 j ∧ GS W.heap.size B wr g m v (SK S rs j) ∧ SB w wr (.slice A S.length c) (.slice none 0 0) ∧ B ≤ wr.heap.size ∧ Hid (∀ p, p < j → OkAt S rs p)) (fun x _ => rs.length - (intOf x).toNat)
        case atStart => exact ⟨0, v, Nat.zero_le _, rfl, hGS, hW2, hBW, fun p h => by omega⟩
        case round =>
          clear hGS hW2 hBW
          obtain ⟨j, v', hj, rfl, hGS, hSB, hBW, hz⟩ := hrel
          by_cases hlt : j < rs.length
          · obtain ⟨rr, hrr⟩ := getx hlt
            obtain ⟨b, off, rfl, hFb, hv, hsl⟩ := r2.out.rowv (m := 3) (fun _ => rfl) hrr (by omega)
            have hfB := hG.out b hFb
            obtain ⟨A3, c3, a2, r3⟩ := hsl 2 _ _ rfl
            replace a2 : wr.cell? ⟨b, off + j * 3 + 2, none⟩ = some (.slice A3 rr.attrs.length c3) := (hSB.1.cell (p := ⟨b, off + j * 3 + 2, none⟩) hfB).trans a2
            have a1 : wr.cell? ⟨b, off + j * 3 + 1, none⟩ = some (.string rr.into) := (hSB.1.cell (p := ⟨b, off + j * 3 + 1, none⟩) hfB).trans (hv 1 _ rfl)
            have a0 : wr.cell? ⟨b, off + j * 3, none⟩ = some (.string rr.query) := (hSB.1.cell (p := ⟨b, off + j * 3, none⟩) hfB).trans (hv 0 _ rfl)
            have g3 : (0 : Int) ≤ (j : Int) := by omega
            have g4 : (j : Int) < rs.length := by omega
            have kr2 := kr.out _ B g m v' j rr A3 c3 (wr.alloc (.cells #[.string rr.query, .string rr.into, .slice A3 rr.attrs.length c3] 35)) hrr (by omega) (by simp; omega) (by omega) (hSB.1.alloc hSB.1.size _) (hGS.stay ((Below.refl _ _).alloc (Nat.le_refl _) _)) r3
            have hSB2 : ∀ W3, Below W.heap.size (wr.alloc (.cells #[.string rr.query, .string rr.into, .slice A3 rr.attrs.length c3] 35)) W3 → SB w W3 (.slice A S.length c) (.slice none 0 0) := fun W3 h3 =>
              ⟨(hSB.1.alloc hSB.1.size _).trans (h3.mono (by omega)), (hSB.2.1.alloc _).under h3 (by omega), (hSB.2.2.alloc _).under h3 (by omega)⟩
            have hok : OkR (SK S rs j) rr → OkAt S rs j := fun h x hx => by rw [hrr] at hx; injection hx with hx; subst hx; exact h
            have hnok : ¬ OkR (SK S rs j) rr → ¬ OkAt S rs j := fun h h2 => h (h2 rr hrr)
            have hsk : SK S rs (j + 1) = addR (SK S rs j) rr := SK_succ hrr
            have hBg : ∀ W3 v3, GS W.heap.size B W3 g m v3 (SK S rs (j + 1)) → Below W.heap.size (wr.alloc (.cells #[.string rr.query, .string rr.into, .slice A3 rr.attrs.length c3] 35)) W3 → B ≤ W3.heap.size := fun W3 v3 h h' => by
              have := h'.size
              simp at this
              omega
            by_cases ho : OkR (SK S rs j) rr
            · have kr3 : Calls Tryd.prog 13 #[.pointer (some ⟨g, 0, none⟩), .agg #[.string rr.query, .string rr.into, .slice A3 rr.attrs.length c3]] (wr.alloc (.cells #[.string rr.query, .string rr.into, .slice A3 rr.attrs.length c3] 35)) fun e W3 => ∃ n, e = .returned (.tuple #[.int .i64 n, .bool true]) ∧ (∃ v3, GS W.heap.size B W3 g m v3 (SK S rs (j + 1)) ∧ B ≤ W3.heap.size) ∧ SB w W3 (.slice A S.length c) (.slice none 0 0) :=
                kr2.mono fun e W3 ⟨n, ok, h1, h2, h3, h4⟩ => by
                  cases ok with
                  | false => exact absurd ho (h3 rfl)
                  | true => obtain ⟨_, v3, h5⟩ := h2 rfl; rw [← hsk] at h5; exact ⟨n, h1, ⟨v3, h5, hBg _ _ h5 h4⟩, hSB2 _ h4⟩
              replace kr3 := Lib.hid kr3
              have hok' := Lib.hid (hok ho)
              clear hGS hSB hv hsl r3 hrr kr2 hSB2 hok hnok hsk hBg ho
              go_wp2_with (go_at_call 13; refine kr3.out.mono ?_; rintro e W3 ⟨n, rfl, ⟨v3, h1⟩, h4⟩)
              go_roundw
              case rel =>
                refine ⟨j + 1, v3, by omega, by go_num, h1.1, h4, h1.2, fun p hp => ?_⟩
                by_cases e : p = j
                · subst e; exact hok'.out
                · exact hz.out p (by omega)
              case measure => simp [intOf]; omega
            · have kr3 : Calls Tryd.prog 13 #[.pointer (some ⟨g, 0, none⟩), .agg #[.string rr.query, .string rr.into, .slice A3 rr.attrs.length c3]] (wr.alloc (.cells #[.string rr.query, .string rr.into, .slice A3 rr.attrs.length c3] 35)) fun e W3 => ∃ n, e = .returned (.tuple #[.int .i64 n, .bool false]) ∧ SB w W3 (.slice A S.length c) (.slice none 0 0) :=
                kr2.mono fun e W3 ⟨n, ok, h1, h2, h3, h4⟩ => by
                  cases ok with
                  | true => exact absurd (h2 rfl).1 ho
                  | false => exact ⟨n, h1, hSB2 _ h4⟩
              replace kr3 := Lib.hid kr3
              have he := Lib.hid (hbad.out j hlt hz.out (hnok ho))
              clear hGS hSB hv hsl r3 hrr kr2 hSB2 hok hnok hsk hBg ho
              go_wp2_with (go_at_call 13; refine kr3.out.mono ?_; rintro e W3 ⟨n, rfl, h4⟩; have p0 : W3.cell? ⟨w.heap.size + 1, 0, none⟩ = some (.slice none 0 0) := h4.2.2.cell 0; have f0 : W3.frozen? ⟨w.heap.size + 1, 0, none⟩ = false := h4.2.2.frozen 0; replace h4 := Lib.hid h4)
              obtain ⟨b1, b2⟩ := bad.out W3 _ _ h4.out he.out
              exact bodyPost_cell3 rfl b1 aggSc rfl rfl rfl rfl b2
          · obtain rfl : j = rs.length := by omega
            have hgd : ExtIs S rs (SK S rs rs.length) 0 0 := hgood.out.resolve_right (fun h => h hz.out)
            obtain ⟨U, cu, rfl⟩ := hGS.ho.form
            have d0 : wr.cell? ⟨g, 0, none⟩ = some (.slice U (SK S rs rs.length).length cu) := hGS.hb.cell 0
            have p0 : wr.cell? ⟨w.heap.size + 1, 0, none⟩ = some (.slice none 0 0) := hSB.2.2.cell 0
            have f0 : wr.frozen? ⟨w.heap.size + 1, 0, none⟩ = false := hSB.2.2.frozen 0
            have hb1 : Blk (wr.setCell ⟨w.heap.size + 1, 0, none⟩ (.slice U (SK S rs rs.length).length cu)) (w.heap.size + 1) 24 [.slice U (SK S rs rs.length).length cu] := hSB.2.2.set_ 0 _
            have hrd : Rd (wr.setCell ⟨w.heap.size + 1, 0, none⟩ (.slice U (SK S rs rs.length).length cu)) (fun b => w.heap.size ≤ b ∧ b < (wr.setCell ⟨w.heap.size + 1, 0, none⟩ (.slice U (SK S rs rs.length).length cu)).heap.size) (.slice U (SK S rs rs.length).length cu) (.sl (SK S rs rs.length).length ((SK S rs rs.length).flatMap tdD)) := by
              have q0 := hGS.g0
              have q1 := hGS.g1
              have := hGS.ho.rd (G := fun b => B ≤ b) (fun _ h _ => h) (fun _ h _ => h)
              exact (this.setCell (p := ⟨w.heap.size + 1, 0, none⟩) (by show ¬ B ≤ w.heap.size + 1; omega) _).mono fun b h h2 => ⟨by omega, h2⟩
            have hpost : ExtPost S rs w (.returned (.tuple #[.agg #[.slice U (SK S rs rs.length).length cu], .int .i64 0, .int .i64 0])) (wr.setCell ⟨w.heap.size + 1, 0, none⟩ (.slice U (SK S rs rs.length).length cu)) :=
              ⟨_, _, _, _, rfl, hgd, hrd, hSB.1.setCell (by simp) _⟩
            replace hb1 := Lib.hid hb1
            replace hpost := Lib.hid hpost
            generalize SK S rs rs.length = T at *
            clear hGS hSB hrd hgd
            go_wp2
            exact bodyPost_cell3 rfl hb1.out aggSc rfl rfl rfl rfl hpost.out
  · have he : ExtIs S rs [] q 0 := .inl ⟨by rw [← hq]; exact hq0, rfl, hq, rfl⟩
    have hq0' : (q == 0) = false := by simpa using hq0
    replace hB0 := Lib.hid hB0
    clear hS hR hK hF hG r r2 hq
    go_enter Tryd.func6, Tryd.ntmps6
    go_wp2_with (go_at_call 11; refine (kc.out _ hB0.out).mono ?_; rintro e W ⟨rfl, hW⟩; have p0 : W.cell? ⟨w.heap.size + 1, 0, none⟩ = some (.slice none 0 0) := hW.2.2.cell 0; have f0 : W.frozen? ⟨w.heap.size + 1, 0, none⟩ = false := hW.2.2.frozen 0; replace hW := Lib.hid hW)
    obtain ⟨b1, b2⟩ := bad.out W _ _ hW.out he
    exact bodyPost_cell3 rfl b1 aggSc rfl rfl rfl rfl b2
end nmW
end Go.Proofs.YtfnejelbacpheaaDoor
