/- The program's CheckSchema answers the plain code. -/
import Derived.Test.YtmadafejenjkcaaDoorSc4
namespace Go.Proofs.YtmadafejenjkcaaDoor
open Go.RowKit Go.Deep
set_option linter.unusedVariables false

/-- a world of a round: the schema's box, the round's type -/
def TG (w wr : World) (g : Nat) (v : Value) (n : ByteArray) (u : Value) : Prop :=
  Below w.heap.size w wr ∧ Blk wr w.heap.size 24 [v] ∧ Blk wr g 34 [.string n, u]
theorem TG.stay {w wr w2 : World} {g : Nat} {v u : Value} {n : ByteArray} (h : TG w wr g v n u) (hb : Below wr.heap.size wr w2) : TG w w2 g v n u :=
  ⟨h.1.trans (hb.mono h.1.size), h.2.1.stay hb, h.2.2.stay hb⟩
namespace nmW
set_option maxHeartbeats 800000 in
theorem checkSchema_k (A : Option Addr) (c : Nat) (F : Nat → Prop) (l : List Td) (hl : SzT l) (w : World) (hK : KwIs w) (hF : ∀ b, F b → b < w.heap.size) (r : Rd w F (.slice A l.length c) (.sl l.length (l.flatMap tdD))) :
    Calls Tryd.prog 36 #[.agg #[.slice A l.length c]] w fun e w' => e = .returned (.int .i64 (scC l)) ∧ Below w.heap.size w w' := by
  have k1 := Lib.hid isName_k
  have k2 := Lib.hid typeOf_k
  have k3 := Lib.hid placeOf_k
  obtain ⟨hl1, hl2⟩ := hl
  replace hl2 := Lib.hid hl2
  replace hF := Lib.hid hF
  replace hK := Lib.hid hK
  replace r := Lib.hid r
  by_cases g1 : (l.length : Int) = 0
  · have hfin := Lib.hid (scC_23 (l := l) (.inl (by omega)))
    have g1' : ((l.length : Int) == 0) = true := by simpa using g1
    clear g1
    go_enter Tryd.func36, Tryd.ntmps36
    go_wp2
    go_ret
    exact ⟨ret_int hfin.out.symm, (Below.refl _ _).alloc (Nat.le_refl _) _⟩
  · have g1' : ((l.length : Int) == 0) = false := by simpa using g1
    by_cases g2 : (16 : Int) < l.length
    · have hfin := Lib.hid (scC_23 (l := l) (.inr (by omega)))
      clear g1
      go_enter Tryd.func36, Tryd.ntmps36
      go_wp2
      go_ret
      exact ⟨ret_int hfin.out.symm, (Below.refl _ _).alloc (Nat.le_refl _) _⟩
    · have hfin := Lib.hid (scC_ty (l := l) (by omega) (by omega))
      clear g1
      go_enter Tryd.func36, Tryd.ntmps36
      go_wp2
      go_loopw [20] (fun x wr => ∃ j : Nat, j ≤ l.length ∧ x = .int .i64 j ∧ Below w.heap.size w wr ∧ Blk wr w.heap.size 24 [.slice A l.length c] ∧ Hid (∀ p, p < j → tyC l p = 0)) (fun x _ => l.length - (intOf x).toNat)
      case atStart => exact ⟨0, Nat.zero_le _, rfl, (Below.refl _ _).alloc (Nat.le_refl _) _, Blk.new _ _ _, fun p h => by omega⟩
      case round =>
        obtain ⟨j, hj, rfl, hb, hB, hz⟩ := hrel
        by_cases hlt : j < l.length
        · obtain ⟨wo, hwo⟩ : ∃ wo : World, wo = wr := ⟨_, rfl⟩
          subst hwo
          obtain ⟨t, ht⟩ := getx hlt
          obtain ⟨hs1, hs2, hs3⟩ := hl2.out t (List.mem_of_getElem? ht)
          obtain ⟨b, off, rfl, hFb, hv, hsl⟩ := r.out.rowv (m := 2) (fun _ => rfl) ht (by omega)
          have hfB := hF.out b hFb
          have a0 : wo.cell? ⟨b, off + j * 2, none⟩ = some (.string t.name) := (hb.cell (p := ⟨b, off + j * 2, none⟩) hfB).trans (hv 0 _ rfl)
          obtain ⟨A2, c2, a1, rw0⟩ := hsl 1 _ _ rfl
          replace a1 : wo.cell? ⟨b, off + j * 2 + 1, none⟩ = some (.slice A2 t.attrs.length c2) := (hb.cell (p := ⟨b, off + j * 2 + 1, none⟩) hfB).trans a1
          have g0 : (0 : Int) ≤ (j : Int) := by omega
          have g1 : (j : Int) < l.length := by omega
          have hbB : b < wo.heap.size := Nat.lt_of_lt_of_le (hF.out b hFb) hb.size
          have hbN : ¬ b = wo.heap.size := by omega
          have hbsz := hb.size
          have hnm : (l.map (·.name))[j]? = some t.name := by rw [List.getElem?_map, ht]; rfl
          have hT : TG w (wo.alloc (.cells #[.string t.name, .slice A2 t.attrs.length c2] 34)) wo.heap.size (.slice (some ⟨b, off, none⟩) l.length c) t.name (.slice A2 t.attrs.length c2) := ⟨hb.alloc hb.size _, hB.alloc _, Blk.new' rfl⟩
          have rr := (r.out.under hb hF.out)
          have hFr : ∀ b, F b → b < wo.heap.size := fun b h => Nat.lt_of_lt_of_le (hF.out b h) hb.size
          have hRx : ∀ W, TG w W wo.heap.size (.slice (some ⟨b, off, none⟩) l.length c) t.name (.slice A2 t.attrs.length c2) → Rd W F (.slice A2 t.attrs.length c2) (.sl t.attrs.length (t.attrs.flatMap strD)) := by
            exact fun W hW => rw0.under hW.1 hF.out
          replace hRx := Lib.hid hRx
          replace hs3 := Lib.hid hs3
          replace hnm := Lib.hid hnm
          replace ht := Lib.hid ht
          replace hT := Lib.hid hT
          replace rr := Lib.hid rr
          clear rw0
          replace hFr := Lib.hid hFr
          have hKr := Lib.hid ((hK.out.stay hb).stay ((Below.refl _ _).alloc (Nat.le_refl _) (.cells #[.string t.name, .slice A2 t.attrs.length c2] 34)))
          clear hv hsl hb hB
          obtain ⟨nm, hnmB⟩ : ∃ b, b = isNm t.name := ⟨_, rfl⟩
          replace hnmB := Lib.hid hnmB
          cases nm
          · have hc : tyC l j = 22 := tyC_22 ht.out hnmB.out.symm
            have hfin2 : scC l = 22 := by rw [hfin.out, fstC_at hlt (by rw [hc]; omega) hz.out, hc]
            replace hfin2 := Lib.hid hfin2
            clear hc
            go_wp2_with (go_at_call 55; refine (k1.out _ _ hKr.out hs1).mono ?_; rw [← hnmB.out]; rintro e W ⟨rfl, hW⟩; have hTW := hT.out.stay hW)
            go_ret
            exact ⟨ret_int hfin2.out.symm, hTW.1⟩
          · obtain ⟨q, hq⟩ : ∃ q, q = placeI (l.map (·.name)) t.name := ⟨_, rfl⟩
            have hTo : ∀ W, TG w W wo.heap.size (.slice (some ⟨b, off, none⟩) l.length c) t.name (.slice A2 t.attrs.length c2) → Calls Tryd.prog 56 #[.agg #[.slice (some ⟨b, off, none⟩) l.length c], .string t.name] W fun e w' => e = .returned (.int .i64 q) ∧ Below W.heap.size W w' := fun W hW => by
              rw [hq]
              exact k2.out _ c F l t.name hl1 W (fun b h => Nat.lt_of_lt_of_le (hF.out b h) hW.1.size) (r.out.under hW.1 hF.out)
            replace hTo := Lib.hid hTo
            by_cases hqj : q = (j : Int)
            · subst hqj
              by_cases h8 : (8 : Int) < t.attrs.length
              · have hc : tyC l j = 24 := tyC_24 ht.out hnmB.out.symm hq.symm (by omega)
                have hfin2 : scC l = 24 := by rw [hfin.out, fstC_at hlt (by rw [hc]; omega) hz.out, hc]
                replace hfin2 := Lib.hid hfin2
                replace hq := Lib.hid hq
                clear hc
                go_wp2_with (first
                  | (go_at_call 55; refine (k1.out _ _ hKr.out hs1).mono ?_; rw [← hnmB.out]; rintro e W ⟨rfl, hW⟩; have hTW := hT.out.stay hW; have z0 : W.cell? ⟨w.heap.size, 0, none⟩ = some (.slice (some ⟨b, off, none⟩) l.length c) := hTW.2.1.cell 0; have y0 : W.cell? ⟨wo.heap.size, 0, none⟩ = some (.string t.name) := hTW.2.2.cell 0; replace hTW := Lib.hid hTW)
                  | (go_at_call 56; refine (hTo.out _ hTW.out).mono ?_; rintro e W2 ⟨rfl, hW2⟩; have hTW2 := hTW.out.stay hW2; have y1 : W2.cell? ⟨wo.heap.size, 1, none⟩ = some (.slice A2 t.attrs.length c2) := hTW2.2.2.cell 1; replace hTW2 := Lib.hid hTW2))
                go_ret
                exact ⟨ret_int hfin2.out.symm, hTW2.out.1⟩
              · have hc : tyC l j = fstC (atC t.attrs) t.attrs.length := tyC_at ht.out hnmB.out.symm hq.symm (by omega)
                replace hc := Lib.hid hc
                replace hq := Lib.hid hq
                go_wp2_with (first
                  | (go_at_call 55; refine (k1.out _ _ hKr.out hs1).mono ?_; rw [← hnmB.out]; rintro e W ⟨rfl, hW⟩; have hTW := hT.out.stay hW; have z0 : W.cell? ⟨w.heap.size, 0, none⟩ = some (.slice (some ⟨b, off, none⟩) l.length c) := hTW.2.1.cell 0; have y0 : W.cell? ⟨wo.heap.size, 0, none⟩ = some (.string t.name) := hTW.2.2.cell 0; replace hTW := Lib.hid hTW)
                  | (go_at_call 56; refine (hTo.out _ hTW.out).mono ?_; rintro e W2 ⟨rfl, hW2⟩; have hTW2 := hTW.out.stay hW2; have y1 : W2.cell? ⟨wo.heap.size, 1, none⟩ = some (.slice A2 t.attrs.length c2) := hTW2.2.2.cell 1; replace hTW2 := Lib.hid hTW2))
                clear y1
                go_loopw [45] (fun x wr => ∃ k : Nat, k ≤ t.attrs.length ∧ x = .int .i64 k ∧ TG w wr wo.heap.size (.slice (some ⟨b, off, none⟩) l.length c) t.name (.slice A2 t.attrs.length c2) ∧ Hid (∀ p, p < k → atC t.attrs p = 0)) (fun x _ => t.attrs.length - (intOf x).toNat)
                case atStart => exact ⟨0, Nat.zero_le _, rfl, hTW2.out, fun p h => by omega⟩
                case round =>
                  clear hTW2
                  obtain ⟨k, hk, rfl, hTx, hzz⟩ := hrel
                  by_cases hlt2 : k < t.attrs.length
                  · obtain ⟨x, hx⟩ := getx hlt2
                    have hxs := hs3.out x (List.mem_of_getElem? hx)
                    have rx2 : Rd wr F (.slice A2 t.attrs.length c2) (.sl t.attrs.length (t.attrs.flatMap strD)) := (hRx.out _ hTx)
                    obtain ⟨b2, off2, rfl, _, ha, _⟩ := rx2.rowv (m := 1) (fun _ => rfl) hx (by omega)
                    have a0 : wr.cell? ⟨b2, off2 + k, none⟩ = some (.string x) := by have := ha 0 _ rfl; rwa [Nat.mul_one, Nat.add_zero] at this
                    have g2 : (0 : Int) ≤ (k : Int) := by omega
                    have g3 : (k : Int) < t.attrs.length := by omega
                    replace hx := Lib.hid hx
                    obtain ⟨nx, hnx⟩ : ∃ b, b = isNm x := ⟨_, rfl⟩
                    replace hnx := Lib.hid hnx
                    have hKx := Lib.hid (hK.out.stay hTx.1)
                    replace hTx := Lib.hid hTx
                    clear ha rx2
                    cases nx
                    · have hc2 : atC t.attrs k = 22 := atC_22 hx.out (.inl hnx.out.symm)
                      have hty : tyC l j = 22 := by rw [hc.out, fstC_at hlt2 (by rw [hc2]; omega) hzz.out, hc2]
                      have hfin2 : scC l = 22 := by rw [hfin.out, fstC_at hlt (by rw [hty]; omega) hz.out, hty]
                      replace hfin2 := Lib.hid hfin2
                      clear hc2 hty
                      go_wp2_with (go_at_call 55; refine (k1.out _ _ hKx.out hxs).mono ?_; rw [← hnx.out]; rintro e W ⟨rfl, hW⟩; have hTW := hTx.out.stay hW; replace hTW := Lib.hid hTW)
                      go_ret
                      exact ⟨ret_int hfin2.out.symm, hTW.out.1⟩
                    · by_cases hts : x = tsB
                      · have hc2 : atC t.attrs k = 22 := atC_22 hx.out (.inr hts)
                        have hty : tyC l j = 22 := by rw [hc.out, fstC_at hlt2 (by rw [hc2]; omega) hzz.out, hc2]
                        have hfin2 : scC l = 22 := by rw [hfin.out, fstC_at hlt (by rw [hty]; omega) hz.out, hty]
                        have hts' := ts_true hts
                        replace hts := Lib.hid hts
                        replace hfin2 := Lib.hid hfin2
                        clear hc2 hty
                        go_wp2_with (go_at_call 55; refine (k1.out _ _ hKx.out hxs).mono ?_; rw [← hnx.out]; rintro e W ⟨rfl, hW⟩; have hTW := hTx.out.stay hW; replace hTW := Lib.hid hTW)
                        go_ret
                        exact ⟨ret_int hfin2.out.symm, hTW.out.1⟩
                      · have hts' := ts_false hts
                        obtain ⟨q2, hq2⟩ : ∃ q, q = placeI t.attrs x := ⟨_, rfl⟩
                        have hPo : ∀ W, TG w W wo.heap.size (.slice (some ⟨b, off, none⟩) l.length c) t.name (.slice (some ⟨b2, off2, none⟩) t.attrs.length c2) → Calls Tryd.prog 57 #[.slice (some ⟨b2, off2, none⟩) t.attrs.length c2, .string x] W fun e w' => e = .returned (.int .i64 q2) ∧ w' = W := fun W hW => by
                          rw [hq2]
                          exact k3.out _ c2 F t.attrs x hs2 W (hRx.out _ hW)
                        replace hPo := Lib.hid hPo
                        by_cases hqk : q2 = (k : Int)
                        · subst hqk
                          have hc2 : atC t.attrs k = 0 := atC_0 hx.out hnx.out.symm hts hq2.symm
                          replace hc2 := Lib.hid hc2
                          replace hq2 := Lib.hid hq2
                          replace hts := Lib.hid hts
                          go_wp2_with (first
                            | (go_at_call 55; refine (k1.out _ _ hKx.out hxs).mono ?_; rw [← hnx.out]; rintro e W ⟨rfl, hW⟩; have hTW := hTx.out.stay hW; have y1 : W.cell? ⟨wo.heap.size, 1, none⟩ = some (.slice (some ⟨b2, off2, none⟩) t.attrs.length c2) := hTW.2.2.cell 1; replace hTW := Lib.hid hTW)
                            | (go_at_call 57; refine (hPo.out _ hTW.out).mono ?_; rintro e W2 ⟨rfl, hW2⟩; obtain rfl := hW2.symm))
                          go_roundw
                          case rel =>
                            refine ⟨k + 1, by omega, by go_num, hTW.out, fun p hp => ?_⟩
                            by_cases e : p = k
                            · subst e; exact hc2.out
                            · exact hzz.out p (by omega)
                          case measure => simp [intOf]; omega
                        · have hc2 : atC t.attrs k = 25 := atC_25 hx.out hnx.out.symm hts (by rw [← hq2]; exact hqk)
                          have hty : tyC l j = 25 := by rw [hc.out, fstC_at hlt2 (by rw [hc2]; omega) hzz.out, hc2]
                          have hfin2 : scC l = 25 := by rw [hfin.out, fstC_at hlt (by rw [hty]; omega) hz.out, hty]
                          have hqk' : (q2 == (k : Int)) = false := by simpa using hqk
                          replace hfin2 := Lib.hid hfin2
                          replace hq2 := Lib.hid hq2
                          replace hts := Lib.hid hts
                          clear hc2 hty
                          go_wp2_with (first
                            | (go_at_call 55; refine (k1.out _ _ hKx.out hxs).mono ?_; rw [← hnx.out]; rintro e W ⟨rfl, hW⟩; have hTW := hTx.out.stay hW; have y1 : W.cell? ⟨wo.heap.size, 1, none⟩ = some (.slice (some ⟨b2, off2, none⟩) t.attrs.length c2) := hTW.2.2.cell 1; replace hTW := Lib.hid hTW)
                            | (go_at_call 57; refine (hPo.out _ hTW.out).mono ?_; rintro e W2 ⟨rfl, hW2⟩; obtain rfl := hW2.symm))
                          go_ret
                          exact ⟨ret_int hfin2.out.symm, hTW.out.1⟩
                  · obtain rfl : k = t.attrs.length := by omega
                    have hc2 : tyC l j = 0 := by rw [hc.out]; exact fstC_zero hzz.out
                    replace hc2 := Lib.hid hc2
                    replace hTx := Lib.hid hTx
                    go_wp2
                    go_roundw
                    case rel =>
                      refine ⟨j + 1, by omega, by go_num, hTx.out.1, hTx.out.2.1, fun p hp => ?_⟩
                      by_cases e : p = j
                      · subst e; exact hc2.out
                      · exact hz.out p (by omega)
                    case measure => simp [intOf]; omega
            · have hc : tyC l j = 25 := tyC_25 ht.out hnmB.out.symm (by rw [← hq]; exact hqj)
              have hfin2 : scC l = 25 := by rw [hfin.out, fstC_at hlt (by rw [hc]; omega) hz.out, hc]
              have hqj' : (q == (j : Int)) = false := by simpa using hqj
              replace hfin2 := Lib.hid hfin2
              replace hq := Lib.hid hq
              clear hc
              go_wp2_with (first
                | (go_at_call 55; refine (k1.out _ _ hKr.out hs1).mono ?_; rw [← hnmB.out]; rintro e W ⟨rfl, hW⟩; have hTW := hT.out.stay hW; have z0 : W.cell? ⟨w.heap.size, 0, none⟩ = some (.slice (some ⟨b, off, none⟩) l.length c) := hTW.2.1.cell 0; have y0 : W.cell? ⟨wo.heap.size, 0, none⟩ = some (.string t.name) := hTW.2.2.cell 0; replace hTW := Lib.hid hTW)
                | (go_at_call 56; refine (hTo.out _ hTW.out).mono ?_; rintro e W2 ⟨rfl, hW2⟩; have hTW2 := hTW.out.stay hW2; replace hTW2 := Lib.hid hTW2))
              go_ret
              exact ⟨ret_int hfin2.out.symm, hTW2.out.1⟩
        · obtain rfl : j = l.length := by omega
          have hfin2 : scC l = 0 := by rw [hfin.out]; exact fstC_zero hz.out
          replace hfin2 := Lib.hid hfin2
          clear hB
          go_wp2
          go_ret
          exact ⟨ret_int hfin2.out.symm, hb⟩
end nmW
end Go.Proofs.YtmadafejenjkcaaDoor
