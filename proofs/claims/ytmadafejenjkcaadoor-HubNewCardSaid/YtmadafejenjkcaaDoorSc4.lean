/- The document's CheckSchema answers the plain code. -/
import Derived.Test.YtmadafejenjkcaaDoorSc3
import Derived.Test.YtmadafejenjkcaaDoorOwn
import Derived.Deep.QuietTactic
import Derived.BigQuiet
namespace Go.Proofs.YtmadafejenjkcaaDoor
open Go.RowKit Go.Deep
set_option linter.unusedVariables false

theorem elStr : ElT Tryd.prog 32 9 1 16 := .of Tryd.underlying32 (by kernel_rfl) (by omega)
theorem elTd : ElT Tryd.prog 22 34 2 40 := .of Tryd.underlying22 (by kernel_rfl) (by omega)

/-- a world in which a type's check runs: the schema's box, the type's box -/
def TB (w wr : World) (v : Value) (n : ByteArray) (u : Value) : Prop :=
  Below w.heap.size w wr ∧ Blk wr w.heap.size 24 [v] ∧ Blk wr (w.heap.size + 1) 34 [.string n, u]
theorem TB.stay {w wr w2 : World} {v u : Value} {n : ByteArray} (h : TB w wr v n u) (hb : Below wr.heap.size wr w2) : TB w w2 v n u :=
  ⟨h.1.trans (hb.mono h.1.size), h.2.1.stay hb, h.2.2.stay hb⟩
theorem TB.drewN {w wr : World} {v u : Value} {n : ByteArray} (h : TB w wr v n u) (k : Nat) : TB w (wr.drewN k) v n u := h.stay (below_drewN (Below.refl _ _) k)
namespace nmW
set_option maxHeartbeats 800000 in
theorem checkType_k (A : Option Addr) (c : Nat) (F : Nat → Prop) (l : List Td) (i : Nat) (hi : i < l.length) (hl : SzT l) (w : World) (hK : KwIs w) (hF : ∀ b, F b → b < w.heap.size) (r : Rd w F (.slice A l.length c) (.sl l.length (l.flatMap tdD))) :
    Calls Tryd.prog 65 #[.agg #[.slice A l.length c], .int .i64 i] w fun e w' => e = .returned (.int .i64 (tyC l i)) ∧ Below w.heap.size w w' := by
  obtain ⟨t, ht⟩ := getx hi
  obtain ⟨hl1, hl2⟩ := hl
  obtain ⟨hs1, hs2, hs3⟩ := hl2 t (List.mem_of_getElem? ht)
  obtain ⟨b, off, rfl, hFb, hv, hsl⟩ := r.rowv (m := 2) (fun _ => rfl) ht (by omega)
  have a0 : w.cell? ⟨b, off + i * 2, none⟩ = some (.string t.name) := hv 0 _ rfl
  obtain ⟨A2, c2, a1, r2⟩ := hsl 1 _ _ rfl
  have g0 : (0 : Int) ≤ (i : Int) := by omega
  have g1 : (i : Int) < l.length := by omega
  have k1 := Lib.hid refIsName_k
  have hnm : (l.map (·.name))[i]? = some t.name := by rw [List.getElem?_map, ht]; rfl
  replace hnm := Lib.hid hnm
  replace hl2 := Lib.hid hl2
  replace ht := Lib.hid ht
  replace hF := Lib.hid hF
  replace hK := Lib.hid hK
  replace r := Lib.hid r
  replace r2 := Lib.hid r2
  replace hs3 := Lib.hid hs3
  clear hv hsl
  have hbB : b < w.heap.size := hF.out b hFb
  have hbN : ¬ b = w.heap.size := by omega
  obtain ⟨nm, hnmB⟩ : ∃ b, b = isNm t.name := ⟨_, rfl⟩
  replace hnmB := Lib.hid hnmB
  go_enter Tryd.func65, Tryd.ntmps65
  cases nm
  · go_wp2_with (go_at_call 90; refine (k1.out _ _ (hK.out.stay (((Below.refl _ _).alloc (Nat.le_refl _) _).alloc (by simp) _))).mono ?_; rw [← hnmB.out]; rintro e W ⟨rfl, hW⟩; obtain rfl := hW.symm)
    go_ret
    exact ⟨ret_int (tyC_22 ht.out hnmB.out.symm).symm, ((Below.refl _ _).alloc (Nat.le_refl _) _).alloc (by simp) _⟩
  · go_wp2_with (go_at_call 90; refine (k1.out _ _ (hK.out.stay (((Below.refl _ _).alloc (Nat.le_refl _) _).alloc (by simp) _))).mono ?_; rw [← hnmB.out]; rintro e W ⟨rfl, hW⟩; obtain rfl := hW.symm)
    have h0 : TB w ((w.alloc (.cells #[.slice (some ⟨b, off, none⟩) l.length c] 24)).alloc (.cells #[.string t.name, .slice A2 t.attrs.length c2] 34)) (.slice (some ⟨b, off, none⟩) l.length c) t.name (.slice A2 t.attrs.length c2) :=
      ⟨((Below.refl _ _).alloc (Nat.le_refl _) _).alloc (by simp) _, (Blk.new _ _ _).alloc _, Blk.new' (by simp)⟩
    clear a0 a1
    go_loopw [6] (fun x wr => ∃ j : Nat, j ≤ i ∧ x = .int .i64 j ∧ TB w wr (.slice (some ⟨b, off, none⟩) l.length c) t.name (.slice A2 t.attrs.length c2) ∧ Hid (∀ (p : Nat) a, (l.map (·.name))[p]? = some a → p < j → a ≠ t.name)) (fun x _ => i - (intOf x).toNat)
    case atStart => exact ⟨0, Nat.zero_le _, rfl, h0, fun p a _ h => by omega⟩
    case round =>
      clear h0
      obtain ⟨j, hj, rfl, h0, hp⟩ := hrel
      by_cases hlt : j < i
      · obtain ⟨x, hx⟩ := getx (l := l) (i := j) (by omega)
        obtain ⟨b', off', e, _, ha, _⟩ := (r.out.under h0.1 hF.out).rowv (m := 2) (fun _ => rfl) hx (by omega)
        injection e with e
        injection e with e1 e2
        subst e1 e2
        have a0 : wr.cell? ⟨b, off + j * 2, none⟩ = some (.string x.name) := ha 0 _ rfl
        have z0 : wr.cell? ⟨w.heap.size, 0, none⟩ = some (.slice (some ⟨b, off, none⟩) l.length c) := h0.2.1.cell 0
        have y0 : wr.cell? ⟨w.heap.size + 1, 0, none⟩ = some (.string t.name) := h0.2.2.cell 0
        have g2 : (0 : Int) ≤ (j : Int) := by omega
        have g3 : (j : Int) < l.length := by omega
        have g4 : (j : Int) < i := by omega
        have hxn : (l.map (·.name))[j]? = some x.name := by rw [List.getElem?_map, hx]; rfl
        replace hxn := Lib.hid hxn
        replace h0 := Lib.hid h0
        clear ha hx
        by_cases hu : x.name = t.name
        · have hu' : (x.name.toList == t.name.toList) = true := by rw [beq_bytes]; exact decide_eq_true hu
          have hfin : tyC l i = 25 := tyC_25 ht.out hnmB.out.symm (placeI_ne (by rw [hxn.out, hu]) hlt)
          replace hfin := Lib.hid hfin
          clear hu
          go_wp2
          go_quiet (fail)
          go_wp2
          go_ret
          exact ⟨ret_int hfin.out.symm, (h0.out.drewN _).1⟩
        · have hu' : (x.name.toList == t.name.toList) = false := by rw [beq_bytes]; exact decide_eq_false hu
          replace hu := Lib.hid hu
          go_wp2
          go_quiet (fail)
          go_wp2
          go_roundw
          case rel =>
            refine ⟨j + 1, by omega, by go_num, h0.out.drewN _, fun p a h h3 => ?_⟩
            by_cases hij : p = j
            · subst hij
              obtain rfl : x.name = a := by have := hxn.out; rw [h] at this; exact (Option.some.inj this).symm
              exact hu.out
            · exact hp.out p a h (by omega)
          case measure => simp [intOf]; omega
      · obtain rfl : j = i := by omega
        have hpl : placeI (l.map (·.name)) t.name = j := placeI_at hnm.out hp.out
        have y1 : wr.cell? ⟨w.heap.size + 1, 1, none⟩ = some (.slice A2 t.attrs.length c2) := h0.2.2.cell 1
        replace hpl := Lib.hid hpl
        have h0' := Lib.hid h0
        clear h0
        by_cases h8 : (8 : Int) < t.attrs.length
        · have hfin : tyC l j = 24 := tyC_24 ht.out hnmB.out.symm hpl.out (by omega)
          replace hfin := Lib.hid hfin
          go_wp2
          go_ret
          exact ⟨ret_int hfin.out.symm, h0'.out.1⟩
        · have hfin : tyC l j = fstC (atC t.attrs) t.attrs.length := tyC_at ht.out hnmB.out.symm hpl.out (by omega)
          replace hfin := Lib.hid hfin
          obtain ⟨w3, hw3⟩ : ∃ w3 : World, w3 = wr := ⟨_, rfl⟩
          subst hw3
          have k2 := Lib.hid in_k
          go_wp2
          clear y1
          go_loopw [7, 8] (fun v x wr => ∃ k : Nat, k ≤ t.attrs.length ∧ x = .int .i64 k ∧ TB w wr (.slice (some ⟨b, off, none⟩) l.length c) t.name (.slice A2 t.attrs.length c2) ∧ OL wr (w.heap.size + 1 + 1) (fun _ => False) 9 1 v k ((t.attrs.take k).flatMap strD) ∧ Hid (∀ p, p < k → atC t.attrs p = 0)) (fun _ x _ => t.attrs.length - (intOf x).toNat)
          case atStart => exact ⟨0, Nat.zero_le _, rfl, h0'.out, .nil _ _ _ _ _, fun p h => by omega⟩
          case round =>
            clear h0'
            obtain ⟨k, hk, rfl, h0, hO, hz⟩ := hrel
            have y1 : wr.cell? ⟨w.heap.size + 1, 1, none⟩ = some (.slice A2 t.attrs.length c2) := h0.2.2.cell 1
            by_cases hlt : k < t.attrs.length
            · obtain ⟨x, hx⟩ := getx hlt
              obtain ⟨b2, off2, rfl, _, ha, _⟩ := (r2.out.under h0.1 hF.out).rowv (m := 1) (fun _ => rfl) hx (by omega)
              have a0 : wr.cell? ⟨b2, off2 + k, none⟩ = some (.string x) := by have := ha 0 _ rfl; rwa [Nat.mul_one, Nat.add_zero] at this
              have g2 : (0 : Int) ≤ (k : Int) := by omega
              have g3 : (k : Int) < t.attrs.length := by omega
              replace hx := Lib.hid hx
              clear ha
              obtain ⟨nx, hnx⟩ : ∃ b, b = isNm x := ⟨_, rfl⟩
              replace hnx := Lib.hid hnx
              have hKr := Lib.hid (hK.out.stay h0.1)
              cases nx
              · have hc : atC t.attrs k = 22 := atC_22 hx.out (.inl hnx.out.symm)
                have hfin2 : tyC l j = 22 := by rw [hfin.out, fstC_at hlt (by rw [hc]; omega) hz.out, hc]
                replace hfin2 := Lib.hid hfin2
                replace h0 := Lib.hid h0
                clear hc hO
                go_wp2_with (go_at_call 90; refine (k1.out _ _ hKr.out).mono ?_; rw [← hnx.out]; rintro e W ⟨rfl, hW⟩; obtain rfl := hW.symm)
                go_ret
                exact ⟨ret_int hfin2.out.symm, h0.out.1⟩
              · by_cases hts : x = tsB
                · have hc : atC t.attrs k = 22 := atC_22 hx.out (.inr hts)
                  have hfin2 : tyC l j = 22 := by rw [hfin.out, fstC_at hlt (by rw [hc]; omega) hz.out, hc]
                  have hts' := ts_true hts
                  replace hfin2 := Lib.hid hfin2
                  replace h0 := Lib.hid h0
                  clear hc hO
                  replace hts := Lib.hid hts
                  go_wp2_with (go_at_call 90; refine (k1.out _ _ hKr.out).mono ?_; rw [← hnx.out]; rintro e W ⟨rfl, hW⟩; obtain rfl := hW.symm)
                  go_ret
                  exact ⟨ret_int hfin2.out.symm, h0.out.1⟩
                · have hts' := ts_false hts
                  have rH := hO.rd (G := fun _ => True) (fun _ _ _ => trivial) (fun _ _ _ => trivial)
                  obtain ⟨A3, c3, rfl⟩ := hO.form
                  have hlen : (t.attrs.take k).length = k := by rw [List.length_take]; omega
                  have k2' : Calls Tryd.prog 91 #[.slice A3 k c3, .string x] wr fun e w' => e = .returned (.bool (decide (placeI t.attrs x ≠ k))) ∧ w' = wr := by
                    rw [← any_take hx.out]
                    have := k2.out A3 c3 (fun _ => True) (t.attrs.take k) x (by omega) wr (by rw [hlen]; exact rH)
                    rwa [hlen] at this
                  replace k2' := Lib.hid k2'
                  by_cases hpx : placeI t.attrs x = k
                  · have hd : decide (placeI t.attrs x ≠ (k : Int)) = false := decide_eq_false (fun h => h hpx)
                    have hc : atC t.attrs k = 0 := atC_0 hx.out hnx.out.symm hts hpx
                    have hfm : (t.attrs.take (k + 1)).flatMap strD = (t.attrs.take k).flatMap strD ++ strD x := by rw [List.take_add_one, hx.out]; simp
                    have hsz := h0.2.2.lt
                    have hrow : ∀ q, some q = (Value.slice A3 k c3).ownBlock → w.heap.size + 1 + 1 ≤ q := fun q hq => (hO.lt q hq.symm).1
                    replace hrow := Lib.hid hrow
                    replace hd := Lib.hid hd
                    replace hc := Lib.hid hc
                    replace hfm := Lib.hid hfm
                    replace hts := Lib.hid hts
                    replace hpx := Lib.hid hpx
                    replace rH := Lib.hid rH
                    have h0' := Lib.hid h0
                    clear h0
                    go_wp2_with (first
                      | (go_at_call 90; refine (k1.out _ _ hKr.out).mono ?_; rw [← hnx.out]; rintro e W ⟨rfl, hW⟩; obtain rfl := hW.symm)
                      | (go_at_call 91; refine k2'.out.mono ?_; rw [hd.out]; rintro e W ⟨rfl, hW⟩; obtain rfl := hW.symm)
                      | (at_builtin; refine wpList_app rfl (.tmp 65) (.tmp 71) _ rfl (m := 1) (news := strD x) elStr (hO.alloc _) rfl rfl (Src.lit ⟨.v _ rfl, trivial⟩) rfl (by omega) (by omega) (by simp; omega) ?_; intro v' w' hO' hg ha))
                    go_roundw
                    case rel =>
                      refine ⟨k + 1, by omega, by go_num, ?_, by rw [hfm.out]; exact hO', fun p hp2 => ?_⟩
                      · refine ⟨(h0'.out.1.alloc h0'.out.1.size _).grown hg (by simp; omega) (fun q hq => by have := hrow.out q hq.symm; omega), (h0'.out.2.1.alloc _).grown hg (fun hq => ?_), (h0'.out.2.2.alloc _).grown hg (fun hq => ?_)⟩
                        · have := hrow.out _ hq; omega
                        · have := hrow.out _ hq; omega
                      · by_cases e : p = k
                        · subst e; exact hc.out
                        · exact hz.out p (by omega)
                    case measure => simp [intOf]; omega
                  · have hd : decide (placeI t.attrs x ≠ (k : Int)) = true := decide_eq_true hpx
                    have hc : atC t.attrs k = 25 := atC_25 hx.out hnx.out.symm hts hpx
                    have hfin2 : tyC l j = 25 := by rw [hfin.out, fstC_at hlt (by rw [hc]; omega) hz.out, hc]
                    replace hd := Lib.hid hd
                    replace hfin2 := Lib.hid hfin2
                    replace hts := Lib.hid hts
                    replace hpx := Lib.hid hpx
                    replace h0 := Lib.hid h0
                    clear hc hO rH
                    go_wp2_with (first
                      | (go_at_call 90; refine (k1.out _ _ hKr.out).mono ?_; rw [← hnx.out]; rintro e W ⟨rfl, hW⟩; obtain rfl := hW.symm)
                      | (go_at_call 91; refine k2'.out.mono ?_; rw [hd.out]; rintro e W ⟨rfl, hW⟩; obtain rfl := hW.symm))
                    go_ret
                    exact ⟨ret_int hfin2.out.symm, h0.out.1⟩
            · obtain rfl : k = t.attrs.length := by omega
              have hfin2 : tyC l j = 0 := by rw [hfin.out]; exact fstC_zero hz.out
              replace hfin2 := Lib.hid hfin2
              replace h0 := Lib.hid h0
              clear hO
              go_wp2
              go_ret
              exact ⟨ret_int hfin2.out.symm, h0.out.1⟩

set_option maxHeartbeats 400000 in
theorem rCheckSchema_k (A : Option Addr) (c : Nat) (F : Nat → Prop) (l : List Td) (hl : SzT l) (w : World) (hK : KwIs w) (hF : ∀ b, F b → b < w.heap.size) (r : Rd w F (.slice A l.length c) (.sl l.length (l.flatMap tdD))) :
    Calls Tryd.prog 38 #[.agg #[.slice A l.length c]] w fun e w' => e = .returned (.int .i64 (scC l)) ∧ Below w.heap.size w w' := by
  have k1 := Lib.hid checkType_k
  have hl1 := hl.1
  replace hl := Lib.hid hl
  replace hF := Lib.hid hF
  replace hK := Lib.hid hK
  replace r := Lib.hid r
  by_cases g1 : (l.length : Int) < 1
  · have hfin := Lib.hid (scC_23 (l := l) (.inl (by omega)))
    go_enter Tryd.func38, Tryd.ntmps38
    go_wp2
    go_ret
    exact ⟨ret_int hfin.out.symm, (Below.refl _ _).alloc (Nat.le_refl _) _⟩
  · by_cases g2 : (16 : Int) < l.length
    · have hfin := Lib.hid (scC_23 (l := l) (.inr (by omega)))
      go_enter Tryd.func38, Tryd.ntmps38
      go_wp2
      go_ret
      exact ⟨ret_int hfin.out.symm, (Below.refl _ _).alloc (Nat.le_refl _) _⟩
    · have hfin := Lib.hid (scC_ty (l := l) (by omega) (by omega))
      go_enter Tryd.func38, Tryd.ntmps38
      go_wp2
      go_loopw [3, 4] (fun x _ wr => ∃ j : Nat, j ≤ l.length ∧ x = .int .i64 j ∧ Below w.heap.size w wr ∧ Blk wr w.heap.size 24 [.slice A l.length c] ∧ Hid (∀ p, p < j → tyC l p = 0)) (fun x _ _ => l.length - (intOf x).toNat)
      case atStart => exact ⟨0, Nat.zero_le _, rfl, (Below.refl _ _).alloc (Nat.le_refl _) _, Blk.new _ _ _, fun p h => by omega⟩
      case round =>
        obtain ⟨j, hj, rfl, hb, hB, hz⟩ := hrel
        have z0 : wr.cell? ⟨w.heap.size, 0, none⟩ = some (.slice A l.length c) := hB.cell 0
        replace hB := Lib.hid hB
        by_cases hlt : j < l.length
        · have k2 := k1.out A c F l j hlt hl.out wr (hK.out.stay hb) (fun b h => Nat.lt_of_lt_of_le (hF.out b h) hb.size) (r.out.under hb hF.out)
          obtain ⟨q, hq⟩ : ∃ q, q = tyC l j := ⟨_, rfl⟩
          rw [← hq] at k2
          replace k2 := Lib.hid k2
          replace hb := Lib.hid hb
          by_cases hq0 : q = 0
          · subst hq0
            replace hq := Lib.hid hq
            go_wp2_with (go_at_call 65; refine k2.out.mono ?_; rintro e w2 ⟨rfl, hb2⟩)
            go_roundw
            case rel =>
              refine ⟨j + 1, by omega, by go_num, hb.out.trans (hb2.mono hb.out.size), hB.out.stay hb2, fun p hp => ?_⟩
              by_cases e : p = j
              · subst e; exact hq.out.symm
              · exact hz.out p (by omega)
            case measure => simp [intOf]; omega
          · have hfin2 : scC l = q := by rw [hfin.out, fstC_at hlt (by rw [← hq]; exact hq0) hz.out, hq]
            have hq0' : (q == 0) = false := by simpa using hq0
            replace hq := Lib.hid hq
            replace hfin2 := Lib.hid hfin2
            go_wp2_with (go_at_call 65; refine k2.out.mono ?_; rintro e w2 ⟨rfl, hb2⟩)
            go_ret
            exact ⟨ret_int hfin2.out.symm, hb.out.trans (hb2.mono hb.out.size)⟩
        · obtain rfl : j = l.length := by omega
          have hfin2 : scC l = 0 := by rw [hfin.out]; exact fstC_zero hz.out
          replace hfin2 := Lib.hid hfin2
          go_wp2
          go_ret
          exact ⟨ret_int hfin2.out.symm, hb⟩
end nmW
end Go.Proofs.YtmadafejenjkcaaDoor
