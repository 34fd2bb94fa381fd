/- The document's reader: the errors of a name and of an attribute. -/
import Derived.Test.YtmadafejenjkcaaDoorH8
namespace Go.Proofs.YtmadafejenjkcaaDoor
open Go.RowKit Go.Deep
set_option linter.unusedVariables false
set_option linter.unusedSimpArgs false

theorem wd_true {T : ByteArray} {L : List Pc} {i : Nat} (h : wdP T L i = true) : ∃ p, L[i]? = some p ∧ p.w = true ∧ digN (chr T p.a) = false := by
  unfold wdP at h
  cases hp : L[i]? with
  | none => rw [hp] at h; cases h
  | some p =>
    rw [hp] at h
    simp only [Bool.and_eq_true, Bool.not_eq_true'] at h
    exact ⟨p, rfl, h.1, h.2⟩
theorem hasN_at {ts : List Td} {s : ByteArray} {j : Nat} {t : Td} (h : ts[j]? = some t) (he : t.name = s) : hasN ts s = true := List.any_eq_true.2 ⟨t, List.mem_of_getElem? h, decide_eq_true he⟩
theorem hasN_none {ts : List Td} {s : ByteArray} (h : ∀ (i : Nat) t, ts[i]? = some t → t.name ≠ s) : hasN ts s = false := by
  unfold hasN
  rw [List.any_eq_false]
  intro a ha
  obtain ⟨i, hi⟩ := List.getElem?_of_mem ha
  simpa using h i a hi
namespace hbW
open nmW
set_option maxHeartbeats 1600000 in
theorem named_k (T : ByteArray) (A A2 : Option Addr) (c c2 : Nat) (F F2 : Nat → Prop) (L : List Pc) (ts : List Td) (hl : L.length ≤ 1048576) (hL : ∀ p ∈ L, PcOk T p) (ht : ts.length ≤ 1048576) (i : Nat) (w : World) (hK : KwIs w)
    (r : Rd w F (.slice A L.length c) (.sl L.length (L.flatMap pcD))) (r2 : Rd w F2 (.slice A2 ts.length c2) (.sl ts.length (ts.flatMap tdD))) :
    Calls Tryd.prog 72 #[.string T, .slice A L.length c, .int .i64 i, .slice A2 ts.length c2] w fun e w' => e = .returned (.int .i64 (nmR T L i ts)) ∧ Below w.heap.size w w' := by
  have k1 := Lib.hid (wordAt_k T A c F L hl hL i w r)
  have k2 := Lib.hid refIsName_k
  cases hwd : wdP T L i with
  | false =>
    have hb : nmR T L i ts = 21 := by unfold nmR; rw [if_pos hwd]
    rw [hb]
    replace hwd := Lib.hid hwd
    clear hb r r2 hL hK
    go_enter Tryd.func72, Tryd.ntmps72
    go_wp2_with (go_at_call 97; refine k1.out.mono ?_; rw [hwd.out]; rintro e W ⟨rfl, hW⟩; obtain rfl := hW.symm)
    go_ret
    exact ⟨rfl, Below.refl _ _⟩
  | true =>
    obtain ⟨p, hp, hpw, hpd⟩ := wd_true hwd
    have hlt := (List.getElem?_eq_some_iff.1 hp).1
    obtain ⟨b, off, rfl, a0, a1, a2⟩ := pc_at r hp
    have ho := hL p (List.mem_of_getElem? hp)
    have hsl := sl_of ho
    have hb : nmR T L i ts = nameC ts (T.extract p.a p.e) := by unfold nmR wtP; rw [if_neg (by rw [hwd]; decide), hp]
    have hd0 : dig0 (T.extract p.a p.e) = false := by rw [ho.dig, hpd]
    rw [hb]
    generalize T.extract p.a p.e = X at hsl hb hd0
    have g0 : (0 : Int) ≤ (i : Int) := by omega
    have g1 : (i : Int) < L.length := by omega
    replace hp := Lib.hid hp
    replace ho := Lib.hid ho
    replace hwd := Lib.hid hwd
    have hKn : ∀ n, KwIs (w.drewN n) := fun n => hK.stay (below_drewN (Below.refl _ _) _)
    have hrn : ∀ n, Rd (w.drewN n) F2 (.slice A2 ts.length c2) (.sl ts.length (ts.flatMap tdD)) := fun n => r2.drewN n
    replace hKn := Lib.hid hKn
    replace hrn := Lib.hid hrn
    replace hd0 := Lib.hid hd0
    clear hb r hL hK r2 hpd hpw
    generalize hC : nameC ts X = C
    replace hC := Lib.hid hC
    cases hi : isNm X with
    | false =>
      obtain rfl : C = 22 := by rw [← hC.out]; unfold nameC; rw [hd0.out, hi]; rfl
      replace hi := Lib.hid hi
      go_enter Tryd.func72, Tryd.ntmps72
      go_upto_region 3 with (go_at_call 97; refine k1.out.mono ?_; rw [hwd.out]; rintro e W ⟨rfl, hW⟩; obtain rfl := hW.symm)
      go_quiet (fail)
      go_wp2_with (go_at_call 90; refine (k2.out _ _ (hKn.out _)).mono ?_; rw [hi.out]; rintro e W ⟨rfl, hW⟩; obtain rfl := hW.symm)
      go_ret
      exact ⟨rfl, below_drewN (Below.refl _ _) _⟩
    | true =>
      have hi' := Lib.hid hi
      go_enter Tryd.func72, Tryd.ntmps72
      go_upto_region 3 with (go_at_call 97; refine k1.out.mono ?_; rw [hwd.out]; rintro e W ⟨rfl, hW⟩; obtain rfl := hW.symm)
      clear hi
      go_quiet (fail)
      go_wp2_with (go_at_call 90; refine (k2.out _ _ (hKn.out _)).mono ?_; rw [hi'.out]; rintro e W ⟨rfl, hW⟩; obtain rfl := hW.symm)
      go_loopw [10] (fun y wr => ∃ j : Nat, j ≤ ts.length ∧ y = .int .i64 j ∧ (∃ n, wr = w.drewN n) ∧ (∀ (i : Nat) t, ts[i]? = some t → i < j → t.name ≠ X)) (fun y _ => ts.length - (intOf y).toNat)
      case atStart => exact ⟨0, Nat.zero_le _, rfl, ⟨_, rfl⟩, fun i t h1 h2 => by omega⟩
      case round =>
        obtain ⟨j, hj, rfl, ⟨n, hwn⟩, hn⟩ := hrel
        have rr := hrn.out n
        rw [← hwn] at rr
        replace hwn := Lib.hid hwn
        replace hn := Lib.hid hn
        by_cases hjl : j < ts.length
        · obtain ⟨t, htj⟩ := getx hjl
          obtain ⟨g, off2, rfl, _, ha, _⟩ := rr.rowv (m := 2) (fun _ => rfl) htj (by omega)
          have q0 : wr.cell? ⟨g, off2 + j * 2, none⟩ = some (.string t.name) := ha 0 _ rfl
          have g2 : (0 : Int) ≤ (j : Int) := by omega
          have g3 : (j : Int) < ts.length := by omega
          replace htj := Lib.hid htj
          clear ha rr
          by_cases hu : t.name = X
          · have hu' : (t.name.toList == X.toList) = true := by rw [beq_bytes]; exact decide_eq_true hu
            obtain rfl : C = 25 := by rw [← hC.out]; unfold nameC; rw [hd0.out, hi'.out, hasN_at htj.out hu]; rfl
            replace hu := Lib.hid hu
            go_wp2
            go_ret
            exact ⟨rfl, by rw [hwn.out]; exact below_drewN (Below.refl _ _) _⟩
          · have hu' : (t.name.toList == X.toList) = false := by rw [beq_bytes]; exact decide_eq_false hu
            replace hu := Lib.hid hu
            go_wp2
            go_roundw
            case rel =>
              refine ⟨j + 1, by omega, by go_num, ⟨n, hwn.out⟩, fun i t' h h3 => ?_⟩
              by_cases hij : i = j
              · subst hij
                obtain rfl : t = t' := by have := htj.out; rw [h] at this; exact (Option.some.inj this).symm
                exact hu.out
              · exact hn.out i t' h (by omega)
            case measure => simp [intOf]; omega
        · have g2 : ¬ (j : Int) < ts.length := by omega
          have g3 : decide (j < ts.length) = false := decide_eq_false hjl
          obtain rfl : C = 0 := by
            rw [← hC.out]; unfold nameC; rw [hd0.out, hi'.out, hasN_none fun i t h => hn.out i t h (by have := (List.getElem?_eq_some_iff.1 h).1; omega)]; rfl
          clear rr
          go_wp2
          go_ret
          exact ⟨rfl, by rw [hwn.out]; exact below_drewN (Below.refl _ _) _⟩

set_option maxHeartbeats 1600000 in
theorem attribute_k (T : ByteArray) (A A2 : Option Addr) (c c2 : Nat) (F F2 : Nat → Prop) (L : List Pc) (l : List ByteArray) (hl : L.length ≤ 1048576) (hL : ∀ p ∈ L, PcOk T p) (ht : l.length ≤ 8) (i : Nat) (w : World) (hK : KwIs w)
    (r : Rd w F (.slice A L.length c) (.sl L.length (L.flatMap pcD))) (r2 : Rd w F2 (.slice A2 l.length c2) (.sl l.length (l.flatMap strD))) :
    Calls Tryd.prog 73 #[.string T, .slice A L.length c, .int .i64 i, .slice A2 l.length c2] w fun e w' => e = .returned (.int .i64 (atR T L i l)) ∧ Below w.heap.size w w' := by
  have k1 := Lib.hid (wordAt_k T A c F L hl hL i w r)
  have k2 := Lib.hid refIsName_k
  cases hwd : wdP T L i with
  | false =>
    have hb : atR T L i l = 21 := by unfold atR; rw [if_pos hwd]
    rw [hb]
    replace hwd := Lib.hid hwd
    clear hb r r2 hL hK
    go_enter Tryd.func73, Tryd.ntmps73
    go_wp2_with (go_at_call 97; refine k1.out.mono ?_; rw [hwd.out]; rintro e W ⟨rfl, hW⟩; obtain rfl := hW.symm)
    go_ret
    exact ⟨rfl, Below.refl _ _⟩
  | true =>
    obtain ⟨p, hp, hpw, hpd⟩ := wd_true hwd
    have hlt := (List.getElem?_eq_some_iff.1 hp).1
    obtain ⟨b, off, rfl, a0, a1, a2⟩ := pc_at r hp
    have ho := hL p (List.mem_of_getElem? hp)
    have hsl := sl_of ho
    have hb : atR T L i l = attrC l (T.extract p.a p.e) := by unfold atR wtP; rw [if_neg (by rw [hwd]; decide), hp]
    have hd0 : dig0 (T.extract p.a p.e) = false := by rw [ho.dig, hpd]
    rw [hb]
    generalize T.extract p.a p.e = X at hsl hb hd0
    have g0 : (0 : Int) ≤ (i : Int) := by omega
    have g1 : (i : Int) < L.length := by omega
    replace hp := Lib.hid hp
    replace ho := Lib.hid ho
    replace hwd := Lib.hid hwd
    have hKn : ∀ n, KwIs (w.drewN n) := fun n => hK.stay (below_drewN (Below.refl _ _) _)
    have k3 : ∀ n, Calls Tryd.prog 91 #[.slice A2 l.length c2, .string X] (w.drewN n) fun e w' => e = .returned (.bool (hasA l X)) ∧ w' = w.drewN n := fun n => in_k A2 c2 F2 l X (by omega) _ (r2.drewN n)
    replace hKn := Lib.hid hKn
    replace k3 := Lib.hid k3
    clear hb r hL hK r2 hpd hpw
    obtain ⟨C, hC⟩ : ∃ C, C = attrC l X := ⟨_, rfl⟩
    rw [← hC]
    by_cases h8 : l.length = 8
    · have hc : C = 24 := by rw [hC]; unfold attrC; rw [hd0, if_neg (show ¬ (false = true) from by decide), if_pos h8]
      subst hc
      have e8 : ¬ ((l.length : Int) < 8) := by omega
      have e9 : (8 : Int) ≤ (l.length : Int) := by omega
      clear hC h8
      go_enter Tryd.func73, Tryd.ntmps73
      go_upto_region 3 with (go_at_call 97; refine k1.out.mono ?_; rw [hwd.out]; rintro e W ⟨rfl, hW⟩; obtain rfl := hW.symm)
      go_quiet (fail)
      go_wp2
      go_ret
      exact ⟨rfl, below_drewN (Below.refl _ _) _⟩
    have e9 : ¬ (8 : Int) ≤ (l.length : Int) := by omega
    cases hi : isNm X with
    | false =>
      have hc : C = 22 := by rw [hC]; unfold attrC; rw [hd0, if_neg (show ¬ (false = true) from by decide), if_neg h8, if_pos (.inl hi)]
      subst hc
      replace hi := Lib.hid hi
      clear hC
      go_enter Tryd.func73, Tryd.ntmps73
      go_upto_region 3 with (go_at_call 97; refine k1.out.mono ?_; rw [hwd.out]; rintro e W ⟨rfl, hW⟩; obtain rfl := hW.symm)
      go_quiet (fail)
      go_wp2_with (go_at_call 90; refine (k2.out _ _ (hKn.out _)).mono ?_; rw [hi.out]; rintro e W ⟨rfl, hW⟩; obtain rfl := hW.symm)
      go_ret
      exact ⟨rfl, below_drewN (Below.refl _ _) _⟩
    | true =>
      by_cases hts : X = tTs
      · have hc : C = 22 := by rw [hC]; unfold attrC; rw [hd0, if_neg (show ¬ (false = true) from by decide), if_neg h8, if_pos (.inr hts)]
        have hu' : (X.toList == ([116, 115] : List UInt8)) = true := by
          have := beq_bytes X tTs
          rw [show tTs.toList = [116, 115] by rw [ByteArray.toList_eq]; rfl] at this
          rw [this]; exact decide_eq_true hts
        subst hc
        replace hi := Lib.hid hi
        replace hts := Lib.hid hts
        clear hC
        go_enter Tryd.func73, Tryd.ntmps73
        go_upto_region 3 with (go_at_call 97; refine k1.out.mono ?_; rw [hwd.out]; rintro e W ⟨rfl, hW⟩; obtain rfl := hW.symm)
        go_quiet (fail)
        go_wp2_with (go_at_call 90; refine (k2.out _ _ (hKn.out _)).mono ?_; rw [hi.out]; rintro e W ⟨rfl, hW⟩; obtain rfl := hW.symm)
        go_ret
        exact ⟨rfl, below_drewN (Below.refl _ _) _⟩
      · have hu' : (X.toList == ([116, 115] : List UInt8)) = false := by
          have := beq_bytes X tTs
          rw [show tTs.toList = [116, 115] by rw [ByteArray.toList_eq]; rfl] at this
          rw [this]; exact decide_eq_false hts
        have hc : C = if hasA l X = true then 25 else 0 := by
          rw [hC]; unfold attrC
          rw [hd0, if_neg (show ¬ (false = true) from by decide), if_neg h8, if_neg (by rintro (e | e); (rw [hi] at e; cases e); exact hts e)]
        replace hi := Lib.hid hi
        replace hts := Lib.hid hts
        clear hC
        cases hN : hasA l X with
        | true =>
          rw [hN] at hc
          simp only [if_true] at hc
          subst hc
          replace hN := Lib.hid hN
          go_enter Tryd.func73, Tryd.ntmps73
          go_upto_region 3 with (go_at_call 97; refine k1.out.mono ?_; rw [hwd.out]; rintro e W ⟨rfl, hW⟩; obtain rfl := hW.symm)
          go_quiet (fail)
          go_wp2_with first
            | (go_at_call 90; refine (k2.out _ _ (hKn.out _)).mono ?_; rw [hi.out]; rintro e W ⟨rfl, hW⟩; obtain rfl := hW.symm)
            | (go_at_call 91; refine (k3.out _).mono ?_; rw [hN.out]; rintro e W ⟨rfl, hW⟩; obtain rfl := hW.symm)
          go_ret
          exact ⟨rfl, below_drewN (Below.refl _ _) _⟩
        | false =>
          rw [hN] at hc
          simp only [Bool.false_eq_true, if_false] at hc
          subst hc
          replace hN := Lib.hid hN
          go_enter Tryd.func73, Tryd.ntmps73
          go_upto_region 3 with (go_at_call 97; refine k1.out.mono ?_; rw [hwd.out]; rintro e W ⟨rfl, hW⟩; obtain rfl := hW.symm)
          go_quiet (fail)
          go_wp2_with first
            | (go_at_call 90; refine (k2.out _ _ (hKn.out _)).mono ?_; rw [hi.out]; rintro e W ⟨rfl, hW⟩; obtain rfl := hW.symm)
            | (go_at_call 91; refine (k3.out _).mono ?_; rw [hN.out]; rintro e W ⟨rfl, hW⟩; obtain rfl := hW.symm)
          go_ret
          exact ⟨rfl, below_drewN (Below.refl _ _) _⟩
end hbW
end Go.Proofs.YtmadafejenjkcaaDoor
