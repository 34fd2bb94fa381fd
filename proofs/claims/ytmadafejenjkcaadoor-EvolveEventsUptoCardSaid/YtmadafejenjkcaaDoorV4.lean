/- The document's answer for changed schemas: what a change does to the attributes of its type. -/
import Derived.Test.YtmadafejenjkcaaDoorV3
namespace Go.Proofs.YtmadafejenjkcaaDoor
open Go.RowKit Go.Deep
set_option linter.unusedVariables false

def cgC (c : Cg) (B : Option Addr) (d : Nat) : List Value := [.int .i64 c.kd, .string c.ty, .string c.at_, .string c.nm, .slice B c.ats.length d, .int .i64 c.n]
def AtPost (l : List Fd) (c : Cg) (w : World) (e : Ending) (w' : World) : Prop := ∃ v b, e = .returned (.tuple #[v, .bool b]) ∧
  (∀ fs, chF l c = some fs → b = true ∧ OL w' w.heap.size (fun _ => False) 77 3 v fs.length (fs.flatMap fdD)) ∧ (chF l c = none → b = false) ∧ Below w.heap.size w w'
theorem AtPost.mk_some {l fs : List Fd} {c : Cg} {w w' : World} {v : Value} (h : chF l c = some fs) (hO : OL w' w.heap.size (fun _ => False) 77 3 v fs.length (fs.flatMap fdD)) (hb : Below w.heap.size w w') : AtPost l c w (.returned (.tuple #[v, .bool true])) w' :=
  ⟨v, true, rfl, fun fs' h' => by rw [h] at h'; injection h' with h'; subst h'; exact ⟨rfl, hO⟩, fun h' => (by rw [h] at h'; cases h'), hb⟩
theorem AtPost.mk_none {l : List Fd} {c : Cg} {w w' : World} {v : Value} (h : chF l c = none) (hb : Below w.heap.size w w') : AtPost l c w (.returned (.tuple #[v, .bool false])) w' :=
  ⟨v, false, rfl, fun fs' h' => (by rw [h] at h'; cases h'), fun _ => rfl, hb⟩
theorem mod_set {α : Type} {l : List α} {k : Nat} {x : α} (h : l[k]? = some x) (f : α → α) : l.modify k f = l.set k (f x) := by
  apply List.ext_getElem?
  intro i
  rw [List.getElem?_modify, List.getElem?_set]
  have hk' := (List.getElem?_eq_some_iff.1 h).1
  by_cases hk : k = i
  · subst hk
    have e : l[k] = x := by rw [List.getElem?_eq_getElem hk'] at h; exact Option.some.inj h
    simp [hk', e]
  · simp [hk]
theorem fd_set (l : List Fd) : ∀ (k : Nat) (x : Fd) (s : ByteArray), l[k]? = some x → (l.flatMap fdD).set (k * 3) (.v (.string s)) = (l.set k { x with nm := s }).flatMap fdD := by
  induction l with
  | nil => intro k x s h; simp at h
  | cons a l ih =>
    intro k x s h
    cases k with
    | zero =>
      simp only [List.getElem?_cons_zero, Option.some.injEq] at h
      subst h
      rfl
    | succ k =>
      simp only [List.getElem?_cons_succ] at h
      rw [List.set_cons_succ, List.flatMap_cons, List.flatMap_cons, ← ih k x s h, List.set_append, show (fdD a).length = 3 from rfl, if_neg (by omega), show (k + 1) * 3 - 3 = k * 3 by omega]

theorem AtPost.mk_no {l : List Fd} {c : Cg} {w w' : World} {v : Value} {b : Bool} (h : chF l c = none) (hb : Below w.heap.size w w') (hf : b = false) : AtPost l c w (.returned (.tuple #[v, .bool b])) w' := by subst hf; exact AtPost.mk_none h hb
namespace evW
open nmW
set_option maxRecDepth 100000 in
set_option maxHeartbeats 3000000 in
theorem attrs_k (A B : Option Addr) (ca d : Nat) (F : Nat → Prop) (l : List Fd) (c : Cg) (hk4 : 4 ≤ c.kd) (hk7 : c.kd ≤ 7) (hl : l.length ≤ 1048576) (w : World) (hF : ∀ b, F b → b < w.heap.size) (r : Rd w F (.slice A l.length ca) (.sl l.length (l.flatMap fdD))) :
    Calls Tryd.prog 67 #[.slice A l.length ca, .agg #[.int .i64 c.kd, .string c.ty, .string c.at_, .string c.nm, .slice B c.ats.length d, .int .i64 c.n]] w (AtPost l c w) := by
  have ka : ∀ W, Below w.heap.size w W → Calls Tryd.prog 92 #[.slice A l.length ca, .string c.at_] W fun e w' => e = .returned (.int .i64 (optI (flAt l c.at_))) ∧ w' = W := fun W hW => attrAt_k A ca F l c.at_ hl W (r.under hW hF)
  have kw : ∀ W k, Below w.heap.size w W → Calls Tryd.prog 93 #[.slice A l.length ca, .int .i64 ((k : Nat) : Int)] W fun e w' => ∃ v, e = .returned v ∧ OL w' W.heap.size (fun _ => False) 77 3 v (l.eraseIdx k).length ((l.eraseIdx k).flatMap fdD) ∧ Below W.heap.size W w' := fun W k hW => without_k A ca F l k hl W (fun b h => Nat.lt_of_lt_of_le (hF b h) hW.size) (r.under hW hF)
  have km : ∀ W k x, l[k]? = some x → Below w.heap.size w W → Calls Tryd.prog 94 #[.slice A l.length ca, .int .i64 ((k : Nat) : Int), .int .i64 c.n] W (MvPost l k c.n W) := fun W k x hx hW => moved_k A ca F l k x hx c.n hl W (fun b h => Nat.lt_of_lt_of_le (hF b h) hW.size) (r.under hW hF)
  replace r := Lib.hid r
  replace hF := Lib.hid hF
  replace ka := Lib.hid ka
  replace kw := Lib.hid kw
  replace km := Lib.hid km
  go_enter Tryd.func67, Tryd.ntmps67
  go_wp2
  go_loopw [6, 7] (fun v x wr => ∃ j : Nat, j ≤ l.length ∧ x = .int .i64 j ∧ OL wr (w.heap.size + 1) (fun _ => False) 77 3 v j ((l.take j).flatMap fdD) ∧ Blk wr w.heap.size 60 (cgC c B d) ∧ Below w.heap.size w wr) (fun _ x _ => l.length - (intOf x).toNat)
  case atStart => exact ⟨0, Nat.zero_le _, rfl, .nil _ _ _ _ _, Blk.new _ _ _, (Below.refl _ _).alloc (Nat.le_refl _) _⟩
  case round =>
    obtain ⟨j, hj, rfl, hO, hX, hB⟩ := hrel
    have hsz := hX.lt
    by_cases hlt : j < l.length
    · obtain ⟨e, he⟩ := getx hlt
      have g0 : (0 : Int) ≤ (j : Int) := by omega
      have g1 : (j : Int) < l.length := by omega
      obtain ⟨b, off, rfl, _, hv, _⟩ := (r.out.under hB hF.out).rowv (m := 3) (fun _ => rfl) he (by omega)
      have x0 : wr.cell? ⟨b, off + j * 3, none⟩ = some (.string e.nm) := hv 0 _ rfl
      have x1 : wr.cell? ⟨b, off + j * 3 + 1, none⟩ = some (.int .i64 e.fr) := hv 1 _ rfl
      have x2 : wr.cell? ⟨b, off + j * 3 + 2, none⟩ = some (.int .i64 e.fl) := hv 2 _ rfl
      have hfm : (l.take (j + 1)).flatMap fdD = (l.take j).flatMap fdD ++ fdD e := by rw [List.take_add_one, he]; simp
      replace hfm := Lib.hid hfm
      replace hX := Lib.hid hX
      clear hv he
      go_wp2_with (at_builtin; refine wpList_app rfl (.tmp 15) (.tmp 20) _ rfl (m := 1) (news := fdD e) elFd (hO.alloc (.cells ⟨fdV e⟩ 77)) rfl rfl (Src.lit (fdD_rd wr _ e)) rfl (by omega) (by omega) (by simp; omega) ?_; intro v' w1 hO1 hg1 ha1)
      go_roundw
      case rel => exact ⟨j + 1, by omega, by go_num, by rw [hfm.out]; exact hO1, (hX.out.alloc _).grown hg1 (fun e => by have := (hO.lt _ e.symm).1; omega), (hB.alloc hB.size (.cells ⟨fdV e⟩ 77)).grown hg1 (by simp; omega) (fun q hq => by have := (hO.lt q hq).1; omega)⟩
      case measure => simp [intOf]; omega
    · obtain rfl : j = l.length := by omega
      rw [List.take_length] at hO
      have z0 : wr.cell? ⟨w.heap.size, 0, none⟩ = some (.int .i64 c.kd) := hX.cell 0
      have z2 : wr.cell? ⟨w.heap.size, 2, none⟩ = some (.string c.at_) := hX.cell 2
      have z3 : wr.cell? ⟨w.heap.size, 3, none⟩ = some (.string c.nm) := hX.cell 3
      have z5 : wr.cell? ⟨w.heap.size, 5, none⟩ = some (.int .i64 c.n) := hX.cell 5
      obtain ⟨kd, ty, at_, nm, ats, n⟩ := c
      dsimp only at *
      replace hX := Lib.hid hX
      by_cases e4 : kd = 4
      · subst e4
        have hch : chF l ⟨4, ty, at_, nm, ats, n⟩ = some (l ++ [⟨nm, -1, n⟩]) := if_pos rfl
        replace hch := Lib.hid hch
        go_wp2_with (at_builtin; refine wpList_app rfl (.tmp 25) (.tmp 31) _ rfl (m := 1) (news := fdD ⟨nm, -1, n⟩) elFd (hO.alloc (.cells ⟨fdV ⟨nm, -1, n⟩⟩ 77)) rfl rfl (Src.lit (fdD_rd wr _ ⟨nm, -1, n⟩)) rfl (by omega) (by omega) (by simp; omega) ?_; intro v' w1 hO1 hg1 ha1)
        go_ret2
        refine AtPost.mk_some hch.out ?_ ((hB.alloc hB.size _).grown hg1 (by simp; omega) (fun q hq => by have := (hO.lt q hq).1; omega))
        have := hO1.base (B' := w.heap.size) (by omega)
        simpa using this
      · have d4 : ¬ (kd == 4) = true := by simpa using e4
        cases hfl : flAt l at_ with
        | none =>
          have hch : chF l ⟨kd, ty, at_, nm, ats, n⟩ = none := by unfold chF; rw [if_neg e4, hfl]
          rw [hfl, show optI none = -1 from rfl] at ka
          replace hch := Lib.hid hch
          go_wp2_with (go_at_call 92; refine (ka.out _ hB).mono ?_; rintro e w' ⟨rfl, rfl⟩)
          go_ret2
          exact AtPost.mk_none hch.out hB
        | some k =>
          have hkl := flAt_lt hfl
          obtain ⟨x, hx⟩ := getx hkl
          rw [hfl, show optI (some k) = (k : Int) from rfl] at ka
          have g0 : (0 : Int) ≤ (k : Int) := by omega
          have g1 : (k : Int) < l.length := by omega
          by_cases e5 : kd = 5
          · subst e5
            have hch : chF l ⟨5, ty, at_, nm, ats, n⟩ = some (l.eraseIdx k) := by unfold chF; rw [if_neg e4, hfl]; exact if_pos rfl
            replace hch := Lib.hid hch
            go_wp2_with (first
              | (go_at_call 92; refine (ka.out _ hB).mono ?_; rintro e w' ⟨rfl, rfl⟩)
              | (go_at_call 93; refine (kw.out _ k hB).mono ?_; rintro e w' ⟨v, rfl, hO1, hB1⟩))
            go_ret2
            exact AtPost.mk_some hch.out (hO1.base (by omega)) (hB.trans (hB1.mono hB.size))
          · have d5 : ¬ (kd == 5) = true := by simpa using e5
            by_cases e6 : kd = 6
            · subst e6
              have hch : chF l ⟨6, ty, at_, nm, ats, n⟩ = some (l.set k { x with nm := nm }) := by unfold chF; rw [if_neg e4, hfl]; show (if _ then _ else if _ then _ else _) = _; rw [if_neg e5, if_pos rfl, mod_set hx]
              replace hch := Lib.hid hch
              obtain ⟨g, cap, rfl, hgB, hgl, hfz, hc⟩ := hO.row (by omega)
              obtain ⟨u, hu, _⟩ := hc (k * 3 + 0) _ (flatMap_get (f := fdD) (m := 3) (fun _ => rfl) hx rfl)
              have hu0 : wr.cell? ⟨g, k * 3, none⟩ = some u := hu
              have hf0 : wr.frozen? ⟨g, k * 3, none⟩ = false := hfz _
              have hO1 := hO.set (j := k * 3) (u := .string nm) (d := .v (.string nm)) (.v _ rfl)
              rw [fd_set l k x nm hx] at hO1
              replace hO1 := Lib.hid hO1
              clear hc hfz hO
              go_wp2_with (go_at_call 92; refine (ka.out _ hB).mono ?_; rintro e w' ⟨rfl, rfl⟩)
              go_ret2
              exact AtPost.mk_some hch.out (by simpa using hO1.out.base (by omega)) (hB.setCell (by show _ ≤ g; omega) _)
            · obtain rfl : kd = 7 := by omega
              have kmx := fun W hW => km.out W k x hx hW
              replace kmx := Lib.hid kmx
              by_cases hn : 0 ≤ n
              · by_cases hnl : n < l.length
                · have hch : chF l ⟨7, ty, at_, nm, ats, n⟩ = some (mvF l k n.toNat) := by unfold chF; rw [if_neg e4, hfl]; exact (if_neg e5).trans ((if_neg e6).trans (if_pos ⟨hn, hnl⟩))
                  replace hch := Lib.hid hch
                  clear hx
                  go_upto_region 17 with (go_at_call 92; refine (ka.out _ hB).mono ?_; rintro e w' ⟨rfl, rfl⟩)
                  go_region_law ((go_simp; go_at_call 94; refine (kmx.out _ hB.drew).mono ?_; rintro e w2 ⟨v, L', rfl, hL, hL2, hO1, hB1⟩; have y5 : w2.cell? ⟨w.heap.size, 5, none⟩ = some (.int .i64 n) := (Blk.stay (show Blk (World.drew _) _ _ _ from hX.out) hB1).cell 5))
                  all_goals
                    go_wp2
                    go_ret2
                    exact AtPost.mk_some hch.out (hL hn hnl ▸ hO1.base hB.size) (hB.drew.trans (hB1.mono hB.size))
                · have hch : chF l ⟨7, ty, at_, nm, ats, n⟩ = none := by unfold chF; rw [if_neg e4, hfl]; exact (if_neg e5).trans ((if_neg e6).trans (if_neg (fun h' => hnl h'.2)))
                  have hd : decide (n < (l.length : Int)) = false := decide_eq_false hnl
                  replace hch := Lib.hid hch
                  clear hx
                  go_upto_region 17 with (go_at_call 92; refine (ka.out _ hB).mono ?_; rintro e w' ⟨rfl, rfl⟩)
                  go_region_law ((go_simp; go_at_call 94; refine (kmx.out _ hB.drew).mono ?_; rintro e w2 ⟨v, L', rfl, hL, hL2, hO1, hB1⟩; have y5 : w2.cell? ⟨w.heap.size, 5, none⟩ = some (.int .i64 n) := (Blk.stay (show Blk (World.drew _) _ _ _ from hX.out) hB1).cell 5))
                  all_goals
                    go_wp2
                    go_ret2
                    exact AtPost.mk_none hch.out (hB.drew.trans (hB1.mono hB.size))
              · have hch : chF l ⟨7, ty, at_, nm, ats, n⟩ = none := by unfold chF; rw [if_neg e4, hfl]; exact (if_neg e5).trans ((if_neg e6).trans (if_neg (fun h' => hn h'.1)))
                have hd : decide (0 ≤ n) = false := decide_eq_false hn
                have hd2 : decide (n ≥ 0) = false := decide_eq_false hn
                replace hch := Lib.hid hch
                clear hx
                go_upto_region 17 with (go_at_call 92; refine (ka.out _ hB).mono ?_; rintro e w' ⟨rfl, rfl⟩)
                first | go_region_law ((go_simp; go_at_call 94; refine (kmx.out _ hB.drew).mono ?_; rintro e w2 ⟨v, L', rfl, hL, hL2, hO1, hB1⟩; have y5 : w2.cell? ⟨w.heap.size, 5, none⟩ = some (.int .i64 n) := (Blk.stay (show Blk (World.drew _) _ _ _ from hX.out) hB1).cell 5)) | fail
                all_goals
                  go_wp2
                  go_ret2
                  exact AtPost.mk_none hch.out (hB.drew.trans (hB1.mono hB.size))
end evW
end Go.Proofs.YtmadafejenjkcaaDoor
