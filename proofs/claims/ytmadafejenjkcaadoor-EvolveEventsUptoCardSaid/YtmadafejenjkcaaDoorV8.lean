/- The document's answer for changed schemas: the walk of a change. -/
import Derived.Test.YtmadafejenjkcaaDoorV7
namespace Go.Proofs.YtmadafejenjkcaaDoor
open Go.RowKit Go.Deep
set_option linter.unusedVariables false
theorem kd_rdl {W : World} {G : Nat → Prop} {A : Option Addr} {n c : Nat} {x : Kd} (hn : x.fs.length = n) (h : Rd W G (.slice A n c) (.sl x.fs.length (x.fs.flatMap fdD))) : RdL W G [.string x.nm, .int .i64 x.fr, .slice A n c] (kdD x) := ⟨.v _ rfl, .v _ rfl, h, trivial⟩
theorem Src.lit' {w : World} {G : Nat → Prop} {cs : List Value} {t g : Nat} {ds : List D} (hg : w.heap.size = g) (h : RdL w G cs ds) : Src (w.alloc (.cells ⟨cs⟩ t)) (some ⟨g, 0, none⟩) ds G := by subst hg; exact Src.lit h
theorem fK_plain {c : Cg} (h : c.kd = 1) (x : Kd) : fK c x = [x] := by unfold fK; rw [if_neg (by omega), if_neg (by omega), if_neg (by omega)]
theorem fK_2 {c : Cg} (h : c.kd = 2) (x : Kd) : fK c x = [] := by unfold fK; rw [if_pos h]
theorem fK_3 {c : Cg} (h : c.kd = 3) (x : Kd) : fK c x = [{ x with nm := c.nm }] := by unfold fK; rw [if_neg (by omega), if_pos h]
theorem fK_4 {c : Cg} (h : 4 ≤ c.kd) {x : Kd} {fs : List Fd} (hc : chF x.fs c = some fs) : fK c x = [{ x with fs := fs }] := by unfold fK; rw [if_neg (by omega), if_neg (by omega), if_pos h, hc]
/-- the loop's state: the box of the change, the new table -/
structure CL (w wr : World) (c : Cg) (B : Option Addr) (d : Nat) (l : List Kd) (i : Nat) (v : Value) (j : Nat) : Prop where
  bx : BX w wr 60 (cgC c B d)
  ol : OL wr (w.heap.size + 1) (fun b => b < wr.heap.size) 75 3 v (mp (fK c) (l.take j) i).length ((mp (fK c) (l.take j) i).flatMap kdD)
theorem CL.split {w wr : World} {c : Cg} {B : Option Addr} {d : Nat} {l : List Kd} {i j : Nat} {v : Value} (h : CL w wr c B d l i v j) : ∃ n6, n6 = (mp (fK c) (l.take j) i).length ∧ OL wr (w.heap.size + 1) (fun b => b < wr.heap.size) 75 3 v n6 ((mp (fK c) (l.take j) i).flatMap kdD) := ⟨_, rfl, h.ol⟩
theorem CL.next {w wo W w1 : World} {c : Cg} {B : Option Addr} {d : Nat} {l : List Kd} {i j : Nat} {v v' : Value} {x y : Kd} {o : Obj} (h : CL w wo c B d l i v j) (hW : Below wo.heap.size wo W) (hx : l[j]? = some x) (hy : j = i ∧ fK c x = [y] ∨ j ≠ i ∧ y = x)
    (hg : (W.alloc o).grownBy w1 v.ownBlock) {n6 : Nat} (hn : n6 = (mp (fK c) (l.take j) i).length) (hO : OL w1 (w.heap.size + 1) (fun b => b < W.heap.size) 75 3 v' (n6 + 1) ((mp (fK c) (l.take j) i).flatMap kdD ++ kdD y)) : CL w w1 c B d l i v' (j + 1) := by
  subst hn
  refine ⟨((h.bx.stay hW).stay ((Below.refl _ _).alloc (Nat.le_refl _) o)).grown hg (fun q hq => (h.ol.lt q hq).1), ?_⟩
  have hy' : (if j = i then fK c x else [x]) = [y] := by
    rcases hy with ⟨h1, h2⟩ | ⟨h1, h2⟩
    · rw [if_pos h1, h2]
    · rw [if_neg h1, h2]
  rw [mp_take _ hx, hy', List.length_append, List.flatMap_append]
  have := hO.mono (G := fun b => b < w1.heap.size) fun b h => by have := hg.size; simp at this; omega
  simpa using this

theorem CL.skip {w wo W : World} {c : Cg} {B : Option Addr} {d : Nat} {l : List Kd} {i j : Nat} {v : Value} {x : Kd} (h : CL w wo c B d l i v j) (hW : Below wo.heap.size wo W) (hx : l[j]? = some x) (hj : j = i) (hy : fK c x = []) : CL w W c B d l i v (j + 1) := by
  refine ⟨h.bx.stay hW, ?_⟩
  rw [mp_take _ hx, if_pos hj, hy, List.append_nil]
  exact (h.ol.stay hW).mono fun b hb => by have := hW.size; omega
theorem new_rd {wo w' : World} {o : Obj} {v u : Value} {T n B : Nat} {ds : List D} (h : OL w' (wo.alloc o).heap.size (fun _ => False) T 3 v n ds) (hlow : ∀ q, u.ownBlock = some q → B < q ∧ q < wo.heap.size) {x : Value} :
    Rd (w'.setCell ⟨wo.heap.size, 2, none⟩ x) (fun b => b < (w'.setCell ⟨wo.heap.size, 2, none⟩ x).heap.size ∧ some b ≠ u.ownBlock) v (.sl n ds) := by
  have h1 := h.setCell (p := ⟨wo.heap.size, 2, none⟩) (fun e => by have := (h.lt _ e).1; simp at this; omega) (fun h => h) x
  exact h1.rd' (fun _ h _ => h.elim) (fun b hb h1 h2 => ⟨h2, fun e => by have := (hlow b e.symm).2; simp at h1; omega⟩)
theorem ad_next {l : List ByteArray} {k : Nat} {a : ByteArray} (h : l[k]? = some a) : ((l.map fun a => (⟨a, -1, 0⟩ : Fd)).take (k + 1)).flatMap fdD = ((l.map fun a => (⟨a, -1, 0⟩ : Fd)).take k).flatMap fdD ++ fdD ⟨a, -1, 0⟩ := by
  rw [List.take_add_one, List.getElem?_map, h]; simp
def CRel (w : World) (c : Cg) (B : Option Addr) (d : Nat) (l : List Kd) (i : Nat) (v x : Value) (wr : World) : Prop :=
  ∃ j : Nat, j ≤ l.length ∧ x = .int .i64 j ∧ CL w wr c B d l i v j ∧ (4 ≤ c.kd → i < j → ∀ x, l[i]? = some x → chF x.fs c ≠ none)
theorem CRel.mk {w wr : World} {c : Cg} {B : Option Addr} {d : Nat} {l : List Kd} {i : Nat} {v x : Value} (j : Nat) (h1 : j ≤ l.length) (h2 : x = .int .i64 j) (h3 : CL w wr c B d l i v j) (h4 : 4 ≤ c.kd → i < j → ∀ x, l[i]? = some x → chF x.fs c ≠ none) : CRel w c B d l i v x wr := ⟨j, h1, h2, h3, h4⟩
namespace evW
open nmW
set_option maxRecDepth 100000 in
set_option maxHeartbeats 4000000 in
theorem change_k (A B : Option Addr) (ca d : Nat) (F G : Nat → Prop) (l : List Kd) (c : Cg) (hl : l.length ≤ 1048576) (hl2 : ∀ k ∈ l, k.fs.length ≤ 1048576) (hc1 : c.ats.length ≤ 1048576) (w : World) (hF : ∀ b, F b → b < w.heap.size) (hG : ∀ b, G b → b < w.heap.size)
    (r : Rd w F (.slice A l.length ca) (.sl l.length (l.flatMap kdD))) (rc : Rd w G (.slice B c.ats.length d) (.sl c.ats.length (c.ats.flatMap strD))) :
    Calls Tryd.prog 40 #[.slice A l.length ca, .agg #[.int .i64 c.kd, .string c.ty, .string c.at_, .string c.nm, .slice B c.ats.length d, .int .i64 c.n]] w (ChPost l c w) := by
  have kt : ∀ W, Below w.heap.size w W → Calls Tryd.prog 66 #[.slice A l.length ca, .string c.ty] W fun e w' => e = .returned (.int .i64 (optI (tyAt l c.ty))) ∧ w' = W := fun W hW => typeAt_k A ca F l c.ty hl W (r.under hW hF)
  have ka : ∀ W x V cv, x ∈ l → 4 ≤ c.kd → c.kd ≤ 7 → Below w.heap.size w W → Rd W F (.slice V x.fs.length cv) (.sl x.fs.length (x.fs.flatMap fdD)) → Calls Tryd.prog 67 #[.slice V x.fs.length cv, .agg #[.int .i64 c.kd, .string c.ty, .string c.at_, .string c.nm, .slice B c.ats.length d, .int .i64 c.n]] W (AtPost x.fs c W) := fun W x V cv hx h4 h7 hW hr =>
    attrs_k V B cv d F x.fs c h4 h7 (hl2 x hx) W (fun b h => Nat.lt_of_lt_of_le (hF b h) hW.size) hr
  have h0 : Below w.heap.size w (w.alloc (.cells ⟨cgC c B d⟩ 60)) := (Below.refl _ _).alloc (Nat.le_refl _) _
  have y0 : (w.alloc (.cells ⟨cgC c B d⟩ 60)).cell? ⟨w.heap.size, 0, none⟩ = some (.int .i64 c.kd) := (Blk.new _ _ _).cell 0
  have y1 : (w.alloc (.cells ⟨cgC c B d⟩ 60)).cell? ⟨w.heap.size, 1, none⟩ = some (.string c.ty) := (Blk.new _ _ _).cell 1
  have hX0 : BX w (w.alloc (.cells ⟨cgC c B d⟩ 60)) 60 (cgC c B d) := ⟨h0, Blk.new _ _ _⟩
  by_cases hbad : c.kd < 1 ∨ 7 < c.kd
  · have hch := chK_bad (l := l) hbad
    replace kt := Lib.hid kt
    replace h0 := Lib.hid h0
    replace hch := Lib.hid hch
    replace hX0 := Lib.hid hX0
    rcases hbad with hlo | hhi
    · have hd : decide (c.kd < 1) = true := decide_eq_true hlo
      clear ka hl2 hF hG r rc
      go_enter Tryd.func40, Tryd.ntmps40
      go_wp2_with (go_at_call 66; refine (kt.out _ h0.out).mono ?_; rintro e w' ⟨rfl, rfl⟩)
      go_ret2
      exact ChPost.mk_none hch.out h0.out
    · have hd : decide (c.kd < 1) = false := decide_eq_false (by omega)
      have hd2 : decide (7 < c.kd) = true := decide_eq_true hhi
      clear ka hl2 hF hG r rc
      go_enter Tryd.func40, Tryd.ntmps40
      go_wp2_with (go_at_call 66; refine (kt.out _ h0.out).mono ?_; rintro e w' ⟨rfl, rfl⟩)
      go_ret2
      exact ChPost.mk_none hch.out h0.out
  · have hd : decide (c.kd < 1) = false := decide_eq_false (by omega)
    have hd2 : decide (7 < c.kd) = false := decide_eq_false (by omega)
    by_cases hno : c.kd ≠ 1 ∧ tyAt l c.ty = none
    · have hch := chK_no hno.1 hno.2
      rw [hno.2, show optI none = -1 from rfl] at kt
      have hne := hno.1
      replace kt := Lib.hid kt
      replace h0 := Lib.hid h0
      replace hch := Lib.hid hch
      replace hX0 := Lib.hid hX0
      clear ka hl2 hF hG r rc hno hbad
      go_enter Tryd.func40, Tryd.ntmps40
      go_wp2_with (go_at_call 66; refine (kt.out _ h0.out).mono ?_; rintro e w' ⟨rfl, rfl⟩)
      go_ret2
      exact ChPost.mk_none hch.out h0.out
    · obtain ⟨i, hi⟩ : ∃ i, i = (tyAt l c.ty).getD l.length := ⟨_, rfl⟩
      have ha : ∀ j, j < l.length → ((j : Int) = optI (tyAt l c.ty) ↔ j = i) := fun j hj => by
        rw [hi]
        cases tyAt l c.ty with
        | none => simp [optI]; omega
        | some q => simp [optI]; omega
      have ha2 : optI (tyAt l c.ty) < 0 → c.kd = 1 := fun h => by
        apply Classical.byContradiction
        intro h1
        refine hno ⟨h1, ?_⟩
        cases e : tyAt l c.ty with
        | none => rfl
        | some q => rw [e] at h; simp [optI] at h; omega
      have hty : c.kd ≠ 1 → tyAt l c.ty = some i ∧ i < l.length := fun h1 => by
        cases e : tyAt l c.ty with
        | none => exact absurd ⟨h1, e⟩ hno
        | some q => rw [e] at hi; subst hi; exact ⟨rfl, tyAt_lt e⟩
      generalize optI (tyAt l c.ty) = a at *
      replace kt := Lib.hid kt
      replace ka := Lib.hid ka
      replace h0 := Lib.hid h0
      replace hX0 := Lib.hid hX0
      replace ha := Lib.hid ha
      replace ha2 := Lib.hid ha2
      replace hty := Lib.hid hty
      replace hl2 := Lib.hid hl2
      replace hF := Lib.hid hF
      replace hG := Lib.hid hG
      replace r := Lib.hid r
      replace rc := Lib.hid rc
      have hkd1 : 1 ≤ c.kd := by omega
      have hkd7 : c.kd ≤ 7 := by omega
      clear hno hi hbad
      have hgo : decide (a < 0) = false ∨ decide (a < 0) = true ∧ (c.kd == 1) = true := by
        by_cases h : a < 0
        · exact .inr ⟨decide_eq_true h, by have := ha2.out h; simpa using this⟩
        · exact .inl (decide_eq_false h)
      replace hgo := Lib.hid hgo
      go_enter Tryd.func40, Tryd.ntmps40
      go_upto_region 3 with (go_at_call 66; refine (kt.out _ h0.out).mono ?_; rintro e w' ⟨rfl, rfl⟩)
      go_cut [34] (fun t wx => t = .bool false ∧ wx = w.alloc (.cells ⟨cgC c B d⟩ 60))
      case first =>
        rcases hgo.out with h | ⟨h, h'⟩
        · have h2 : ¬ a < 0 := by simpa using h
          go_wp2_with fail
          all_goals (go_meet; exact ⟨rfl, rfl⟩)
        · have h2 : a < 0 := by simpa using h
          have h3 := ha2.out h2
          go_wp2_with fail
          all_goals (go_meet; exact ⟨rfl, rfl⟩)
      case rest =>
        obtain ⟨rfl, rfl⟩ := hcut
        clear hgo ha2
        go_wp2
        go_loopw [6, 8] (fun v x wr => CRel w c B d l i v x wr) (fun _ x _ => l.length - (intOf x).toNat)
        case atStart => 
          refine CRel.mk 0 (Nat.zero_le _) rfl ⟨hX0.out, ?_⟩ (fun _ h => by omega)
          show OL _ _ _ _ _ _ (mp (fK c) [] i).length ((mp (fK c) [] i).flatMap kdD)
          rw [show mp (fK c) [] i = [] by simp [mp]]
          exact .nil _ _ _ _ _
        case round =>
          obtain ⟨j, hj, rfl, hC, hz⟩ := hrel
          obtain ⟨n6, hn6, hol⟩ := hC.split
          obtain ⟨U6, c6, rfl⟩ := hol.form
          replace hz := Lib.hid hz
          have hml := mp_len (fK c) (fK_len c) (l.take j) i
          rw [List.length_take, Nat.min_eq_left hj, ← hn6] at hml
          have e0 : wr.cell? ⟨w.heap.size, 0, none⟩ = some (.int .i64 c.kd) := hC.bx.bx.cell 0
          have e1 : wr.cell? ⟨w.heap.size, 1, none⟩ = some (.string c.ty) := hC.bx.bx.cell 1
          have e3 : wr.cell? ⟨w.heap.size, 3, none⟩ = some (.string c.nm) := hC.bx.bx.cell 3
          clear y0 y1
          by_cases hlt : j < l.length
          · obtain ⟨x, hx⟩ := getx hlt
            have hxl := hl2.out x (List.mem_of_getElem? hx)
            obtain ⟨b, off, rfl, hFb, hv, hsl⟩ := r.out.rowv (m := 3) (fun _ => rfl) hx (by omega)
            have hfB := hF.out b hFb
            obtain ⟨A2, c2, a1, r2⟩ := hsl 2 _ _ rfl
            have v0 : wr.cell? ⟨b, off + j * 3, none⟩ = some (.string x.nm) := (hC.bx.hb.cell (p := ⟨b, off + j * 3, none⟩) hfB).trans (hv 0 _ rfl)
            have v1 : wr.cell? ⟨b, off + j * 3 + 1, none⟩ = some (.int .i64 x.fr) := (hC.bx.hb.cell (p := ⟨b, off + j * 3 + 1, none⟩) hfB).trans (hv 1 _ rfl)
            have v2 : wr.cell? ⟨b, off + j * 3 + 2, none⟩ = some (.slice A2 x.fs.length c2) := (hC.bx.hb.cell (p := ⟨b, off + j * 3 + 2, none⟩) hfB).trans a1
            have g0 : (0 : Int) ≤ (j : Int) := by omega
            have g1 : (j : Int) < l.length := by omega
            have hw0 := hC.bx.bx.lt
            have hlow : ∀ q, (Value.slice U6 n6 c6).ownBlock = some q → w.heap.size < q ∧ q < wr.heap.size := fun q hq => hol.lt q hq
            have hold : ∀ W, Below wr.heap.size wr W → Rd W (fun b => b < W.heap.size ∧ some b ≠ (Value.slice U6 n6 c6).ownBlock) (.slice A2 x.fs.length c2) (.sl x.fs.length (x.fs.flatMap fdD)) := fun W hW => by
              have hWw := hC.bx.hb.trans (hW.mono hC.bx.hb.size)
              exact (r2.under hWw hF.out).mono fun b hb h => ⟨h, fun e => by have := hF.out b hb; have := (hlow b e.symm).1; omega⟩
            have hO : ∀ W, Below wr.heap.size wr W → OL W (w.heap.size + 1) (fun b => b < W.heap.size) 75 3 (.slice U6 n6 c6) n6 ((mp (fK c) (l.take j) i).flatMap kdD) := fun W hW => (hol.stay hW).mono fun b h => by have := hW.size; omega
            obtain ⟨wo, hwo⟩ : ∃ wo : World, wo = wr := ⟨_, rfl⟩
            subst hwo
            have hbox : Below wo.heap.size wo (wo.alloc (.cells ⟨[.string x.nm, .int .i64 x.fr, .slice A2 x.fs.length c2]⟩ 75)) := (Below.refl _ _).alloc (Nat.le_refl _) _
            have hxa := fun W V cv => ka.out W x V cv (List.mem_of_getElem? hx)
            replace hxa := Lib.hid hxa
            replace hold := Lib.hid hold
            replace hO := Lib.hid hO
            replace hC := Lib.hid hC
            replace hol := Lib.hid hol
            have hx' := Lib.hid hx
            replace hn6 := Lib.hid hn6
            replace hbox := Lib.hid hbox
            clear hv hsl a1 hx
            by_cases hji : j = i
            · have hje : ((j : Int) == a) = true := by simpa using (ha.out j hlt).2 hji
              replace hji := Lib.hid hji
              by_cases k1 : c.kd = 1
              · have hy := Lib.hid (fK_plain k1 x)
                have d2 : (c.kd == 2) = false := by simp [k1]
                have d3 : (c.kd == 3) = false := by simp [k1]
                have d4 : decide (c.kd ≥ 4) = false := decide_eq_false (by omega)
                have d4' : decide (4 ≤ c.kd) = false := decide_eq_false (by omega)
                replace k1 := Lib.hid k1
                clear r2
                go_wp2_with (at_builtin; refine wpList_app rfl (.tmp 83) (.tmp 85) _ rfl (m := 1) (news := kdD x) elKd ((hO.out _ hbox.out).alloc (.cells ⟨[.string x.nm, .int .i64 x.fr, .slice A2 x.fs.length c2]⟩ 75)) rfl rfl (Src.lit' (by simp) (kd_rdl (x := x) rfl (hold.out _ hbox.out))) rfl (by omega) (by omega) (by simp; omega) ?_; intro v' w1 hO1 hg1 ha1)
                go_roundw
                case rel => exact CRel.mk (j + 1) (by omega) (by go_num) (hC.out.next hbox.out hx'.out (.inl ⟨hji.out, hy.out⟩) hg1 hn6.out hO1) (fun h4 h5 => by have := k1.out; omega)
                case measure => simp [intOf]; omega
              · have d1 : (c.kd == 1) = false := by simpa using k1
                by_cases k2 : c.kd = 2
                · have hy := Lib.hid (fK_2 k2 x)
                  have d2 : (c.kd == 2) = true := by simpa using k2
                  replace k2 := Lib.hid k2
                  clear r2
                  go_wp2
                  go_roundw
                  case rel => exact CRel.mk (j + 1) (by omega) (by go_num) (hC.out.skip hbox.out hx'.out hji.out hy.out) (fun h4 h5 => by have := k2.out; omega)
                  case measure => simp [intOf]; omega
                · have d2 : (c.kd == 2) = false := by simpa using k2
                  by_cases k3 : c.kd = 3
                  · have hy := Lib.hid (fK_3 k3 x)
                    have d3 : (c.kd == 3) = true := by simpa using k3
                    have d4 : decide (c.kd ≥ 4) = false := decide_eq_false (by omega)
                    have d4' : decide (4 ≤ c.kd) = false := decide_eq_false (by omega)
                    replace k3 := Lib.hid k3
                    have hbox3 := Lib.hid (show Below wo.heap.size wo (wo.alloc (.cells ⟨[.string c.nm, .int .i64 x.fr, .slice A2 x.fs.length c2]⟩ 75)) from (Below.refl _ _).alloc (Nat.le_refl _) _)
                    clear r2
                    go_wp2_with (at_builtin; refine wpList_app rfl (.tmp 83) (.tmp 85) _ rfl (m := 1) (news := kdD { x with nm := c.nm }) elKd ((hO.out _ hbox3.out).alloc (.cells ⟨[.string c.nm, .int .i64 x.fr, .slice A2 x.fs.length c2]⟩ 75)) rfl rfl (Src.lit' (by simp) (kd_rdl (x := { x with nm := c.nm }) rfl (hold.out _ hbox3.out))) rfl (by omega) (by omega) (by simp; omega) ?_; intro v' w1 hO1 hg1 ha1)
                    go_roundw
                    case rel => exact CRel.mk (j + 1) (by omega) (by go_num) (hC.out.next hbox3.out hx'.out (.inl ⟨hji.out, hy.out⟩) hg1 hn6.out hO1) (fun h4 h5 => by have := k3.out; omega)
                    case measure => simp [intOf]; omega
                  · have d3 : (c.kd == 3) = false := by simpa using k3
                    have k4 : 4 ≤ c.kd := by omega
                    have d4 : decide (c.kd ≥ 4) = true := decide_eq_true k4
                    have d4' : decide (4 ≤ c.kd) = true := decide_eq_true k4
                    have e2 : wo.cell? ⟨w.heap.size, 2, none⟩ = some (.string c.at_) := hC.out.bx.bx.cell 2
                    have e4 : wo.cell? ⟨w.heap.size, 4, none⟩ = some (.slice B c.ats.length d) := hC.out.bx.bx.cell 4
                    have e5 : wo.cell? ⟨w.heap.size, 5, none⟩ = some (.int .i64 c.n) := hC.out.bx.bx.cell 5
                    have hxk : Calls Tryd.prog 67 #[.slice A2 x.fs.length c2, .agg #[.int .i64 c.kd, .string c.ty, .string c.at_, .string c.nm, .slice B c.ats.length d, .int .i64 c.n]] (wo.alloc (.cells ⟨[.string x.nm, .int .i64 x.fr, .slice A2 x.fs.length c2]⟩ 75)) (AtPost x.fs c (wo.alloc (.cells ⟨[.string x.nm, .int .i64 x.fr, .slice A2 x.fs.length c2]⟩ 75))) := by
                      have hWw := hC.out.bx.hb.trans (hbox.out.mono hC.out.bx.hb.size)
                      exact hxa.out _ _ _ k4 hkd7 hWw (r2.under hWw hF.out)
                    have hBx : Blk (wo.alloc (.cells ⟨[.string x.nm, .int .i64 x.fr, .slice A2 x.fs.length c2]⟩ 75)) wo.heap.size 75 [.string x.nm, .int .i64 x.fr, .slice A2 x.fs.length c2] := Blk.new _ _ _
                    have hty1 := hty.out k1
                    replace hxk := Lib.hid hxk
                    replace hBx := Lib.hid hBx
                    replace hty1 := Lib.hid hty1
                    clear r2 hxa
                    cases hcf : chF x.fs c with
                    | none =>
                      have hch : chK l c = none := chK_none k4 hty1.out.1 (hji.out ▸ hx'.out) hcf
                      replace hch := Lib.hid hch
                      replace hcf := Lib.hid hcf
                      go_wp2_with (go_at_call 67; refine hxk.out.mono ?_; rintro e w' ⟨v, b, rfl, _, hb0, hB1⟩; obtain rfl := hb0 hcf.out; clear hb0)
                      go_ret2
                      exact ChPost.mk_none hch.out ((hC.out.bx.hb.trans (hbox.out.mono hC.out.bx.hb.size)).trans (hB1.mono (by have := hw0; simp; omega)))
                    | some fs =>
                      have hy := Lib.hid (fK_4 k4 hcf)
                      replace hcf := Lib.hid hcf
                      go_wp2_with (first
                        | (go_at_call 67; refine hxk.out.mono ?_; rintro e w' ⟨v, b, rfl, hs0, _, hB1⟩; obtain ⟨rfl, hOf⟩ := hs0 fs hcf.out; clear hs0; obtain ⟨A3, c3, rfl⟩ := hOf.form; have hz9 : wo.heap.size + 1 ≤ w'.heap.size := (by have := hB1.size; simpa using this); have t0 := hBx.out.stay hB1; have t1 : w'.frozen? ⟨wo.heap.size, 2, none⟩ = false := t0.frozen 2; have t2 : w'.cell? ⟨wo.heap.size, 0, none⟩ = some (.string x.nm) := t0.cell 0; have t3 : w'.cell? ⟨wo.heap.size, 1, none⟩ = some (.int .i64 x.fr) := t0.cell 1; have t4 : w'.cell? ⟨wo.heap.size, 2, none⟩ = some (.slice A2 x.fs.length c2) := t0.cell 2; have hB2 : Below wo.heap.size wo (w'.setCell ⟨wo.heap.size, 2, none⟩ (.slice A3 fs.length c3)) := (hbox.out.trans (hB1.mono hbox.out.size)).setCell (Nat.le_refl _) _; replace hB2 := Lib.hid hB2; replace hOf := Lib.hid hOf)
                        | (at_builtin; refine wpList_app rfl (.tmp 83) (.tmp 85) _ rfl (m := 1) (news := kdD { x with fs := fs }) elKd ((hO.out _ hB2.out).alloc (.cells ⟨[.string x.nm, .int .i64 x.fr, .slice A3 fs.length c3]⟩ 75)) rfl rfl (Src.lit' (by simp) (kd_rdl (x := { x with fs := fs }) rfl (new_rd hOf.out hlow))) rfl (by omega) (by omega) (by simp; omega) ?_; intro v' w1 hO1 hg1 ha1))
                      go_roundw
                      case rel => exact CRel.mk (j + 1) (by omega) (by go_num) (hC.out.next hB2.out hx'.out (.inl ⟨hji.out, hy.out⟩) hg1 hn6.out hO1) (fun h4 h5 x' hx2 => by rw [← hji.out, hx'.out] at hx2; injection hx2 with hx2; subst hx2; rw [hcf.out]; simp)
                      case measure => simp [intOf]; omega
            · have hja : ¬ (j : Int) = a := fun e => hji ((ha.out j hlt).1 e)
              clear r2
              go_wp2_with (at_builtin; refine wpList_app rfl (.tmp 83) (.tmp 85) _ rfl (m := 1) (news := kdD x) elKd ((hO.out _ hbox.out).alloc (.cells ⟨[.string x.nm, .int .i64 x.fr, .slice A2 x.fs.length c2]⟩ 75)) rfl rfl (Src.lit' (by simp) (kd_rdl rfl (hold.out _ hbox.out))) rfl (by omega) (by omega) (by simp; omega) ?_; intro v' w1 hO1 hg1 ha1)
              go_roundw
              case rel => exact CRel.mk (j + 1) (by omega) (by go_num) (hC.out.next hbox.out hx'.out (.inr ⟨hji, rfl⟩) hg1 hn6.out hO1) (fun h4 h5 => hz.out h4 (by omega))
              case measure => simp [intOf]; omega
          · obtain rfl : j = l.length := by omega
            rw [List.take_length] at hol hn6
            by_cases k1 : c.kd = 1
            · have hch := chK_1 (l := l) k1
              rw [mp_id (fK_plain k1)] at hol hn6
              subst hn6
              obtain ⟨wo, hwo⟩ : ∃ wo : World, wo = wr := ⟨_, rfl⟩
              subst hwo
              have hw0 := hC.bx.bx.lt
              have hlow : ∀ q, (Value.slice U6 l.length c6).ownBlock = some q → w.heap.size < q ∧ q < wo.heap.size := fun q hq => hol.lt q hq
              have hX := Lib.hid hC.bx
              replace hol := Lib.hid hol
              replace hch := Lib.hid hch
              have d1 : (c.kd == 1) = true := by simpa using k1
              replace k1 := Lib.hid k1
              clear hC
              go_wp2
              go_loopw [13] (fun y wr => ∃ (k : Nat) (u : Value), k ≤ c.ats.length ∧ y = .int .i64 k ∧ IB wo wr 75 c.ty (-1) u 77 k (((c.ats.map fun a => (⟨a, -1, 0⟩ : Fd)).take k).flatMap fdD)) (fun y _ => c.ats.length - (intOf y).toNat)
              case atStart => exact ⟨0, .slice none 0 0, Nat.zero_le _, rfl, (Below.refl _ _).alloc (Nat.le_refl _) _, Blk.new _ _ _, .nil _ _ _ _ _⟩
              case round =>
                obtain ⟨k, u, hk, rfl, hI⟩ := hrel
                have hXr := hX.out.stay hI.hb
                have y4 : wr.cell? ⟨w.heap.size, 4, none⟩ = some (.slice B c.ats.length d) := hXr.bx.cell 4
                have i2 : wr.cell? ⟨wo.heap.size, 2, none⟩ = some u := hI.bx.cell 2
                clear e0 e1 e3
                by_cases hlk : k < c.ats.length
                · obtain ⟨a, ha⟩ := getx hlk
                  obtain ⟨b2, off2, rfl, hFb2, ha2⟩ := (rc.out.under hXr.hb hG.out).at_ ha
                  have q0 : wr.cell? ⟨b2, off2 + k, none⟩ = some (.string a) := ha2
                  have g2 : (0 : Int) ≤ (k : Int) := by omega
                  have g3 : (k : Int) < c.ats.length := by omega
                  have hfk := ad_next ha
                  have hz2 := hI.bx.lt
                  replace hfk := Lib.hid hfk
                  have hI' := Lib.hid hI
                  clear ha2 ha hXr hI
                  go_upto_region 23 with fail
                  go_region_law ((refine step_app (by rfl) (.tmp 101) (.tmp 108) _ (by rfl) (m := 1) (news := fdD ⟨a, -1, 0⟩) elFd (by exact (hI'.out.ol.alloc (.cells ⟨fdV ⟨a, -1, 0⟩⟩ 77)).drew) (by rfl) (by rfl) (by exact (Src.lit (fdD_rd wr _ ⟨a, -1, 0⟩)).drew) rfl (by omega) (by omega) (by simp; omega) ?_; intro v' w1 hO1 hg1 ha1; obtain ⟨B3, d3, rfl⟩ := hO1.form; have hg := undrew hg1; have hB := hI'.out.stay ((Below.refl _ _).alloc (Nat.le_refl _) (.cells ⟨fdV ⟨a, -1, 0⟩⟩ 77)); have t0 := hB.bx.grown hg (fun e => by have := (hI'.out.ol.lt _ e.symm).1; omega); have t1 : w1.cell? ⟨wo.heap.size, 2, none⟩ = some u := t0.cell 2; have t2 : w1.frozen? ⟨wo.heap.size, 2, none⟩ = false := t0.frozen 2))
                  all_goals
                    have hI3 := hB.put hg (fun q hq => (hI'.out.ol.lt q hq).1) hO1
                    rw [← hfk.out] at hI3
                    go_wp2_with fail
                    go_roundw
                    case rel => exact ⟨k + 1, _, by omega, by go_num, hI3⟩
                    case measure => simp [intOf]; omega
                · have hkn : k = c.ats.length := by omega
                  subst hkn
                  have htk : (c.ats.map fun a => (⟨a, -1, 0⟩ : Fd)).take c.ats.length = c.ats.map fun a => (⟨a, -1, 0⟩ : Fd) := List.take_of_length_le (by simp)
                  rw [htk] at hI
                  obtain ⟨U, cu, rfl⟩ := hI.ol.form
                  have i0 : wr.cell? ⟨wo.heap.size, 0, none⟩ = some (.string c.ty) := hI.bx.cell 0
                  have i1 : wr.cell? ⟨wo.heap.size, 1, none⟩ = some (.int .i64 (-1)) := hI.bx.cell 1
                  have hz2 := hI.bx.lt
                  have hO2 := (hol.out.stay hI.hb).mono (G := fun b => b < wr.heap.size) (fun b h => by omega)
                  have hRL : RdL wr (fun b => b < wr.heap.size ∧ some b ≠ (Value.slice U6 l.length c6).ownBlock) [.string c.ty, .int .i64 (-1), .slice U c.ats.length cu] (kdD (addK c)) := by
                    refine ⟨.v _ rfl, .v _ rfl, ?_, trivial⟩
                    show Rd _ _ _ (.sl (c.ats.map fun a => (⟨a, -1, 0⟩ : Fd)).length _)
                    rw [List.length_map]
                    exact hI.ol.rd' (fun _ h _ => h.elim) (fun b hb h1 h2 => ⟨h2, fun e => by have := hlow b e.symm; omega⟩)
                  replace hRL := Lib.hid hRL
                  have hI' := Lib.hid hI
                  clear hI htk
                  go_wp2_with (at_builtin; refine wpList_app rfl (.tmp 111) (.tmp 113) _ rfl (m := 1) (news := kdD (addK c)) elKd (hO2.alloc (.cells ⟨[.string c.ty, .int .i64 (-1), .slice U c.ats.length cu]⟩ 75)) rfl rfl (Src.lit hRL.out) rfl (by omega) (by omega) (by simp; omega) ?_; intro v' w1 hO1 hg1 ha1)
                  go_ret2
                  have hB1 := (hXr.hb.alloc hXr.hb.size (.cells ⟨[.string c.ty, .int .i64 (-1), .slice U c.ats.length cu]⟩ 75)).grown hg1 (by have := hXr.hb.size; simp; omega) (fun q hq => by have := (hlow q hq).1; omega)
                  refine ChPost.mk_some hch.out ?_ hB1
                  have hO4 := hO1.rd (G := fun b => b < w1.heap.size) (fun b h h2 => h2) (fun b h h2 => h2)
                  rw [show (l ++ [addK c]).length = l.length + 1 by simp, show (l ++ [addK c]).flatMap kdD = l.flatMap kdD ++ kdD (addK c) by simp]
                  exact hO4
            · obtain ⟨ht, hil⟩ := hty.out k1
              obtain ⟨x, hx⟩ := getx hil
              have hch : chK l c = some (mp (fK c) l i) := chK_mp (by omega) hkd7 ht hx (fun h4 => hz.out h4 hil x hx)
              have d1 : (c.kd == 1) = false := by simpa using k1
              subst hn6
              have hR := hol.rd (G := fun b => b < wr.heap.size) (fun b h h2 => h2) (fun b h h2 => h2)
              have hBB := hC.bx.hb
              replace hch := Lib.hid hch
              replace hR := Lib.hid hR
              replace hBB := Lib.hid hBB
              clear hC hol hx ht
              go_wp2
              go_ret2
              exact ChPost.mk_some hch.out hR.out hBB.out
end evW
end Go.Proofs.YtmadafejenjkcaaDoor
