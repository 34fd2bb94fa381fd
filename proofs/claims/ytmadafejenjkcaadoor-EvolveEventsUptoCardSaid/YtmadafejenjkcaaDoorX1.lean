/- A schema of the call's own: the row of types, each type's own row of attributes. -/
import Derived.Test.YtmadafejenjkcaaDoorW4
import Derived.Test.YtmadafejenjkcaaDoorV6
import Derived.Test.YtmadafejenjkcaaDoorV8
namespace Go.Proofs.YtmadafejenjkcaaDoor
open Go.RowKit Go.Deep
set_option linter.unusedVariables false

def tcD (p : Td × Value) : List D := [.v (.string p.1.name), .v p.2]
structure OSc (w : World) (B : Nat) (v : Value) (l : List (Td × Value)) : Prop where
  kr : OL w B NoB 34 2 v l.length (l.flatMap tcD)
  fr : ∀ p ∈ l, OL w B NoB 9 1 p.2 p.1.attrs.length (p.1.attrs.flatMap strD)
  ne : ∀ (i j : Nat) (p q : Td × Value), l[i]? = some p → l[j]? = some q → i ≠ j → p.2.ownBlock = none ∨ p.2.ownBlock ≠ q.2.ownBlock
section
variable {w : World} {B : Nat} {v : Value} {l : List (Td × Value)}
theorem OSc.nil (w : World) (B : Nat) : OSc w B (.slice none 0 0) [] := ⟨.nil _ _ _ _ _, fun p hp => by simp at hp, fun i j p q hp => by simp at hp⟩
theorem OSc.stay {w2 : World} (h : OSc w B v l) (hb : Below w.heap.size w w2) : OSc w2 B v l := ⟨h.kr.stay hb, fun p hp => (h.fr p hp).stay hb, h.ne⟩
/-- a write to a block that is none of its own -/
theorem OSc.far {p : Addr} {x : Value} (h : OSc w B v l) (hp : p.block < B) : OSc (w.setCell p x) B v l :=
  ⟨h.kr.setCell (fun e => by have := (h.kr.lt _ e).1; omega) (fun h => h) _, fun q hq => (h.fr q hq).setCell (fun e => by have := ((h.fr q hq).lt _ e).1; omega) (fun h => h) _, h.ne⟩
theorem OSc.base {B' : Nat} (h : OSc w B v l) (hB : B' ≤ B) : OSc w B' v l := ⟨h.kr.base hB, fun p hp => (h.fr p hp).base hB, h.ne⟩
/-- one more type -/
theorem OSc.snoc {w1 : World} {v' u : Value} {t : Td} (h : OSc w B v l) (hg : w.grownBy w1 v.ownBlock) (hv : OL w1 B NoB 34 2 v' (l.length + 1) (l.flatMap tcD ++ tcD (t, u)))
    (hu : OL w B NoB 9 1 u t.attrs.length (t.attrs.flatMap strD)) (hne : ∀ p ∈ l, u.ownBlock = none ∨ u.ownBlock ≠ p.2.ownBlock) : OSc w1 B v' (l ++ [(t, u)]) := by
  refine ⟨by simpa using hv, fun p hp => ?_, ?_⟩
  · rcases List.mem_append.1 hp with hp | hp
    · exact (h.fr p hp).kept hg ((h.fr p hp).ne h.kr (by decide)) (fun _ hb => hb.elim)
    · simp at hp; subst hp
      exact hu.kept hg (hu.ne h.kr (by decide)) (fun _ hb => hb.elim)
  · intro a b x y hx hy hab
    have get : ∀ {a : Nat} {x}, (l ++ [(t, u)])[a]? = some x → (a < l.length ∧ l[a]? = some x) ∨ (a = l.length ∧ x = (t, u)) := fun {a x} hx => by
      by_cases ha : a < l.length
      · rw [List.getElem?_append_left ha] at hx; exact .inl ⟨ha, hx⟩
      · rw [List.getElem?_append_right (by omega)] at hx
        have := (List.getElem?_eq_some_iff.1 hx).1
        simp at this
        have e : a - l.length = 0 := by omega
        rw [e] at hx
        exact .inr ⟨by omega, by simpa using hx.symm⟩
    rcases get hx with ⟨h1, h2⟩ | ⟨h1, rfl⟩
    · rcases get hy with ⟨h3, h4⟩ | ⟨h3, rfl⟩
      · exact h.ne a b x y h2 h4 hab
      · exact ne_sym (hne x (List.mem_of_getElem? h2))
    · rcases get hy with ⟨h3, h4⟩ | ⟨h3, rfl⟩
      · exact hne y (List.mem_of_getElem? h4)
      · omega
theorem tc_get {l : List (Td × Value)} {k : Nat} {d : D} (h : ((l.map (·.1)).flatMap tdD)[k]? = some d) : ∃ d', (l.flatMap tcD)[k]? = some d' ∧ (d' = d ∨ ∃ p ∈ l, d' = .v p.2 ∧ d = .sl p.1.attrs.length (p.1.attrs.flatMap strD)) := by
  induction l generalizing k with
  | nil => simp at h
  | cons a l ih =>
    rw [List.map_cons, List.flatMap_cons] at h
    rw [List.flatMap_cons]
    by_cases hk : k < 2
    · rw [List.getElem?_append_left (by show k < 2; omega)] at h
      rw [List.getElem?_append_left (by show k < 2; omega)]
      match k, hk with
      | 0, _ => exact ⟨_, rfl, .inl (Option.some.inj h)⟩
      | 1, _ => exact ⟨_, rfl, .inr ⟨a, List.mem_cons_self, rfl, (Option.some.inj h).symm⟩⟩
    · rw [List.getElem?_append_right (by show 2 ≤ k; omega)] at h
      rw [List.getElem?_append_right (by show 2 ≤ k; omega)]
      obtain ⟨d', h1, h2⟩ := ih h
      refine ⟨d', h1, ?_⟩
      rcases h2 with h2 | ⟨p, hp, h3⟩
      · exact .inl h2
      · exact .inr ⟨p, List.mem_cons_of_mem _ hp, h3⟩
theorem td_len (l : List Td) : (l.flatMap tdD).length = l.length * 2 := flatMap_length (f := tdD) (m := 2) (fun _ => rfl) l
/-- it reads as its types -/
theorem OSc.ol {G : Nat → Prop} (h : OSc w B v l) (hG : ∀ b, B ≤ b → b < w.heap.size → G b) : OL w B G 34 2 v l.length ((l.map (·.1)).flatMap tdD) := by
  obtain ⟨cells, h1, h2, h3⟩ := h.kr
  refine ⟨cells, h1, by rw [td_len, List.length_map, h1.1], fun k d hd => ?_⟩
  obtain ⟨d', hd', hor⟩ := tc_get hd
  obtain ⟨u, hu, hr⟩ := h3 k d' hd'
  refine ⟨u, hu, ?_⟩
  rcases hor with rfl | ⟨p, hp, rfl, rfl⟩
  · exact hr.mono fun b hb _ => hb.1.elim
  · have hv := hr.v_inv
    subst hv
    refine (h.fr p hp).rd' (fun b hb _ => hb.elim) (fun b hb h1 h2 => ⟨hG b h1 h2, fun e => ?_⟩)
    rcases (h.fr p hp).ne h.kr (by decide) with e2 | e2
    · rw [hb] at e2; cases e2
    · exact e2 (by rw [hb, e])
theorem OSc.rd {G : Nat → Prop} (h : OSc w B v l) (hG : ∀ b, B ≤ b → b < w.heap.size → G b) : Rd w G v (.sl l.length ((l.map (·.1)).flatMap tdD)) :=
  (h.ol (G := G) hG).rd (fun b hb _ => hb) hG
end

/-- a schema that is being put together: the box of the result, the box of the schema -/
structure PS (w wr : World) (u : Value) (l : List (Td × Value)) : Prop where
  hb : Below w.heap.size w wr
  b0 : Blk wr w.heap.size 24 [.slice none 0 0]
  b1 : Blk wr (w.heap.size + 1) 24 [u]
  os : OSc wr (w.heap.size + 1 + 1) u l
theorem PS.stay {w wr w2 : World} {u : Value} {l : List (Td × Value)} (h : PS w wr u l) (hb : Below wr.heap.size wr w2) : PS w w2 u l :=
  ⟨h.hb.trans (hb.mono h.hb.size), h.b0.stay hb, h.b1.stay hb, h.os.stay hb⟩
theorem PS.put {w wr w1 : World} {u v : Value} {l l' : List (Td × Value)} (h : PS w wr u l) (hg : wr.grownBy w1 u.ownBlock) (hO : OSc w1 (w.heap.size + 1 + 1) v l') : PS w (w1.setCell ⟨w.heap.size + 1, 0, none⟩ v) v l' := by
  have hr : ∀ q, u.ownBlock = some q → w.heap.size + 1 < q := fun q hq => (h.os.kr.lt q hq).1
  exact ⟨(h.hb.grown hg h.hb.size (fun q hq => by have := hr q hq; omega)).setCell (by show _ ≤ w.heap.size + 1; omega) _, (h.b0.grown hg (fun e => by have := hr _ e.symm; omega)).far (by show w.heap.size ≠ w.heap.size + 1; omega) _, (h.b1.grown hg (fun e => by have := hr _ e.symm; omega)).set_ 0 v, hO.far (by show w.heap.size + 1 < _; omega)⟩
/-- the answer: a schema of new memory -/
def OSPost (T : List Td) (w : World) (e : Ending) (w' : World) : Prop := ∃ v l, e = .returned (.agg #[v]) ∧ OSc w' w.heap.size v l ∧ l.map (·.1) = T ∧ Below w.heap.size w w'
def SRel (w : World) (T : List Td) (x : Value) (wr : World) : Prop := ∃ (j : Nat) (u : Value) (lj : List (Td × Value)), j ≤ T.length ∧ x = .int .i64 j ∧ PS w wr u lj ∧ lj.map (·.1) = T.take j
theorem SRel.mk {w : World} {T : List Td} {x : Value} {wr : World} (j : Nat) (u : Value) (lj : List (Td × Value)) (h1 : j ≤ T.length) (h2 : x = .int .i64 j) (h3 : PS w wr u lj) (h4 : lj.map (·.1) = T.take j) : SRel w T x wr := ⟨j, u, lj, h1, h2, h3, h4⟩
end Go.Proofs.YtmadafejenjkcaaDoor
/- The design as a schema. -/
namespace Go.Proofs.YtmadafejenjkcaaDoor
open Go.RowKit Go.Deep
set_option linter.unusedVariables false

theorem kn_take {l : List (Kd × Value)} {j : Nat} {p : Kd × Value} (h : l[j]? = some p) : ((l.map (·.1)).map tdOf).take (j + 1) = ((l.map (·.1)).map tdOf).take j ++ [tdOf p.1] := by
  rw [List.take_add_one, List.getElem?_map, List.getElem?_map, h]; rfl
namespace evW
open nmW
set_option maxRecDepth 100000 in
set_option maxHeartbeats 4000000 in
theorem schema_k {w : World} {B g nl : Nat} {vk vl : Value} {by_ : Int} {l : List (Kd × Value)} (h : DX w B g vk vl by_ nl l) (hl : l.length ≤ 1048576) (hl2 : ∀ p ∈ l, p.1.fs.length ≤ 1048576) :
    Calls Tryd.prog 21 #[.pointer (some ⟨g, 0, none⟩)] w (OSPost ((l.map (·.1)).map tdOf) w) := by
  obtain ⟨A, ca, rfl⟩ := h.kr.form
  have hg := h.bx.lt
  have hT : ((l.map (·.1)).map tdOf).length = l.length := by simp
  have g0 : ∀ W, Below w.heap.size w W → W.cell? ⟨g, 0, none⟩ = some (.slice A l.length ca) := fun W hW => (h.stay hW).c0
  have kd := fun W (hW : Below w.heap.size w W) => h.stay hW
  have c0 := h.c0
  have hst : PS w ((w.alloc (.cells ⟨[.slice none 0 0]⟩ 24)).alloc (.cells ⟨[.slice none 0 0]⟩ 24)) (.slice none 0 0) [] :=
    ⟨((Below.refl _ _).alloc (Nat.le_refl _) _).alloc (by simp) _, (Blk.new _ _ _).alloc _, Blk.new' (by simp), .nil _ _⟩
  replace hst := Lib.hid hst
  replace kd := Lib.hid kd
  replace hl2 := Lib.hid hl2
  replace hT := Lib.hid hT
  clear h g0
  go_enter Tryd.func21, Tryd.ntmps21
  go_wp2
  go_loopw [14] (fun x wr => SRel w ((l.map (·.1)).map tdOf) x wr) (fun x _ => l.length - (intOf x).toNat)
  case atStart => exact SRel.mk 0 _ [] (Nat.zero_le _) rfl hst.out rfl
  case round =>
    obtain ⟨j, s3, lj, hj, rfl, hP, hlj⟩ := hrel
    rw [hT.out] at hj
    have hljl : lj.length = j := by
      have := congrArg List.length hlj
      rw [List.length_map, List.length_take, hT.out] at this
      omega
    have hlj5 : lj.length ≤ 1048576 := by omega
    replace hljl := Lib.hid hljl
    have hDr := kd.out wr hP.hb
    by_cases hlt : j < l.length
    · obtain ⟨p, hp⟩ := getx hlt
      have hpm := List.mem_of_getElem? hp
      have hs2 := hl2.out p hpm
      obtain ⟨gk, cap, hA, h1, h2, _, v0, v1, v2⟩ := hDr.at_ hp
      injection hA with hA1 hA2 hA3
      subst hA1 hA3
      obtain ⟨A2, c2, hv2⟩ := (hDr.fr p hpm).form
      rw [hv2] at v2
      have g0 : (0 : Int) ≤ (j : Int) := by omega
      have g1 : (j : Int) < l.length := by omega
      have hkt := kn_take hp
      obtain ⟨wo, hwo⟩ : ∃ wo : World, wo = wr := ⟨_, rfl⟩
      subst hwo
      obtain ⟨W1, hW1⟩ : ∃ W1, W1 = wo.alloc (.cells ⟨[.string p.1.nm, .int .i64 p.1.fr, .slice A2 p.1.fs.length c2]⟩ 111) := ⟨_, rfl⟩
      have hs1 : W1.heap.size = wo.heap.size + 1 := by rw [hW1]; simp
      have hB1 : Below wo.heap.size wo W1 := by rw [hW1]; exact (Below.refl _ _).alloc (Nat.le_refl _) _
      have hsi : IC W1 ((wo.alloc (.cells ⟨[.string p.1.nm, .int .i64 p.1.fr, .slice A2 p.1.fs.length c2]⟩ 111)).alloc (.cells ⟨[.string p.1.nm, .slice none 0 0]⟩ 34)) 34 p.1.nm (.slice none 0 0) 9 0 [] := by
        rw [← hW1]
        exact ⟨(Below.refl _ _).alloc (Nat.le_refl _) _, Blk.new _ _ _, .nil _ _ _ _ _⟩
      have hkf : ∀ W (k : Nat) (x : Fd), Below wo.heap.size wo W → p.1.fs[k]? = some x → ∃ gf, A2 = some ⟨gf, 0, none⟩ ∧ W.cell? ⟨gf, k * 3, none⟩ = some (.string x.nm) ∧ W.cell? ⟨gf, k * 3 + 1, none⟩ = some (.int .i64 x.fr) ∧ W.cell? ⟨gf, k * 3 + 2, none⟩ = some (.int .i64 x.fl) := fun W k x hW hx => by
        have hk := (List.getElem?_eq_some_iff.1 hx).1
        have hff := (hDr.stay hW).fr p hpm
        rw [hv2] at hff
        obtain ⟨gf, capf, e, _, _, _, h6⟩ := hff.row (by omega)
        injection e with e1 e2 e3
        obtain ⟨u0, b0, r0⟩ := h6 (k * 3 + 0) _ (flatMap_get (f := fdD) (m := 3) (fun _ => rfl) hx rfl)
        obtain ⟨u1, b1, r1⟩ := h6 (k * 3 + 1) _ (flatMap_get (f := fdD) (m := 3) (fun _ => rfl) hx rfl)
        obtain ⟨u2, b2, r2⟩ := h6 (k * 3 + 2) _ (flatMap_get (f := fdD) (m := 3) (fun _ => rfl) hx rfl)
        rw [r0.v_inv] at b0
        rw [r1.v_inv] at b1
        rw [r2.v_inv] at b2
        exact ⟨gf, e1, b0, b1, b2⟩
      have hw0 := hP.b1.lt
      have hP' := Lib.hid hP
      replace hsi := Lib.hid hsi
      replace hkf := Lib.hid hkf
      replace hs1 := Lib.hid hs1
      replace hB1 := Lib.hid hB1
      replace hkt := Lib.hid hkt
      replace hlj := Lib.hid hlj
      clear hp hpm hDr hW1 hv2 hP
      go_wp2
      go_loopw [24] (fun y wr => ∃ (k : Nat) (u : Value), k ≤ p.1.fs.length ∧ y = .int .i64 k ∧ IC W1 wr 34 p.1.nm u 9 k (((p.1.fs.map (·.nm)).take k).flatMap strD)) (fun y _ => p.1.fs.length - (intOf y).toNat)
      case atStart => exact ⟨0, .slice none 0 0, Nat.zero_le _, rfl, hsi.out⟩
      case round =>
        obtain ⟨k, u, hk, rfl, hI⟩ := hrel
        have hBo : Below wo.heap.size wo wr := hB1.out.trans (hI.hb.mono hB1.out.size)
        have i2 : wr.cell? ⟨wo.heap.size + 1, 1, none⟩ = some u := by rw [← hs1.out]; exact hI.bx.cell 1
        have i3 : wr.frozen? ⟨wo.heap.size + 1, 1, none⟩ = false := by rw [← hs1.out]; exact hI.bx.frozen 1
        have hz : wo.heap.size + 1 < wr.heap.size := by rw [← hs1.out]; exact hI.bx.lt
        clear v0 v1 v2
        by_cases hlk : k < p.1.fs.length
        · obtain ⟨x, hx⟩ := getx hlk
          obtain ⟨gf, rfl, q0, q1, q2⟩ := hkf.out wr k x hBo hx
          have g2 : (0 : Int) ≤ (k : Int) := by omega
          have g3 : (k : Int) < p.1.fs.length := by omega
          have hfk := fdN_next hx
          have hup : ∀ (w1 : World) (v' : Value), ((wr.alloc (.cells ⟨fdV x⟩ 113)).alloc (.cells ⟨[.string x.nm]⟩ 9)).grownBy w1 u.ownBlock → OL w1 (W1.heap.size + 1) NoB 9 1 v' (k + 1) (((p.1.fs.map (·.nm)).take k).flatMap strD ++ strD x.nm) → w1.cell? ⟨wo.heap.size + 1, 1, none⟩ = some u ∧ w1.frozen? ⟨wo.heap.size + 1, 1, none⟩ = false ∧
              IC W1 (w1.setCell ⟨wo.heap.size + 1, 1, none⟩ v') 34 p.1.nm v' 9 (k + 1) (((p.1.fs.map (·.nm)).take (k + 1)).flatMap strD) := fun w1 v' hg hO => by
            have hB := hI.stay (((Below.refl _ _).alloc (Nat.le_refl _) (.cells ⟨fdV x⟩ 113)).alloc (by simp) (.cells ⟨[.string x.nm]⟩ 9))
            have t0 := hB.bx.grown hg (fun e => by have := (hI.ol.lt _ e.symm).1; omega)
            have := hB.put hg (fun q hq => (hI.ol.lt q hq).1) hO
            rw [← hs1.out, hfk]
            exact ⟨t0.cell 1, t0.frozen 1, this⟩
          have hol := Lib.hid hI.ol
          replace hup := Lib.hid hup
          have hs9 : W1.heap.size + 1 ≤ wr.heap.size := hI.bx.lt
          clear hx hI hfk hBo
          go_wp2_with (at_builtin; refine wpList_app rfl (.tmp 29) (.tmp 32) _ rfl (m := 1) (news := strD x.nm) elStr ((hol.out.alloc (.cells ⟨fdV x⟩ 113)).alloc (.cells ⟨[.string x.nm]⟩ 9)) rfl rfl (Src.lit' (by simp) (show RdL (wr.alloc (.cells ⟨fdV x⟩ 113)) _ [.string x.nm] (strD x.nm) from ⟨.v _ rfl, trivial⟩)) rfl (by omega) (by omega) (by simp; omega) ?_; intro v' w1 hO1 hg1 ha1; obtain ⟨B3, d3, rfl⟩ := hO1.form; obtain ⟨t1, t2, t3⟩ := hup.out _ _ hg1 hO1; replace t3 := Lib.hid t3)
          go_roundw
          case rel => exact ⟨k + 1, _, by omega, by go_num, t3.out⟩
          case measure => simp [intOf]; omega
        · have hkn : k = p.1.fs.length := by omega
          subst hkn
          have htk : (p.1.fs.map (·.nm)).take p.1.fs.length = p.1.fs.map (·.nm) := List.take_of_length_le (by simp)
          rw [htk] at hI
          obtain ⟨U, cu, rfl⟩ := hI.ol.form
          have i0 : wr.cell? ⟨wo.heap.size + 1, 0, none⟩ = some (.string p.1.nm) := by rw [← hs1.out]; exact hI.bx.cell 0
          have hPr := hP'.out.stay hBo
          have z1 : wr.cell? ⟨w.heap.size + 1, 0, none⟩ = some s3 := hPr.b1.cell 0
          have hPa := hPr.stay ((Below.refl _ _).alloc (Nat.le_refl _) (.cells ⟨[.string p.1.nm, .slice U p.1.fs.length cu]⟩ 34))
          have hfu : OL (wr.alloc (.cells ⟨[.string p.1.nm, .slice U p.1.fs.length cu]⟩ 34)) (w.heap.size + 1 + 1) NoB 9 1 (.slice U p.1.fs.length cu) (tdOf p.1).attrs.length ((tdOf p.1).attrs.flatMap strD) := by
            have := (hI.ol.base (B' := w.heap.size + 1 + 1) (by have := hs1.out; omega)).alloc (.cells ⟨[.string p.1.nm, .slice U p.1.fs.length cu]⟩ 34)
            simpa [tdOf] using this
          have hap : ∀ q ∈ lj, (Value.slice U p.1.fs.length cu).ownBlock = none ∨ (Value.slice U p.1.fs.length cu).ownBlock ≠ q.2.ownBlock := fun q hq => by
            cases hb : (Value.slice U p.1.fs.length cu).ownBlock with
            | none => exact .inl rfl
            | some b =>
              refine .inr fun he => ?_
              have h1 := (hI.ol.lt b hb).1
              have h2 := ((hP'.out.os.fr q hq).lt b he.symm).2
              have := hs1.out
              omega
          obtain ⟨A3, c3, rfl⟩ := hPr.os.kr.form
          have hkr := Lib.hid hPa.os.kr
          have hup : ∀ (w1 : World) (v' : Value), (wr.alloc (.cells ⟨[.string p.1.nm, .slice U p.1.fs.length cu]⟩ 34)).grownBy w1 (Value.slice A3 lj.length c3).ownBlock → OL w1 (w.heap.size + 1 + 1) NoB 34 2 v' (lj.length + 1) (lj.flatMap tcD ++ tcD (tdOf p.1, .slice U p.1.fs.length cu)) →
              w1.cell? ⟨w.heap.size + 1, 0, none⟩ = some (.slice A3 lj.length c3) ∧ w1.frozen? ⟨w.heap.size + 1, 0, none⟩ = false ∧ PS w (w1.setCell ⟨w.heap.size + 1, 0, none⟩ v') v' (lj ++ [(tdOf p.1, .slice U p.1.fs.length cu)]) := fun w1 v' hg hO => by
            have hlow : ∀ q, (Value.slice A3 lj.length c3).ownBlock = some q → w.heap.size + 1 < q := fun q hq => (hPr.os.kr.lt q hq).1
            have t0 := hPa.b1.grown hg (fun e => by have := hlow _ e.symm; omega)
            exact ⟨t0.cell 0, t0.frozen 0, hPa.put hg (hPa.os.snoc hg hO hfu hap)⟩
          have hsz9 : w.heap.size + 1 + 1 ≤ wr.heap.size := by omega
          replace hup := Lib.hid hup
          clear hI htk hPr hPa hfu hap hBo
          go_wp2_with (at_builtin; refine wpList_app rfl (.tmp 37) (.tmp 39) _ rfl (m := 1) (news := tcD (tdOf p.1, .slice U p.1.fs.length cu)) elTd hkr.out rfl rfl (Src.lit (show RdL wr _ [.string p.1.nm, .slice U p.1.fs.length cu] (tcD (tdOf p.1, .slice U p.1.fs.length cu)) from ⟨.v _ rfl, .v _ rfl, trivial⟩)) rfl (by omega) (by omega) (by simp; omega) ?_; intro v' w1 hO1 hg1 ha1; obtain ⟨B3, d3, rfl⟩ := hO1.form; obtain ⟨t0, t1, t2⟩ := hup.out _ _ hg1 hO1; replace t2 := Lib.hid t2)
          go_roundw
          case rel => exact SRel.mk (j + 1) _ _ (by have := hT.out; omega) (by go_num) t2.out (by rw [hkt.out, List.map_append, hlj.out]; rfl)
          case measure => simp [intOf]; omega
    · have hjn : j = l.length := by omega
      have hlj2 : lj.map (·.1) = (l.map (·.1)).map tdOf := by rw [hlj, List.take_of_length_le (by rw [hT.out]; omega)]
      obtain ⟨U, cu, rfl⟩ := hP.os.kr.form
      have z1 : wr.cell? ⟨w.heap.size + 1, 0, none⟩ = some (.slice U lj.length cu) := hP.b1.cell 0
      have p0 : wr.cell? ⟨w.heap.size, 0, none⟩ = some (.slice none 0 0) := hP.b0.cell 0
      have f0 : wr.frozen? ⟨w.heap.size, 0, none⟩ = false := hP.b0.frozen 0
      have e1 : Blk (wr.setCell ⟨w.heap.size, 0, none⟩ (.slice U lj.length cu)) w.heap.size 24 [.slice U lj.length cu] := hP.b0.set_ 0 _
      have e2 : OSc (wr.setCell ⟨w.heap.size, 0, none⟩ (.slice U lj.length cu)) w.heap.size (.slice U lj.length cu) lj := (hP.os.far (by show w.heap.size < _; omega)).base (by omega)
      have e3 := hP.hb.setCell (p := ⟨w.heap.size, 0, none⟩) (by simp) (.slice U lj.length cu)
      replace e1 := Lib.hid e1
      replace e2 := Lib.hid e2
      replace e3 := Lib.hid e3
      replace hlj2 := Lib.hid hlj2
      clear hP hDr hlj
      go_wp2
      exact bodyPost_cell1 rfl e1.out aggSc rfl rfl ⟨_, _, rfl, e2.out, hlj2.out, e3.out⟩
end evW
end Go.Proofs.YtmadafejenjkcaaDoor
