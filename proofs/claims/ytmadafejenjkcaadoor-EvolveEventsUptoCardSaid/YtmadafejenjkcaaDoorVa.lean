/- The document's answer for changed schemas: the table behind a row of changes, and the schema. -/
import Derived.Test.YtmadafejenjkcaaDoorV8
import Derived.Test.YtmadafejenjkcaaDoorV9
import Derived.OwnWalk
namespace Go.Proofs.YtmadafejenjkcaaDoor
open Go.RowKit Go.Deep
set_option linter.unusedVariables false

/-- the table, the error, its change -/
def TbPost (S : List Td) (L : List Cg) (w : World) (e : Ending) (w' : World) : Prop := ∃ v code at_ T, e = .returned (.tuple #[v, .int .i64 code, .int .i64 at_]) ∧ MdIs S L T code at_ ∧
  (∀ t, T = some t → SmK t ∧ Rd w' (fun b => b < w'.heap.size) v (.sl t.length (t.flatMap kdD))) ∧ Below w.heap.size w w'
theorem TbPost.bad {S : List Td} {L : List Cg} {w w' : World} {v : Value} {code at_ : Int} (h : MdIs S L none code at_) (hb : Below w.heap.size w w') : TbPost S L w (.returned (.tuple #[v, .int .i64 code, .int .i64 at_])) w' :=
  ⟨v, code, at_, none, rfl, h, (fun t h => by cases h), hb⟩
def TRel (w : World) (S : List Td) (L : List Cg) (v x : Value) (wr : World) : Prop :=
  ∃ j : Nat, j ≤ L.length ∧ x = .int .i64 j ∧ Rd wr (fun b => b < wr.heap.size) v (.sl (mdTo S L j).length ((mdTo S L j).flatMap kdD)) ∧ (∀ i, i < j → okAt S L i) ∧ Below w.heap.size w wr
theorem TRel.mk {w : World} {S : List Td} {L : List Cg} {v x : Value} {wr : World} (j : Nat) (h1 : j ≤ L.length) (h2 : x = .int .i64 j) (h3 : Rd wr (fun b => b < wr.heap.size) v (.sl (mdTo S L j).length ((mdTo S L j).flatMap kdD))) (h4 : ∀ i, i < j → okAt S L i) (h5 : Below w.heap.size w wr) : TRel w S L v x wr := ⟨j, h1, h2, h3, h4, h5⟩
theorem no_ok {S : List Td} {L : List Cg} {j : Nat} {c : Cg} (h : L[j]? = some c) (hc : chK (mdTo S L j) c = none) : ¬ okAt S L j := by
  rintro ⟨c', l, h1, h2, _⟩
  rw [h] at h1; injection h1 with h1; subst h1; rw [hc] at h2; cases h2
theorem no_ok' {S : List Td} {L : List Cg} {j : Nat} {c : Cg} {l : List Kd} (h : L[j]? = some c) (hc : chK (mdTo S L j) c = some l) (hs : scC (l.map tdOf) ≠ 0) : ¬ okAt S L j := by
  rintro ⟨c', l', h1, h2, h3⟩
  rw [h] at h1; injection h1 with h1; subst h1; rw [hc] at h2; injection h2 with h2; subst h2; exact hs h3
theorem all_ok {S : List Td} {L : List Cg} {j : Nat} {c : Cg} {l : List Kd} (h : L[j]? = some c) (hc : chK (mdTo S L j) c = some l) (hs : scC (l.map tdOf) = 0) (ho : ∀ i, i < j → okAt S L i) : ∀ i, i < j + 1 → okAt S L i := fun i hi => by
  by_cases e : i = j
  · subst e; exact ⟨c, l, h, hc, hs⟩
  · exact ho i (by omega)
namespace evW
open nmW
set_option maxRecDepth 100000 in
set_option maxHeartbeats 3000000 in
theorem table_k (A B : Option Addr) (ca cb : Nat) (F G : Nat → Prop) (S : List Td) (L : List Cg) (hS : SzT S) (hL : L.length ≤ 1048576) (hC : ∀ c ∈ L, SzC c) (w : World) (hK : KwIs w) (hF : ∀ b, F b → b < w.heap.size) (hG : ∀ b, G b → b < w.heap.size)
    (r : Rd w F (.slice A S.length ca) (.sl S.length (S.flatMap tdD))) (rc : Rd w G (.slice B L.length cb) (.sl L.length (L.flatMap cgD))) :
    Calls Tryd.prog 22 #[.agg #[.slice A S.length ca], .slice B L.length cb] w (TbPost S L w) := by
  have h0 : Below w.heap.size w (w.alloc (.cells ⟨[.slice A S.length ca]⟩ 24)) := (Below.refl _ _).alloc (Nat.le_refl _) _
  have k1 : Calls Tryd.prog 38 #[.agg #[.slice A S.length ca]] (w.alloc (.cells ⟨[.slice A S.length ca]⟩ 24)) fun e w' => e = .returned (.int .i64 (scC S)) ∧ Below (w.alloc (.cells ⟨[.slice A S.length ca]⟩ 24)).heap.size (w.alloc (.cells ⟨[.slice A S.length ca]⟩ 24)) w' :=
    rCheckSchema_k A ca F S hS _ (hK.stay h0) (fun b h => Nat.lt_of_lt_of_le (hF b h) h0.size) (r.under h0 hF)
  have k2 : ∀ W, Below w.heap.size w W → Calls Tryd.prog 39 #[.agg #[.slice A S.length ca]] W fun e w' => ∃ v, e = .returned v ∧ OL w' W.heap.size (fun b => b < w'.heap.size) 75 3 v S.length ((fstK S).flatMap kdD) ∧ Below W.heap.size W w' :=
    fun W hW => first_k A ca F S hS W (fun b h => Nat.lt_of_lt_of_le (hF b h) hW.size) (r.under hW hF)
  have k3 : ∀ (W : World) (B' : Option Addr) (d' : Nat) (l : List Kd) (c : Cg) (A' : Option Addr) (c' : Nat), SmK l → SzC c → Below w.heap.size w W → Rd W (fun b => b < W.heap.size) (.slice A' l.length c') (.sl l.length (l.flatMap kdD)) → Rd W G (.slice B' c.ats.length d') (.sl c.ats.length (c.ats.flatMap strD)) →
      Calls Tryd.prog 40 #[.slice A' l.length c', .agg #[.int .i64 c.kd, .string c.ty, .string c.at_, .string c.nm, .slice B' c.ats.length d', .int .i64 c.n]] W (ChPost l c W) := fun W B' d' l c A' c' hl hc hW ra rb =>
    change_k A' B' c' d' _ G l c (by have := hl.len; omega) (fun k hk => by have := hl.fl k hk; omega) hc.ats.1 W (fun _ h => h) (fun b h => Nat.lt_of_lt_of_le (hG b h) hW.size) ra rb
  have k4 : ∀ (W : World) (l : List Kd) (v : Value), l.length ≤ 17 → (∀ k ∈ l, SzKd k) → Rd W (fun b => b < W.heap.size) v (.sl l.length (l.flatMap kdD)) → Calls Tryd.prog 23 #[v] W (ScPost (l.map tdOf) W) := fun W l v h1 h2 ra => by
    obtain ⟨A', c', rfl, _⟩ := ra.sl_inv
    exact plain_k A' c' _ l (szK_of h1 h2) W (fun _ h => h) ra
  have k5 : ∀ (W : World) (l : List Kd) (v : Value), l.length ≤ 17 → (∀ k ∈ l, SzKd k) → Below w.heap.size w W → Rd W (fun b => b < W.heap.size) v (.sl (l.map tdOf).length ((l.map tdOf).flatMap tdD)) → Calls Tryd.prog 38 #[.agg #[v]] W fun e w' => e = .returned (.int .i64 (scC (l.map tdOf))) ∧ Below W.heap.size W w' := fun W l v h1 h2 hW ra => by
    obtain ⟨A', c', rfl, _⟩ := ra.sl_inv
    exact rCheckSchema_k A' c' _ (l.map tdOf) (szT_tdOf h1 h2) W (hK.stay hW) (fun _ h => h) ra
  replace k1 := Lib.hid k1
  replace k2 := Lib.hid k2
  replace k3 := Lib.hid k3
  replace k4 := Lib.hid k4
  replace k5 := Lib.hid k5
  replace hC := Lib.hid hC
  replace hG := Lib.hid hG
  replace h0 := Lib.hid h0
  replace rc := Lib.hid rc
  clear r hF hS
  by_cases hs : scC S = 0
  · by_cases hlen : 32 < L.length
    · have hmd : MdIs S L none 290 32 := .inr (.inl ⟨hs, hlen, rfl, rfl, rfl⟩)
      rw [hs] at k1
      have g0 : (L.length : Int) > 32 := by omega
      replace hmd := Lib.hid hmd
      go_enter Tryd.func22, Tryd.ntmps22
      go_wp2_with (go_at_call 38; refine k1.out.mono ?_; rintro e w' ⟨rfl, hB1⟩)
      go_ret3
      exact TbPost.bad hmd.out (h0.out.trans (hB1.mono h0.out.size))
    · have g0 : ¬ (L.length : Int) > 32 := by omega
      rw [hs] at k1
      have hok0 : ∀ i, i < 0 → okAt S L i := fun i hi => by omega
      have hgood : ∀ j, j < L.length → (∀ i, i < j → okAt S L i) → ¬ okAt S L j → MdIs S L none 290 j := fun j hj h1 h2 => .inr (.inr (.inl ⟨hs, by omega, j, hj, h1, h2, rfl, rfl, rfl⟩))
      have hfin : (∀ i, i < L.length → okAt S L i) → MdIs S L (some (mdTo S L L.length)) 0 0 := fun h1 => .inr (.inr (.inr ⟨hs, by omega, h1, rfl, rfl, rfl⟩))
      have hsm : ∀ j, (∀ i, i < j → okAt S L i) → SmK (mdTo S L j) := fun j h => SmK.of (md_sc hs h)
      replace hgood := Lib.hid hgood
      replace hfin := Lib.hid hfin
      replace hsm := Lib.hid hsm
      replace hok0 := Lib.hid hok0
      go_enter Tryd.func22, Tryd.ntmps22
      go_wp2_with (first
        | (go_at_call 38; refine k1.out.mono ?_; rintro e w' ⟨rfl, hB1⟩; have hBw := Lib.hid (h0.out.trans (hB1.mono h0.out.size)); have y0 : w'.cell? ⟨w.heap.size, 0, none⟩ = some (.slice A S.length ca) := (Blk.stay (Blk.new w 24 [.slice A S.length ca]) hB1).cell 0)
        | (go_at_call 39; refine (k2.out _ hBw.out).mono ?_; rintro e w2 ⟨v, rfl, hO1, hB2⟩; have hBw2 := Lib.hid (hBw.out.trans (hB2.mono hBw.out.size)); replace hO1 := Lib.hid hO1))
      go_loopw [8, 9] (fun v x wr => TRel w S L v x wr) (fun _ x _ => L.length - (intOf x).toNat)
      case atStart =>
        refine TRel.mk 0 (Nat.zero_le _) rfl ?_ hok0.out hBw2.out
        show Rd _ _ _ (.sl (fstK S).length _)
        rw [fstK_len]
        exact hO1.out.rd (fun b h _ => h) (fun b h h2 => h2)
      case round =>
        obtain ⟨j, hj, rfl, hR, hok, hB⟩ := hrel
        have hm := hsm.out j hok
        replace hok := Lib.hid hok
        replace hm := Lib.hid hm
        by_cases hlt : j < L.length
        · obtain ⟨c, hc⟩ := getx hlt
          have hcs := hC.out c (List.mem_of_getElem? hc)
          obtain ⟨b, off, rfl, hGb, hv, hsl⟩ := rc.out.rowv (m := 6) (fun _ => rfl) hc (by omega)
          have hgB := hG.out b hGb
          obtain ⟨B2, d2, a4, r4⟩ := hsl 4 _ _ rfl
          have v0 : wr.cell? ⟨b, off + j * 6, none⟩ = some (.int .i64 c.kd) := (hB.cell (p := ⟨b, off + j * 6, none⟩) hgB).trans (hv 0 _ rfl)
          have v1 : wr.cell? ⟨b, off + j * 6 + 1, none⟩ = some (.string c.ty) := (hB.cell (p := ⟨b, off + j * 6 + 1, none⟩) hgB).trans (hv 1 _ rfl)
          have v2 : wr.cell? ⟨b, off + j * 6 + 2, none⟩ = some (.string c.at_) := (hB.cell (p := ⟨b, off + j * 6 + 2, none⟩) hgB).trans (hv 2 _ rfl)
          have v3 : wr.cell? ⟨b, off + j * 6 + 3, none⟩ = some (.string c.nm) := (hB.cell (p := ⟨b, off + j * 6 + 3, none⟩) hgB).trans (hv 3 _ rfl)
          have v4 : wr.cell? ⟨b, off + j * 6 + 4, none⟩ = some (.slice B2 c.ats.length d2) := (hB.cell (p := ⟨b, off + j * 6 + 4, none⟩) hgB).trans a4
          have v5 : wr.cell? ⟨b, off + j * 6 + 5, none⟩ = some (.int .i64 c.n) := (hB.cell (p := ⟨b, off + j * 6 + 5, none⟩) hgB).trans (hv 5 _ rfl)
          have g1 : (0 : Int) ≤ (j : Int) := by omega
          have g2 : (j : Int) < L.length := by omega
          obtain ⟨A', c', rfl, _⟩ := hR.sl_inv
          have k3' := Lib.hid (k3.out wr B2 d2 (mdTo S L j) c A' c' hm.out hcs hB hR (r4.under hB hG.out))
          have hbad := fun h => hgood.out j hlt hok.out h
          replace hbad := Lib.hid hbad
          replace hcs := Lib.hid hcs
          clear hv hsl a4 r4
          cases hch : chK (mdTo S L j) c with
          | none =>
            have hno := Lib.hid (hbad.out (no_ok hc hch))
            replace hch := Lib.hid hch
            clear hc
            go_wp2_with (go_at_call 40; refine k3'.out.mono ?_; rintro e w' ⟨v, b, rfl, _, hb0, hB1⟩; obtain rfl := hb0 hch.out; clear hb0)
            go_ret3
            exact TbPost.bad hno.out (hB.trans (hB1.mono hB.size))
          | some l =>
            obtain ⟨s1, s2⟩ := chK_sz hm.out hcs.out hch
            replace s2 := Lib.hid s2
            by_cases hsl2 : scC (l.map tdOf) = 0
            · have hok2 := Lib.hid (all_ok hc hch hsl2 hok.out)
              have hmd := Lib.hid (mdTo_next hc hch)
              replace hch := Lib.hid hch
              clear hc
              go_wp2_with (first
                | (go_at_call 40; refine k3'.out.mono ?_; rintro e w' ⟨v, b, rfl, hs0, _, hB1⟩; obtain ⟨rfl, hR1⟩ := hs0 l hch.out; clear hs0; have hW1 := Lib.hid (hB.trans (hB1.mono hB.size)); replace hR1 := Lib.hid hR1)
                | (go_at_call 23; refine (k4.out _ l _ s1 s2.out hR1.out).mono ?_; rintro e w2 ⟨u, rfl, hO2, hB2⟩; have hW2 := Lib.hid (hW1.out.trans (hB2.mono hW1.out.size)); replace hO2 := Lib.hid hO2)
                | (go_at_call 38; refine (k5.out _ l _ s1 s2.out hW2.out (hO2.out.rd (fun b h _ => h.2) (fun b _ h => h))).mono ?_; rintro e w3 ⟨rfl, hB3⟩; rw [hsl2]))
              go_roundw
              case rel =>
                refine TRel.mk (j + 1) (by omega) (by go_num) ?_ hok2.out (hW2.out.trans (hB3.mono hW2.out.size))
                rw [hmd.out]
                exact ((hR1.out.stay hB2).stay hB3).mono fun b h h2 => h2
              case measure => simp [intOf]; omega
            · have hno := Lib.hid (hbad.out (no_ok' hc hch hsl2))
              have hne : (scC (l.map tdOf) == 0) = false := by simpa using hsl2
              replace hch := Lib.hid hch
              clear hc
              go_wp2_with (first
                | (go_at_call 40; refine k3'.out.mono ?_; rintro e w' ⟨v, b, rfl, hs0, _, hB1⟩; obtain ⟨rfl, hR1⟩ := hs0 l hch.out; clear hs0; have hW1 := Lib.hid (hB.trans (hB1.mono hB.size)); replace hR1 := Lib.hid hR1)
                | (go_at_call 23; refine (k4.out _ l _ s1 s2.out hR1.out).mono ?_; rintro e w2 ⟨u, rfl, hO2, hB2⟩; have hW2 := Lib.hid (hW1.out.trans (hB2.mono hW1.out.size)); replace hO2 := Lib.hid hO2)
                | (go_at_call 38; refine (k5.out _ l _ s1 s2.out hW2.out (hO2.out.rd (fun b h _ => h.2) (fun b _ h => h))).mono ?_; rintro e w3 ⟨rfl, hB3⟩))
              go_ret3
              exact TbPost.bad hno.out (hW2.out.trans (hB3.mono hW2.out.size))
        · obtain rfl : j = L.length := by omega
          have hf := hfin.out hok.out
          replace hf := Lib.hid hf
          replace hR := Lib.hid hR
          replace hB := Lib.hid hB
          go_wp2
          go_ret3
          exact ⟨_, _, _, _, rfl, hf.out, fun t h => by injection h with h; subst h; exact ⟨hm.out, hR.out⟩, hB.out⟩
  · have hmd : MdIs S L none (scC S) 0 := .inl ⟨hs, rfl, rfl, rfl⟩
    have hne : (scC S == 0) = false := by simpa using hs
    replace hmd := Lib.hid hmd
    go_enter Tryd.func22, Tryd.ntmps22
    go_wp2_with (go_at_call 38; refine k1.out.mono ?_; rintro e w' ⟨rfl, hB1⟩)
    go_ret3
    exact TbPost.bad hmd.out (h0.out.trans (hB1.mono h0.out.size))
end evW
end Go.Proofs.YtmadafejenjkcaaDoor
