/- EvolveSchemas: the walk of the law. -/
import Derived.Test.YtmadafejenjkcaaDoorX6
import Derived.Test.YtmadafejenjkcaaDoorX7
import Derived.Test.YtmadafejenjkcaaDoorXb
namespace Go.Proofs.YtmadafejenjkcaaDoor
open Go.RowKit Go.Deep
set_option linter.unusedVariables false
theorem rlT_sz {T : Option (List Kd)} (h : ∀ t, T = some t → SmK t) : (rlT T).length ≤ 16 ∧ ∀ t ∈ rlT T, t.attrs.length ≤ 8 := by
  cases T with
  | none => exact ⟨by simp [rlT], fun t ht => by simp [rlT] at ht⟩
  | some l =>
    have hm := h l rfl
    refine ⟨by have := hm.len; simpa [rlT] using this, fun t ht => ?_⟩
    simp only [rlT, Option.getD_some, List.mem_map] at ht
    obtain ⟨k, hk, rfl⟩ := ht
    have := hm.fl k hk
    simpa [tdOf] using this
/-- the first loop of writes -/
def L1 (w W : World) (Bg Eg : Nat) (vg : Value) (ls : List (Td × Value)) (x : Value) (wr : World) : Prop := ∃ (i : Nat) (lsx : List (Td × Value)), i ≤ ls.length ∧ x = .int .i64 i ∧ LG w W wr Bg Eg vg ls lsx ∧ MK lsx i 0
theorem L1.mk {w W : World} {Bg Eg : Nat} {vg : Value} {ls : List (Td × Value)} {x : Value} {wr : World} (i : Nat) (lsx : List (Td × Value)) (h1 : i ≤ ls.length) (h2 : x = .int .i64 i) (h3 : LG w W wr Bg Eg vg ls lsx) (h4 : MK lsx i 0) : L1 w W Bg Eg vg ls x wr := ⟨i, lsx, h1, h2, h3, h4⟩
/-- the appends that are thrown away -/
def nine : List Value := [.string ⟨#[63]⟩, .string ⟨#[63]⟩, .string ⟨#[63]⟩, .string ⟨#[63]⟩, .string ⟨#[63]⟩, .string ⟨#[63]⟩, .string ⟨#[63]⟩, .string ⟨#[63]⟩, .string ⟨#[63]⟩]
theorem nine_one : ∀ u ∈ nine, u.oneCell' = true := fun u hu => by
  simp [nine] at hu
  subst hu; rfl
def L3 (w W : World) (Bg Eg : Nat) (vg : Value) (ls lsx : List (Td × Value)) (nv x : Value) (wr : World) : Prop := ∃ i N : Nat, i ≤ ls.length ∧ x = .int .i64 i ∧ nv = .int .i64 (N : Int) ∧ 2 ≤ N ∧ N ≤ 1000 + i * 1000 ∧ LG w W wr Bg Eg vg ls lsx
theorem L3.mk {w W : World} {Bg Eg : Nat} {vg : Value} {ls lsx : List (Td × Value)} {nv x : Value} {wr : World} (i N : Nat) (h1 : i ≤ ls.length) (h2 : x = .int .i64 i) (h3 : nv = .int .i64 (N : Int)) (h4 : 2 ≤ N) (h5 : N ≤ 1000 + i * 1000) (h6 : LG w W wr Bg Eg vg ls lsx) : L3 w W Bg Eg vg ls lsx nv x wr := ⟨i, N, h1, h2, h3, h4, h5, h6⟩
/-- the last loop -/
def L4 (w W : World) (Bg Eg : Nat) (vg : Value) (ls : List (Td × Value)) (x : Value) (wr : World) : Prop := ∃ (i : Nat) (lsy : List (Td × Value)), i ≤ ls.length ∧ x = .int .i64 i ∧ LG w W wr Bg Eg vg ls lsy ∧ MA lsy
theorem L4.mk {w W : World} {Bg Eg : Nat} {vg : Value} {ls : List (Td × Value)} {x : Value} {wr : World} (i : Nat) (lsy : List (Td × Value)) (h1 : i ≤ ls.length) (h2 : x = .int .i64 i) (h3 : LG w W wr Bg Eg vg ls lsy) (h4 : MA lsy) : L4 w W Bg Eg vg ls x wr := ⟨i, lsy, h1, h2, h3, h4⟩
namespace evW
open nmW
set_option maxRecDepth 100000 in
set_option maxHeartbeats 16000000 in
theorem law_k (A B : Option Addr) (ca cb : Nat) (F G : Nat → Prop) (S : List Td) (L : List Cg) (hS : SzT S) (hL : L.length ≤ 1048576) (hC : ∀ c ∈ L, SzC c) (w : World) (hK : KwIs w) (hF : ∀ b, F b → b < w.heap.size) (hG : ∀ b, G b → b < w.heap.size)
    (r : Rd w F (.slice A S.length ca) (.sl S.length (S.flatMap tdD))) (rc : Rd w G (.slice B L.length cb) (.sl L.length (L.flatMap cgD))) :
    Calls Tryd.prog 3 #[.agg #[.slice A S.length ca], .slice B L.length cb] w fun e w' => e = .returned (.bool true) ∧ Below w.heap.size w w' := by
  have h0 : Below w.heap.size w (w.alloc (.cells ⟨[.slice A S.length ca]⟩ 24)) := (Below.refl _ _).alloc (Nat.le_refl _) _
  have x0 := Lib.hid (Blk.new w 24 [.slice A S.length ca])
  have k1 := Lib.hid (twinSchema_k A ca F S hS (w.alloc (.cells ⟨[.slice A S.length ca]⟩ 24)) (fun b hb => Nat.lt_of_lt_of_le (hF b hb) h0.size) (r.under h0 hF))
  have k2 := fun (W : World) (hW : Below w.heap.size w W) => twinChanges_k B cb G L hL hC W (fun b hb => Nat.lt_of_lt_of_le (hG b hb) hW.size) (rc.under hW hG)
  have k3 := fun (W : World) (hW : Below w.heap.size w W) => Schema_k A B ca cb F G S L hS hL hC W (hK.stay hW) (fun b hb => Nat.lt_of_lt_of_le (hF b hb) hW.size) (fun b hb => Nat.lt_of_lt_of_le (hG b hb) hW.size) (r.under hW hF) (rc.under hW hG)
  have k4 := fun (W : World) (hW : Below w.heap.size w W) (A' B' : Option Addr) (c' d' : Nat) (r1 : Rd W (fun b => b < W.heap.size) (.slice A' S.length c') (.sl S.length (S.flatMap tdD))) (r2 : Rd W (fun b => b < W.heap.size) (.slice B' L.length d') (.sl L.length (L.flatMap cgD))) =>
    refSchema_k A' B' c' d' _ _ S L hS hL hC W (hK.stay hW) (fun _ h => h) (fun _ h => h) r1 r2
  have hr0 := Lib.hid (show Rd w (fun b => b < w.heap.size) (.slice A S.length ca) (.sl S.length (S.flatMap tdD)) from r.mono fun b _ h => h)
  have hr1 := Lib.hid (show Rd w (fun b => b < w.heap.size) (.slice B L.length cb) (.sl L.length (L.flatMap cgD)) from rc.mono fun b _ h => h)
  replace h0 := Lib.hid h0
  replace k2 := Lib.hid k2
  replace k3 := Lib.hid k3
  replace k4 := Lib.hid k4
  clear r rc hK hF hG
  go_enter Tryd.func3, Tryd.ntmps3
  go_upto_region 2 with (go_at_call 6; refine k1.out.mono ?_; rintro e w1 ⟨v1, rfl, hO1, hB1⟩; obtain ⟨A1, c1, rfl⟩ := hO1.form)
  -- s2 in its box
  have m0 := (x0.out.stay hB1)
  have bw1 : Below w.heap.size w (w1.alloc (.cells ⟨[.slice A1 S.length c1]⟩ 24)) := (h0.out.trans (hB1.mono h0.out.size)).alloc ((h0.out.trans (hB1.mono h0.out.size)).size) _
  have n1 : w.heap.size < w1.heap.size := m0.lt
  have m0a := m0.alloc (.cells ⟨[.slice A1 S.length c1]⟩ 24)
  have m5 : Blk (w1.alloc (.cells ⟨[.slice A1 S.length c1]⟩ 24)) w1.heap.size 24 [.slice A1 S.length c1] := Blk.new _ _ _
  have q2 : Rd (w1.alloc (.cells ⟨[.slice A1 S.length c1]⟩ 24)) (fun b => b < w1.heap.size) (.slice A1 S.length c1) (.sl S.length (S.flatMap tdD)) := (hO1.rd (G := fun b => b < w1.heap.size) (fun b _ h => h) (fun b _ h => h)).alloc _
  replace m0a := Lib.hid m0a
  replace m5 := Lib.hid m5
  replace q2 := Lib.hid q2
  replace bw1 := Lib.hid bw1
  clear m0 hO1 hB1 k1 x0
  go_upto_region 3 with (go_at_call 7; refine (k2.out _ bw1.out).mono ?_; rintro e w2 ⟨v2, rfl, hO2, hB2⟩; obtain ⟨A2, c2, rfl⟩ := hO2.form)
  have n2 : w1.heap.size < w2.heap.size := (m5.out.stay hB2).lt
  have m0b := Lib.hid (m0a.out.stay hB2)
  have m5b := Lib.hid (m5.out.stay hB2)
  have q2b := Lib.hid (q2.out.stay hB2)
  have q3 : Rd w2 (fun b => b < w2.heap.size) (.slice A2 L.length c2) (.sl L.length (L.flatMap cgD)) := hO2.rd (fun b _ h => h) (fun b _ h => h)
  have bw2 := Lib.hid (bw1.out.trans (hB2.mono bw1.out.size))
  replace q3 := Lib.hid q3
  have y2 : w2.cell? ⟨w.heap.size, 0, none⟩ = some (.slice A S.length ca) := m0b.out.cell 0
  clear hO2 hB2 k2 m0a m5 q2 bw1
  go_upto_region 4 with (go_at_call 8; refine (k3.out _ bw2.out).mono ?_; rintro e w3 ⟨vg, code, at_, T, ls, rfl, hM, hSm, hOg, hls, hB3⟩; obtain ⟨Ag, cg, rfl⟩ := hOg.kr.form)
  have hlen : ls.length = (rlT T).length := by rw [← hls, List.length_map]
  obtain ⟨hz1, hz2⟩ := rlT_sz hSm
  have m0c := m0b.out.stay hB3
  have m5c := m5b.out.stay hB3
  have n3 : w2.heap.size ≤ w3.heap.size := hB3.size
  have bw3 : Below w.heap.size w (w3.alloc (.cells ⟨[.slice Ag ls.length cg]⟩ 24)) := (bw2.out.trans (hB3.mono bw2.out.size)).alloc ((bw2.out.trans (hB3.mono bw2.out.size)).size) _
  have z2 : w3.cell? ⟨w.heap.size, 0, none⟩ = some (.slice A S.length ca) := m0c.cell 0
  have hb3a : Below w2.heap.size w2 (w3.alloc (.cells ⟨[.slice Ag ls.length cg]⟩ 24)) := hB3.alloc hB3.size _
  have m0d := Lib.hid (m0b.out.stay hb3a)
  have m5d := Lib.hid (m5b.out.stay hb3a)
  have m7 := Lib.hid (Blk.new w3 24 [.slice Ag ls.length cg])
  have hOg' := Lib.hid (hOg.stay ((Below.refl _ _).alloc (Nat.le_refl _) (.cells ⟨[.slice Ag ls.length cg]⟩ 24)))
  have hlo1 : ∀ q, (Value.slice Ag ls.length cg).ownBlock = some q → q < w3.heap.size := fun q hq => (hOg.kr.lt q hq).2
  have hlo2 : ∀ p ∈ ls, ∀ q, p.2.ownBlock = some q → q < w3.heap.size := fun p hp q hq => ((hOg.fr p hp).lt q hq).2
  have q2d := Lib.hid (q2b.out.stay hb3a)
  have q3d := Lib.hid (q3.out.stay hb3a)
  replace bw3 := Lib.hid bw3
  replace hM := Lib.hid hM
  replace hlo1 := Lib.hid hlo1
  replace hlo2 := Lib.hid hlo2
  replace hls := Lib.hid hls
  replace hlen := Lib.hid hlen
  replace hz2 := Lib.hid hz2
  clear m0b m5b q2b q3 y2 m0c m5c hb3a hB3 hOg hSm
  have l3 : w.heap.size < w3.heap.size := by omega
  go_upto_region 5 with (go_at_call 8; refine (k3.out _ bw3.out).mono ?_; rintro e w4 ⟨vo, code', at', T', ls', rfl, hM', _, hOo, hls', hB4⟩; obtain ⟨Ao, co, rfl⟩ := hOo.kr.form; obtain ⟨e1, e2, e3⟩ := hM.out.uniq hM'; obtain rfl := e1.symm; obtain rfl := e2.symm; obtain rfl := e3.symm)
  have n4 : w3.heap.size + 1 ≤ w4.heap.size := by have := hB4.size; simpa using this
  have bw4 : Below w.heap.size w (w4.alloc (.cells ⟨[.slice Ao ls'.length co]⟩ 24)) := (bw3.out.trans (hB4.mono bw3.out.size)).alloc ((bw3.out.trans (hB4.mono bw3.out.size)).size) _
  have hb4a : Below (w3.alloc (.cells ⟨[.slice Ag ls.length cg]⟩ 24)).heap.size (w3.alloc (.cells ⟨[.slice Ag ls.length cg]⟩ 24)) (w4.alloc (.cells ⟨[.slice Ao ls'.length co]⟩ 24)) := hB4.alloc hB4.size _
  have u5 : w4.cell? ⟨w1.heap.size, 0, none⟩ = some (.slice A1 S.length c1) := (m5d.out.stay hB4).cell 0
  have m0e := Lib.hid (m0d.out.stay hb4a)
  have m5e := Lib.hid (m5d.out.stay hb4a)
  have m7e := Lib.hid (m7.out.stay hb4a)
  have hOge := Lib.hid (hOg'.out.stay hb4a)
  have m10 := Lib.hid (Blk.new w4 24 [.slice Ao ls'.length co])
  have q2e := Lib.hid (q2d.out.stay hb4a)
  have q3e := Lib.hid (q3d.out.stay hb4a)
  have q4e := Lib.hid ((hOo.rd (G := fun b => w3.heap.size + 1 ≤ b ∧ b < w4.heap.size) (fun b h1 h2 => ⟨by simp at h1; omega, h2⟩)).alloc (.cells ⟨[.slice Ao ls'.length co]⟩ 24))
  replace bw4 := Lib.hid bw4
  replace hls' := Lib.hid hls'
  clear m0d m5d m7 hOg' q2d q3d hb4a hB4 hOo hM' k3 z2
  have r1 := Lib.hid (q2e.out.mono (G := fun b => b < (w4.alloc (.cells ⟨[.slice Ao ls'.length co]⟩ 24)).heap.size) fun b h _ => by simp; omega)
  have r2 := Lib.hid (q3e.out.mono (G := fun b => b < (w4.alloc (.cells ⟨[.slice Ao ls'.length co]⟩ 24)).heap.size) fun b h _ => by simp; omega)
  have n1' : w1.heap.size < w4.heap.size := by omega
  go_upto_region 6 with (go_at_call 9; refine (k4.out _ bw4.out _ _ _ _ r1.out r2.out).mono ?_; rintro e w5 ⟨vw, code'', at'', T'', rfl, hM'', _, hRw, hB5⟩; obtain ⟨Aw, cw, rfl, _⟩ := hRw.sl_inv; obtain ⟨e1, e2, e3⟩ := hM.out.uniq hM''; obtain rfl := e1.symm; obtain rfl := e2.symm; obtain rfl := e3.symm)
  -- what is compared, and the world in which the answer is written over
  have bw5 : Below w.heap.size w (w5.alloc (.cells ⟨[.slice Aw (rlT T).length cw]⟩ 24)) := (bw4.out.trans (hB5.mono bw4.out.size)).alloc ((bw4.out.trans (hB5.mono bw4.out.size)).size) _
  have n5 : w4.heap.size + 1 ≤ w5.heap.size := by have := hB5.size; simpa using this
  have hb5a : Below (w4.alloc (.cells ⟨[.slice Ao ls'.length co]⟩ 24)).heap.size (w4.alloc (.cells ⟨[.slice Ao ls'.length co]⟩ 24)) (w5.alloc (.cells ⟨[.slice Aw (rlT T).length cw]⟩ 24)) := hB5.alloc hB5.size _
  have t7 : w5.cell? ⟨w3.heap.size, 0, none⟩ = some (.slice Ag ls.length cg) := (m7e.out.stay hB5).cell 0
  have t10 : w5.cell? ⟨w4.heap.size, 0, none⟩ = some (.slice Ao ls'.length co) := (m10.out.stay hB5).cell 0
  have l35 : w3.heap.size < w5.heap.size := by omega
  have l45 : w4.heap.size < w5.heap.size := by omega
  have hlen' : ls'.length = (rlT T).length := by rw [← hls'.out, List.length_map]
  have kcmp : ∀ (W : World) (A' B' : Option Addr) (n m c' d' : Nat) (Z : List Td), n = Z.length → m = Z.length → Z.length ≤ 1048576 → (∀ t ∈ Z, t.attrs.length ≤ 1048576) → Rd W (fun b => b < W.heap.size) (.slice A' n c') (.sl n (Z.flatMap tdD)) → Rd W (fun b => b < W.heap.size) (.slice B' m d') (.sl m (Z.flatMap tdD)) →
      Calls Tryd.prog 10 #[.agg #[.slice A' n c'], .agg #[.slice B' m d']] W fun e w' => e = .returned (.bool true) ∧ Below W.heap.size W w' := fun W A' B' n m c' d' Z hn hm h1 h2 ra rb => by
    subst hn hm
    exact sameSchema_k A' B' c' d' _ _ Z h1 h2 W (fun _ h => h) (fun _ h => h) ra rb
  have hZ1 : (rlT T).length ≤ 1048576 := by omega
  have hZ2 : ∀ t ∈ rlT T, t.attrs.length ≤ 1048576 := fun t ht => by have := hz2.out t ht; omega
  have rgot : ∀ W, Below (w5.alloc (.cells ⟨[.slice Aw (rlT T).length cw]⟩ 24)).heap.size (w5.alloc (.cells ⟨[.slice Aw (rlT T).length cw]⟩ 24)) W → OSc W w2.heap.size (.slice Ag ls.length cg) ls := fun W hW => (hOge.out.stay hb5a).stay hW
  have roth : ∀ W, Below (w5.alloc (.cells ⟨[.slice Aw (rlT T).length cw]⟩ 24)).heap.size (w5.alloc (.cells ⟨[.slice Aw (rlT T).length cw]⟩ 24)) W → Rd W (fun b => w3.heap.size + 1 ≤ b ∧ b < w4.heap.size) (.slice Ao ls'.length co) (.sl ls'.length ((rlT T).flatMap tdD)) := fun W hW => by
    have := (q4e.out.stay hb5a).stay hW
    rw [hls'.out] at this
    exact this
  have rwan : ∀ W, Below (w5.alloc (.cells ⟨[.slice Aw (rlT T).length cw]⟩ 24)).heap.size (w5.alloc (.cells ⟨[.slice Aw (rlT T).length cw]⟩ 24)) W → Rd W (fun b => w4.heap.size + 1 ≤ b ∧ b < w5.heap.size) (.slice Aw (rlT T).length cw) (.sl (rlT T).length ((rlT T).flatMap tdD)) := fun W hW =>
    ((hRw.mono (G := fun b => w4.heap.size + 1 ≤ b ∧ b < w5.heap.size) fun b h _ => by simp at h; omega).alloc _).stay hW
  have kgw : ∀ W, Below (w5.alloc (.cells ⟨[.slice Aw (rlT T).length cw]⟩ 24)).heap.size (w5.alloc (.cells ⟨[.slice Aw (rlT T).length cw]⟩ 24)) W → Calls Tryd.prog 10 #[.agg #[.slice Ag ls.length cg], .agg #[.slice Aw (rlT T).length cw]] W fun e w' => e = .returned (.bool true) ∧ Below W.heap.size W w' := fun W hW => by
    have hsz := hW.size
    simp at hsz
    have hg := (rgot W hW).rd (G := fun b => b < W.heap.size) (fun b _ h => h)
    rw [hls.out] at hg
    exact kcmp W _ _ _ _ _ _ (rlT T) hlen.out rfl hZ1 hZ2 hg ((rwan W hW).mono fun b h _ => by omega)
  have kow : ∀ W, Below (w5.alloc (.cells ⟨[.slice Aw (rlT T).length cw]⟩ 24)).heap.size (w5.alloc (.cells ⟨[.slice Aw (rlT T).length cw]⟩ 24)) W → Calls Tryd.prog 10 #[.agg #[.slice Ao ls'.length co], .agg #[.slice Aw (rlT T).length cw]] W fun e w' => e = .returned (.bool true) ∧ Below W.heap.size W w' := fun W hW => by
    have hsz := hW.size
    simp at hsz
    exact kcmp W _ _ _ _ _ _ (rlT T) hlen' rfl hZ1 hZ2 ((roth W hW).mono fun b h _ => by omega) ((rwan W hW).mono fun b h _ => by omega)
  have hST : ∀ W, Below (w5.alloc (.cells ⟨[.slice Aw (rlT T).length cw]⟩ 24)).heap.size (w5.alloc (.cells ⟨[.slice Aw (rlT T).length cw]⟩ 24)) W → LG w W W w2.heap.size w3.heap.size (.slice Ag ls.length cg) ls ls ∧ ST W w2.heap.size w3.heap.size w.heap.size w1.heap.size w3.heap.size w4.heap.size w5.heap.size (.slice A S.length ca) (.slice A1 S.length c1) (.slice B L.length cb) (.slice A2 L.length c2) (.slice Ag ls.length cg) (.slice Ao ls'.length co) (.slice Aw (rlT T).length cw) S L (rlT T) ∧ w5.heap.size < W.heap.size := fun W hW => by
    have hsz := hW.size
    simp at hsz
    have hbW := bw5.trans (hW.mono bw5.size)
    have hb4W := hb5a.trans (hW.mono hb5a.size)
    have ro' := (roth W hW).mono (G := Out W w2.heap.size w3.heap.size) fun b h h2 => ⟨h2, .inr (by omega)⟩
    rw [hlen'] at ro'
    refine ⟨⟨Nat.le_refl _, hbW, fun _ _ => rfl, rgot W hW, SameL.refl _⟩, ⟨⟨by omega, .inl (by omega)⟩, ⟨by omega, .inl (by omega)⟩, ⟨by omega, .inr (by omega)⟩, ⟨by omega, .inr (by omega)⟩, ⟨by omega, .inr (by omega)⟩, ?_, ?_, ?_, ?_, ?_, ?_, ?_, ?_, ?_, ?_, ?_⟩, by omega⟩
    · exact (m0e.out.stay hb4W).cell 0
    · exact (m5e.out.stay hb4W).cell 0
    · exact (m7e.out.stay hb4W).cell 0
    · exact (m10.out.stay hb4W).cell 0
    · exact ((Blk.new w5 24 [.slice Aw (rlT T).length cw]).stay hW).cell 0
    · exact (hr0.out.under hbW (fun b h => h)).mono fun b h h2 => ⟨h2, .inl (by omega)⟩
    · exact (q2e.out.stay hb4W).mono fun b h h2 => ⟨h2, .inl (by omega)⟩
    · exact (hr1.out.under hbW (fun b h => h)).mono fun b h h2 => ⟨h2, .inl (by omega)⟩
    · exact (q3e.out.stay hb4W).mono fun b h h2 => ⟨h2, .inl (by omega)⟩
    · rw [hlen']; exact ro'
    · exact (rwan W hW).mono fun b h h2 => ⟨h2, .inr (by omega)⟩
  have hll : ls.length ≤ 16 := by rw [hlen.out]; exact hz1
  have hla : ∀ p ∈ ls, p.1.attrs.length ≤ 8 := fun p hp => hz2.out p.1 (by rw [← hls.out]; exact List.mem_map_of_mem hp)
  have hBg : w.heap.size ≤ w2.heap.size := by omega
  have tok1 : True := trivial
  replace kgw := Lib.hid kgw
  replace kow := Lib.hid kow
  replace kcmp := Lib.hid kcmp
  replace hST := Lib.hid hST
  replace hla := Lib.hid hla
  replace hZ2 := Lib.hid hZ2
  replace hlen' := Lib.hid hlen'
  clear m0e m5e m7e hOge m10 q2e q3e q4e bw4 r1 r2 u5 hRw hB5 hb5a rgot roth rwan bw5 k4 hM hM'' h0 hr0 hr1 hz2 hls hls'
  go_wp2_with (first
    | (have _t := tok1; go_at_call 10; refine (kgw.out _ (Below.refl _ _)).mono ?_; clear _t tok1; rintro e w6 ⟨rfl, hB6⟩; have y7 : w6.cell? ⟨w4.heap.size, 0, none⟩ = some (.slice Ao ls'.length co) := (hST.out w6 hB6).2.1.c10; have y8 : w6.cell? ⟨w5.heap.size, 0, none⟩ = some (.slice Aw (rlT T).length cw) := (hST.out w6 hB6).2.1.c13)
    | (go_at_call 10; refine (kow.out w6 hB6).mono ?_; rintro e W ⟨rfl, hB7⟩; have hF := Lib.hid (hST.out W (hB6.trans (hB7.mono hB6.size)))))
  clear y7 y8 hB6 hB7 t7 t10 kgw kow
  obtain ⟨hLW, hSTW, hsW⟩ := hF.out
  have hEg : w3.heap.size ≤ W.heap.size := by omega
  have hLW' := Lib.hid hLW
  have hST' := Lib.hid hSTW
  clear hF hST hLW hSTW
  go_loopw [16] (fun x wr => L1 w W w2.heap.size w3.heap.size (.slice Ag ls.length cg) ls x wr) (fun x _ => ls.length - (intOf x).toNat)
  case atStart => exact L1.mk 0 ls (Nat.zero_le _) rfl hLW'.out (MK.start _)
  case round =>
    obtain ⟨i, lsx, hi, rfl, hLG, hMK⟩ := hrel
    have y7 : wr.cell? ⟨w3.heap.size, 0, none⟩ = some (.slice Ag ls.length cg) := hLG.cell hST'.out.o7 hST'.out.c7
    by_cases hlt : i < ls.length
    · obtain ⟨p, hp⟩ := getx hlt
      have hpa := hla.out p (List.mem_of_getElem? hp)
      have hi26 : i < 26 := by omega
      obtain ⟨q, hq, hq2, hql⟩ := hLG.sm.get hp
      obtain ⟨gk, cap, hA, b1, b2, _, v0, v1⟩ := hLG.os.at_ hq
      injection hA with hA1 hA2 hA3
      subst hA1 hA3
      clear hA2
      obtain ⟨Ai, ci, hvi⟩ := (hLG.os.fr q (List.mem_of_getElem? hq)).form
      rw [hvi] at v1
      rw [hql] at hvi v1
      have hpv : p.2 = .slice Ai p.1.attrs.length ci := by rw [← hq2]; exact hvi
      have g0 : (0 : Int) ≤ (i : Int) := by omega
      have g1 : (i : Int) < ls.length := by omega
      have hrow : ∀ b, p.2.ownBlock = some b → b < w3.heap.size := fun b hb => hlo2.out p (List.mem_of_getElem? hp) b hb
      replace hrow := Lib.hid hrow
      replace hLG := Lib.hid hLG
      replace hMK := Lib.hid hMK
      clear hq hq2 hql hvi v0
      replace hpv := Lib.hid hpv
      have hp' := Lib.hid hp
      clear hp
      go_wp2
      go_loopw [17] (fun y wr => ∃ (j : Nat) (lsy : List (Td × Value)), j ≤ p.1.attrs.length ∧ y = .int .i64 j ∧ LG w W wr w2.heap.size w3.heap.size (.slice (some ⟨gk, 0, none⟩) ls.length cg) ls lsy ∧ MK lsy i j) (fun y _ => p.1.attrs.length - (intOf y).toNat)
      case atStart => exact ⟨0, lsx, Nat.zero_le _, rfl, hLG.out, hMK.out⟩
      case round =>
        obtain ⟨j, lsy, hj, rfl, hLG, hMK⟩ := hrel
        obtain ⟨q, hq, hq2, hql⟩ := hLG.sm.get hp'.out
        have kf : ∀ W2, Below wr.heap.size wr W2 → W2.cell? ⟨w3.heap.size, 0, none⟩ = some (.slice (some ⟨gk, 0, none⟩) ls.length cg) ∧ W2.cell? ⟨gk, i * 2 + 1, none⟩ = some (.slice Ai p.1.attrs.length ci) := fun W2 hW2 => by
          have h2 := hLG.stay hW2
          obtain ⟨gk', cap', hA, _, _, _, _, v1⟩ := h2.os.at_ hq
          injection hA with hA1 hA2 hA3
          injection hA1 with hA1
          injection hA1 with hA1
          subst hA1
          rw [hq2, hpv.out] at v1
          exact ⟨h2.cell hST'.out.o7 hST'.out.c7, v1⟩
        obtain ⟨y7, y8⟩ := kf wr (Below.refl _ _)
        by_cases hlj : j < p.1.attrs.length
        · have hjq : j < q.1.attrs.length := by omega
          have h0 : (0 : Int) ≤ (j : Int) := by omega
          have h1 : (j : Int) < p.1.attrs.length := by omega
          have hofr := hLG.os.fr q (List.mem_of_getElem? hq)
          obtain ⟨ga, capa, hva, _, hga, _, _⟩ := hofr.row (by omega)
          have hva2 := hva
          rw [hq2, hpv.out] at hva2
          injection hva2 with e1 e2 e3
          subst e1
          have kg : ∀ W2, Below wr.heap.size wr W2 → (∃ u, W2.cell? ⟨ga, j, none⟩ = some u) ∧ W2.frozen? ⟨ga, j, none⟩ = false ∧ LG w W (W2.setCell ⟨ga, j, none⟩ (.string (mkS i))) w2.heap.size w3.heap.size (.slice (some ⟨gk, 0, none⟩) ls.length cg) ls (lsy.set i ({ q.1 with attrs := q.1.attrs.set j (mkS i) }, q.2)) := fun W2 hW2 => by
            have h2 := hLG.stay hW2
            have ho2 := h2.os.fr q (List.mem_of_getElem? hq)
            rw [hva] at ho2
            obtain ⟨g', cap', e', _, _, hfz, hcell⟩ := ho2.row (by omega)
            injection e' with e1
            injection e1 with e1
            injection e1 with e1
            subst e1
            obtain ⟨x, hx⟩ := getx hjq
            obtain ⟨u, hu, _⟩ := hcell j (.v (.string x)) (by
              have := flatMap_get (f := strD) (m := 1) (fun _ => rfl) hx (j := 0) rfl
              simpa using this)
            refine ⟨⟨u, hu⟩, hfz _, h2.write hBg hEg grown_set (fun b hb => ?_) (h2.os.setA hq hva hjq) (h2.sm.set hq rfl (by simp))⟩
            injection hb with hb
            subst hb
            have hl := (ho2.lt ga rfl).1
            refine ⟨hl, hrow.out ga ?_⟩
            rw [← hq2, hva]; rfl
          have hMK2 := Lib.hid (hMK.set hq hjq)
          obtain ⟨u0, y9⟩ := (kg wr (Below.refl _ _)).1
          have y10 := (kg wr (Below.refl _ _)).2.1
          have hgs : w3.heap.size < wr.heap.size := (hLG.out hST'.out.o7).1
          have hgs2 : gk < wr.heap.size := World.block_lt_of_cell? wr _ y8
          have hgs3 : ga < wr.heap.size := hga
          replace kf := Lib.hid kf
          replace kg := Lib.hid kg
          clear hLG hMK hofr hq hva hjq hq2 hql
          go_upto_region 14 with fail
          go_region_law ((go_simp; go_at_call 11; refine (mark_k i hi26 _).mono ?_; rintro e W2 ⟨rfl, hB2⟩; have hb2 : Below wr.heap.size wr W2 := ((Below.refl _ _).drew).trans hB2; obtain ⟨z7, z8⟩ := kf.out W2 hb2; obtain ⟨⟨u2, z9⟩, z10, z11⟩ := kg.out W2 hb2; replace z11 := Lib.hid z11))
          all_goals
            clear hb2
            go_wp2
            go_roundw
            case rel => exact ⟨j + 1, _, by omega, by go_num, z11.out, hMK2.out⟩
            case measure => simp [intOf]; omega
        · have hMK2 := Lib.hid (hMK.next hq (by omega))
          replace hLG := Lib.hid hLG
          clear hMK kf hq
          go_wp2
          go_roundw
          case rel => exact L1.mk (i + 1) lsy (by omega) (by go_num) hLG.out hMK2.out
          case measure => simp [intOf]; omega
    · have hMA := Lib.hid (hMK.all (by have := hLG.sm.1; omega))
      replace hLG := Lib.hid hLG
      clear hMK
      have hsmx : lsx.length = ls.length := hLG.out.sm.1
      replace hsmx := Lib.hid hsmx
      have hLa := Lib.hid (hLG.out.stay ((Below.refl _ _).alloc (Nat.le_refl _) (.cells ⟨[.string ⟨#[]⟩, .slice none 0 0, .string ⟨#[]⟩, .slice none 0 0]⟩ 34)))
      have hkr : OL (wr.alloc (.cells ⟨[.string ⟨#[]⟩, .slice none 0 0, .string ⟨#[]⟩, .slice none 0 0]⟩ 34)) w2.heap.size (fun _ => False) 34 2 (.slice Ag ls.length cg) ls.length (lsx.flatMap tcD) := by
        have := hLa.out.os.kr
        rw [hsmx.out] at this
        exact this
      have hup : ∀ (W1 : World), (wr.alloc (.cells ⟨[.string ⟨#[]⟩, .slice none 0 0, .string ⟨#[]⟩, .slice none 0 0]⟩ 34)).grownBy W1 (Value.slice Ag ls.length cg).ownBlock → OL W1 w2.heap.size (fun _ => False) 34 2 (.slice Ag ls.length cg) ls.length (lsx.flatMap tcD) → LG w W W1 w2.heap.size w3.heap.size (.slice Ag ls.length cg) ls lsx := fun W1 hg hO =>
        hLa.out.write hBg hEg hg (fun b hb => ⟨(hkr.lt b hb).1, hlo1.out b hb⟩) (hLa.out.os.keepT hg (by rw [hsmx.out]; exact hO)) hLa.out.sm
      have hnews : ∀ (j : Nat) (u : Value), ([.string ⟨#[]⟩, .slice none 0 0, .string ⟨#[]⟩, .slice none 0 0] : List Value)[j]? = some u → (wr.alloc (.cells ⟨[.string ⟨#[]⟩, .slice none 0 0, .string ⟨#[]⟩, .slice none 0 0]⟩ 34)).cell? ((⟨wr.heap.size, 0, none⟩ : Addr).add j) = some u := fun j u hj => by
        rw [addr_add0, (Blk.new wr 34 [.string ⟨#[]⟩, .slice none 0 0, .string ⟨#[]⟩, .slice none 0 0]).cell]
        exact hj
      have hone : ∀ u ∈ ([.string ⟨#[]⟩, .slice none 0 0, .string ⟨#[]⟩, .slice none 0 0] : List Value), u.oneCell' = true := fun u hu => by simp at hu; rcases hu with rfl | rfl | rfl | rfl <;> rfl
      have hwb : w2.heap.size ≤ wr.heap.size := by have := hLG.out.sz; omega
      replace hkr := Lib.hid hkr
      replace hup := Lib.hid hup
      replace hnews := Lib.hid hnews
      replace hone := Lib.hid hone
      go_wp2_with (at_builtin; refine wpList_app_keep rfl (.tmp 96) (.tmp 99) _ rfl (m := 2) (newsV := [.string ⟨#[]⟩, .slice none 0 0, .string ⟨#[]⟩, .slice none 0 0]) (ad := ⟨wr.heap.size, 0, none⟩) elTd hkr.out rfl rfl rfl hnews.out hone.out (by omega) (by omega) (by simp; omega) (by omega) ?_; intro A9 c9 W1 hO9 hg9; have hLG1 := Lib.hid (hup.out W1 hg9 hO9); clear hO9 hg9)
      clear hkr hup hnews hone hLa y7
      go_loopw [18, 19] (fun nv x wr => L3 w W w2.heap.size w3.heap.size (.slice Ag ls.length cg) ls lsx nv x wr) (fun _ x _ => ls.length - (intOf x).toNat)
      case atStart => exact L3.mk 0 (ls.length + 2) (Nat.zero_le _) rfl (by go_num) (by omega) (by omega) hLG1.out
      case round =>
        obtain ⟨i, N, hi, rfl, rfl, hN1, hN2, hLG⟩ := hrel
        have y7 : wr.cell? ⟨w3.heap.size, 0, none⟩ = some (.slice Ag ls.length cg) := hLG.cell hST'.out.o7 hST'.out.c7
        by_cases hlt : i < ls.length
        · obtain ⟨p, hp⟩ := getx hlt
          have hpa := hla.out p (List.mem_of_getElem? hp)
          obtain ⟨q, hq, hq2, hql⟩ := hLG.sm.get hp
          obtain ⟨gk, cap, hA, b1, b2, _, v0, v1⟩ := hLG.os.at_ hq
          injection hA with hA1 hA2 hA3
          subst hA1 hA3
          clear hA2
          obtain ⟨Ai, ci, hvi⟩ := (hLG.os.fr q (List.mem_of_getElem? hq)).form
          have hvi' := hvi
          rw [hvi] at v1
          rw [hql] at hvi v1
          have g0 : (0 : Int) ≤ (i : Int) := by omega
          have g1 : (i : Int) < ls.length := by omega
          have hw1 : IntKind.i64.wrap ((N : Int) + ((p.1.attrs.length : Int) + 9)) = (N : Int) + ((p.1.attrs.length : Int) + 9) := by rw [IntKind.wrap_i64]; omega
          have hrow : ∀ b, p.2.ownBlock = some b → b < w3.heap.size := fun b hb => hlo2.out p (List.mem_of_getElem? hp) b hb
          have hLa := hLG.stay ((Below.refl _ _).alloc (Nat.le_refl _) (.cells ⟨nine⟩ 9))
          have hfr : OL (wr.alloc (.cells ⟨nine⟩ 9)) w2.heap.size (fun _ => False) 9 1 (.slice Ai p.1.attrs.length ci) p.1.attrs.length (q.1.attrs.flatMap strD) := by
            have := hLa.os.fr q (List.mem_of_getElem? hq)
            rw [hvi, hql] at this
            exact this
          have hup : ∀ (W1 : World), (wr.alloc (.cells ⟨nine⟩ 9)).grownBy W1 (Value.slice Ai p.1.attrs.length ci).ownBlock → OL W1 w2.heap.size (fun _ => False) 9 1 (.slice Ai p.1.attrs.length ci) p.1.attrs.length (q.1.attrs.flatMap strD) → LG w W W1 w2.heap.size w3.heap.size (.slice (some ⟨gk, 0, none⟩) ls.length cg) ls lsx := fun W1 hg hO =>
            hLa.write hBg hEg hg (fun b hb => ⟨(hfr.lt b hb).1, hrow b (by rw [← hq2, hvi]; exact hb)⟩) (hLa.os.keepA hq (by rw [hvi]; exact hg) (by rw [hvi, hql]; exact hO)) hLa.sm
          have hnews : ∀ (j : Nat) (u : Value), nine[j]? = some u → (wr.alloc (.cells ⟨nine⟩ 9)).cell? ((⟨wr.heap.size, 0, none⟩ : Addr).add j) = some u := fun j u hj => by
            rw [addr_add0, (Blk.new wr 9 nine).cell]
            exact hj
          have hwb : w2.heap.size ≤ wr.heap.size := by have := hLG.sz; omega
          have hb7 : w3.heap.size < wr.heap.size := (hLG.out hST'.out.o7).1
          replace hfr := Lib.hid hfr
          replace hup := Lib.hid hup
          replace hnews := Lib.hid hnews
          clear hLG hq hq2 hql hvi hvi' v0 hLa hrow hp
          go_wp2_with (at_builtin; refine wpList_app_keep rfl (.tmp 115) (.tmp 116) _ rfl (m := 9) (newsV := nine) (ad := ⟨wr.heap.size, 0, none⟩) elStr hfr.out rfl rfl rfl hnews.out nine_one (by omega) (by omega) (by simp; omega) (by omega) ?_; intro A9 c9 W1 hO9 hg9; have hLG1 := Lib.hid (hup.out W1 hg9 hO9); clear hO9 hg9)
          go_roundw
          case rel => exact L3.mk (i + 1) (N + (p.1.attrs.length + 9)) (by omega) (by go_num) (by go_num) (by omega) (by omega) hLG1.out
          case measure => simp [intOf]; omega
        · have hd2 : decide ((N : Int) ≥ 2) = true := decide_eq_true (by omega)
          have hd2' : decide (2 ≤ (N : Int)) = true := decide_eq_true (by omega)
          have hLG2 := Lib.hid hLG
          clear hLG hLG1
          go_wp2
          go_loopw [20] (fun x wr => L4 w W w2.heap.size w3.heap.size (.slice Ag ls.length cg) ls x wr) (fun x _ => ls.length - (intOf x).toNat)
          case atStart => exact L4.mk 0 lsx (Nat.zero_le _) rfl hLG2.out hMA.out
          case round =>
            obtain ⟨i, lsy, hi, rfl, hLG, hMA⟩ := hrel
            have y7 : wr.cell? ⟨w3.heap.size, 0, none⟩ = some (.slice Ag ls.length cg) := hLG.cell hST'.out.o7 hST'.out.c7
            by_cases hlt : i < ls.length
            · obtain ⟨p, hp⟩ := getx hlt
              have hpa := hla.out p (List.mem_of_getElem? hp)
              have hi26 : i < 26 := by omega
              obtain ⟨q, hq, hq2, hql⟩ := hLG.sm.get hp
              obtain ⟨gk, cap, hA, b1, b2, _, v0, v1⟩ := hLG.os.at_ hq
              injection hA with hA1 hA2 hA3
              subst hA1 hA3
              clear hA2
              obtain ⟨Ai, ci, hvi⟩ := (hLG.os.fr q (List.mem_of_getElem? hq)).form
              rw [hvi] at v1
              rw [hql] at hvi v1
              have hpv : p.2 = .slice Ai p.1.attrs.length ci := by rw [← hq2]; exact hvi
              have g0 : (0 : Int) ≤ (i : Int) := by omega
              have g1 : (i : Int) < ls.length := by omega
              have hgk : ∀ b, (Value.slice (some ⟨gk, 0, none⟩) ls.length cg).ownBlock = some b → b < w3.heap.size := hlo1.out
              replace hgk := Lib.hid hgk
              replace hpv := Lib.hid hpv
              have hLG0 := Lib.hid hLG
              have hp' := Lib.hid hp
              have hq' := Lib.hid hq
              replace hMA := Lib.hid hMA
              replace hvi := Lib.hid hvi
              clear hp hq hq2 v0 hLG
              replace hql := Lib.hid hql
              go_wp2
              go_loopw [21] (fun y wr => ∃ (j : Nat), j ≤ p.1.attrs.length ∧ y = .int .i64 j ∧ LG w W wr w2.heap.size w3.heap.size (.slice (some ⟨gk, 0, none⟩) ls.length cg) ls lsy) (fun y _ => p.1.attrs.length - (intOf y).toNat)
              case atStart => exact ⟨0, Nat.zero_le _, rfl, hLG0.out⟩
              case round =>
                obtain ⟨j, hj, rfl, hLG⟩ := hrel
                have kf : ∀ W2, Below wr.heap.size wr W2 → W2.cell? ⟨w3.heap.size, 0, none⟩ = some (.slice (some ⟨gk, 0, none⟩) ls.length cg) ∧ W2.cell? ⟨gk, i * 2 + 1, none⟩ = some (.slice Ai p.1.attrs.length ci) ∧ W2.frozen? ⟨gk, i * 2, none⟩ = false ∧ W2.cell? ⟨gk, i * 2, none⟩ = some (.string q.1.name) := fun W2 hW2 => by
                  have h2 := hLG.stay hW2
                  obtain ⟨gk', cap', hA, _, _, hfz, v0, v1⟩ := h2.os.at_ hq'.out
                  injection hA with hA1 hA2 hA3
                  injection hA1 with hA1
                  injection hA1 with hA1
                  subst hA1
                  rw [hvi.out] at v1
                  exact ⟨h2.cell hST'.out.o7 hST'.out.c7, v1, hfz _, v0⟩
                obtain ⟨y7, y8, y11, y12⟩ := kf wr (Below.refl _ _)
                by_cases hlj : j < p.1.attrs.length
                · have h0 : (0 : Int) ≤ (j : Int) := by omega
                  have h1 : (j : Int) < p.1.attrs.length := by omega
                  have hjq : j < q.1.attrs.length := by have := hql.out; omega
                  obtain ⟨x, hx⟩ := getx hjq
                  obtain rfl : x = mkS i := hMA.out i q hq'.out x (List.mem_of_getElem? hx)
                  obtain ⟨ga, capa, hva, _, hga, _, hcell⟩ := (hLG.os.fr q (List.mem_of_getElem? hq'.out)).row (by omega)
                  have hva2 := hva
                  rw [hvi.out] at hva2
                  injection hva2 with e1 e2 e3
                  subst e1
                  have y9 : wr.cell? ⟨ga, j, none⟩ = some (.string (mkS i)) := by
                    obtain ⟨u, hu, hr⟩ := hcell j (.v (.string (mkS i))) (by
                      have := flatMap_get (f := strD) (m := 1) (fun _ => rfl) hx (j := 0) rfl
                      simpa using this)
                    rw [hr.v_inv] at hu
                    exact hu
                  have kg : ∀ W2, Below wr.heap.size wr W2 → W2.cell? ⟨ga, j, none⟩ = some (.string (mkS i)) := fun W2 hW2 => (hW2.cell (p := ⟨ga, j, none⟩) hga).trans y9
                  have hgs : w3.heap.size < wr.heap.size := (hLG.out hST'.out.o7).1
                  have hgs2 : gk < wr.heap.size := World.block_lt_of_cell? wr _ y8
                  have hLG2 := Lib.hid hLG
                  have hbq : ((mkS i).toList == (mkS i).toList) = true := by simp
                  replace kf := Lib.hid kf
                  replace kg := Lib.hid kg
                  clear hLG hx hva hcell hjq y11 y12
                  go_upto_region 26 with fail
                  go_region_law ((go_simp; go_at_call 11; refine (mark_k i hi26 _).mono ?_; rintro e W2 ⟨rfl, hB2⟩; have hb2 : Below wr.heap.size wr W2 := ((Below.refl _ _).drew).trans hB2; obtain ⟨z7, z8, _, _⟩ := kf.out W2 hb2; have z9 := kg.out W2 hb2; replace hb2 := Lib.hid hb2))
                  all_goals
                    go_wp2
                    go_roundw
                    case rel => exact ⟨j + 1, by omega, by go_num, hLG2.out.stay hb2.out⟩
                    case measure => simp [intOf]; omega
                · have hfin : LG w W (wr.setCell ⟨gk, i * 2, none⟩ (.string ⟨#[83, 112, 111, 105, 108, 116]⟩)) w2.heap.size w3.heap.size (.slice (some ⟨gk, 0, none⟩) ls.length cg) ls (lsy.set i ({ q.1 with name := ⟨#[83, 112, 111, 105, 108, 116]⟩ }, q.2)) := by
                    refine hLG.write hBg hEg grown_set (fun b hb => ?_) (hLG.os.setN hq'.out) (hLG.sm.set hq'.out rfl rfl)
                    injection hb with hb
                    subst hb
                    exact ⟨(hLG.os.kr.lt gk rfl).1, hgk.out gk rfl⟩
                  have hMA2 := Lib.hid (hMA.out.setN (s := ⟨#[83, 112, 111, 105, 108, 116]⟩) hq'.out)
                  replace hfin := Lib.hid hfin
                  clear kf hLG
                  go_wp2
                  go_roundw
                  case rel => exact L4.mk (i + 1) _ (by omega) (by go_num) hfin.out hMA2.out
                  case measure => simp [intOf]; omega
            · have hbW := hLG.hb
              have ka : ∀ W1, Below wr.heap.size wr W1 → Below w.heap.size w W1 ∧ W1.cell? ⟨w4.heap.size, 0, none⟩ = some (.slice Ao ls'.length co) ∧ W1.cell? ⟨w5.heap.size, 0, none⟩ = some (.slice Aw (rlT T).length cw) ∧ W1.cell? ⟨w.heap.size, 0, none⟩ = some (.slice A S.length ca) ∧ W1.cell? ⟨w1.heap.size, 0, none⟩ = some (.slice A1 S.length c1) ∧
                  Calls Tryd.prog 10 #[.agg #[.slice Ao ls'.length co], .agg #[.slice Aw (rlT T).length cw]] W1 (fun e w' => e = .returned (.bool true) ∧ Below W1.heap.size W1 w') ∧
                  Calls Tryd.prog 10 #[.agg #[.slice A S.length ca], .agg #[.slice A1 S.length c1]] W1 (fun e w' => e = .returned (.bool true) ∧ Below W1.heap.size W1 w') ∧
                  Calls Tryd.prog 12 #[.slice B L.length cb, .slice A2 L.length c2] W1 (fun e w' => e = .returned (.bool true) ∧ Below W1.heap.size W1 w') := fun W1 hW1 => by
                have h2 := hLG.stay hW1
                have hs := hST'.out
                have ro := h2.rd hs.ro
                rw [← hlen'.out] at ro
                refine ⟨h2.hb, h2.cell hs.o10 hs.c10, h2.cell hs.o13 hs.c13, h2.cell hs.o2 hs.c2, h2.cell hs.o5 hs.c5, ?_, ?_, ?_⟩
                · refine kcmp.out W1 _ _ _ _ _ _ (rlT T) hlen'.out rfl (by omega) hZ2.out ?_ (h2.rd hs.rw_)
                  have := h2.rd hs.ro
                  rw [show (D.sl (rlT T).length ((rlT T).flatMap tdD)) = D.sl ls'.length ((rlT T).flatMap tdD) by rw [hlen'.out]] at this
                  exact this
                · exact kcmp.out W1 _ _ _ _ _ _ S rfl rfl hS.1 (fun t ht => (hS.2 t ht).2.1) (h2.rd hs.rs) (h2.rd hs.rs2)
                · exact sameChanges_k B A2 cb c2 _ _ L hL hC W1 (fun _ h => h) (fun _ h => h) (h2.rd hs.rl) (h2.rd hs.rl2)
              replace ka := Lib.hid ka
              replace hC := Lib.hid hC
              replace hS := Lib.hid hS
              clear hLG hMA
              have tok2 : True := trivial
              obtain ⟨_, p1, p2, p3, p4, k5, _, _⟩ := ka.out wr (Below.refl _ _)
              replace k5 := Lib.hid k5
              go_wp2_with (first
                | (have _t := tok2; go_at_call 10; refine k5.out.mono ?_; clear _t tok2; rintro e W1 ⟨rfl, hB1⟩; obtain ⟨_, p5, p6, p7, p8, _, k6, _⟩ := ka.out W1 hB1; replace k6 := Lib.hid k6)
                | (go_at_call 10; refine k6.out.mono ?_; rintro e W2 ⟨rfl, hB2⟩; obtain ⟨_, p9, p10, p11, p12, _, _, k7⟩ := ka.out W2 (hB1.trans (hB2.mono hB1.size)); replace k7 := Lib.hid k7)
                | (go_at_call 12; refine k7.out.mono ?_; rintro e W3 ⟨rfl, hB3⟩))
              go_ret
              exact ⟨rfl, hbW.trans ((hB1.trans ((hB2.trans (hB3.mono hB2.size)).mono hB1.size)).mono hbW.size)⟩
end evW
end Go.Proofs.YtmadafejenjkcaaDoor
