/- Events: their rules as plain codes; the two CheckEvents. -/
import Derived.Test.YtmadafejenjkcaaDoorV9
import Derived.Test.YtmadafejenjkcaaDoorTw0
import Derived.Test.YtmadafejenjkcaaDoorSc5
import Derived.Deep.MidRow
namespace Go.Proofs.YtmadafejenjkcaaDoor
open Go.RowKit Go.Deep
set_option linter.unusedVariables false
structure Ev where
  ts : Int
  id : Int
  typ : Int
  a0 : Int
  a1 : Int
  a2 : Int
  a3 : Int
  a4 : Int
  a5 : Int
  a6 : Int
  a7 : Int
def evV (e : Ev) : List Value := [.int .i64 e.ts, .int .u64 e.id, .int .i64 e.typ, .int .i64 e.a0, .int .i64 e.a1, .int .i64 e.a2, .int .i64 e.a3, .int .i64 e.a4, .int .i64 e.a5, .int .i64 e.a6, .int .i64 e.a7]
def atL (e : Ev) : List Int := [e.a0, e.a1, e.a2, e.a3, e.a4, e.a5, e.a6, e.a7]
theorem evV_at {e : Ev} {k : Nat} {x : Int} (h : (atL e)[k]? = some x) : (evV e)[3 + k]? = some (.int .i64 x) := by
  match k with
  | 0 | 1 | 2 | 3 | 4 | 5 | 6 | 7 => injection h with h; subst h; rfl
  | k + 8 => simp [atL] at h
theorem atL_get {e : Ev} {k : Nat} (h : k < 8) : ∃ x, (atL e)[k]? = some x := getx (l := atL e) h
theorem aggEv : AggT Tryd.prog 41 11 := ⟨_, Tryd.underlying41, rfl, by kernel_rfl⟩
def tsBad (t : Int) : Prop := t < -1152921504606846976 ∨ 1152921504606846976 < t
open Classical in
/-- the event's code -/
noncomputable def ceC (S : List Td) (e : Ev) : Int := if scC S ≠ 0 then scC S else if e.typ < 0 ∨ (S.length : Int) ≤ e.typ then 27 else
  match S[e.typ.toNat]? with
  | none => 0
  | some t => if ∃ k x, t.attrs.length ≤ k ∧ (atL e)[k]? = some x ∧ x ≠ 0 then 28 else if tsBad e.ts then 29 else 0
open Classical in
theorem ceC_sc {S : List Td} {e : Ev} (h : scC S ≠ 0) : ceC S e = scC S := if_pos h
open Classical in
theorem ceC_27 {S : List Td} {e : Ev} (h : scC S = 0) (h2 : e.typ < 0 ∨ (S.length : Int) ≤ e.typ) : ceC S e = 27 := by
  unfold ceC; rw [if_neg (by simpa using h), if_pos h2]
open Classical in
theorem ceC_28 {S : List Td} {e : Ev} {i k : Nat} {t : Td} {x : Int} (h : scC S = 0) (hi : e.typ = i) (ht : S[i]? = some t) (hk : t.attrs.length ≤ k) (hx : (atL e)[k]? = some x) (hx0 : x ≠ 0) : ceC S e = 28 := by
  have := (List.getElem?_eq_some_iff.1 ht).1
  unfold ceC; rw [if_neg (by simpa using h), if_neg (by omega), show e.typ.toNat = i by omega, ht]
  exact if_pos ⟨k, x, hk, hx, hx0⟩
open Classical in
theorem ceC_at {S : List Td} {e : Ev} {i : Nat} {t : Td} (h : scC S = 0) (hi : e.typ = i) (ht : S[i]? = some t) (hz : ∀ (k : Nat) x, t.attrs.length ≤ k → (atL e)[k]? = some x → x = 0) (c : Int) (hc : tsBad e.ts ∧ c = 29 ∨ ¬ tsBad e.ts ∧ c = 0) : ceC S e = c := by
  have := (List.getElem?_eq_some_iff.1 ht).1
  unfold ceC; rw [if_neg (by simpa using h), if_neg (by omega), show e.typ.toNat = i by omega, ht]
  have hn : ¬ ∃ (k : Nat) (x : Int), t.attrs.length ≤ k ∧ (atL e)[k]? = some x ∧ x ≠ 0 := fun ⟨k, x, h1, h2, h3⟩ => h3 (hz k x h1 h2)
  show (if _ then _ else if _ then _ else _) = _
  rw [if_neg hn]
  rcases hc with ⟨h1, h2⟩ | ⟨h1, h2⟩
  · rw [if_pos h1, h2]
  · rw [if_neg h1, h2]
/-- the boxes of a schema and an event -/
def EB (w wr : World) (v : Value) (e : Ev) : Prop := Below w.heap.size w wr ∧ Blk wr w.heap.size 24 [v] ∧ Blk wr (w.heap.size + 1) 41 (evV e)
theorem EB.stay {w wr w2 : World} {v : Value} {e : Ev} (h : EB w wr v e) (hb : Below wr.heap.size wr w2) : EB w w2 v e := ⟨h.1.trans (hb.mono h.1.size), h.2.1.stay hb, h.2.2.stay hb⟩
namespace evW
open nmW
set_option maxRecDepth 100000 in
set_option maxHeartbeats 2000000 in
theorem refCheckEvent_k (A : Option Addr) (c : Nat) (F : Nat → Prop) (S : List Td) (e : Ev) (hl : SzT S) (w : World) (hK : KwIs w) (hF : ∀ b, F b → b < w.heap.size) (r : Rd w F (.slice A S.length c) (.sl S.length (S.flatMap tdD))) :
    Calls Tryd.prog 27 #[.agg #[.slice A S.length c], .agg #[.int .i64 e.ts, .int .u64 e.id, .int .i64 e.typ, .int .i64 e.a0, .int .i64 e.a1, .int .i64 e.a2, .int .i64 e.a3, .int .i64 e.a4, .int .i64 e.a5, .int .i64 e.a6, .int .i64 e.a7]] w fun x w' => x = .returned (.int .i64 (ceC S e)) ∧ Below w.heap.size w w' := by
  have hE0 : EB w ((w.alloc (.cells ⟨[.slice A S.length c]⟩ 24)).alloc (.cells ⟨evV e⟩ 41)) (.slice A S.length c) e := ⟨((Below.refl _ _).alloc (Nat.le_refl _) _).alloc (by simp) _, (Blk.new _ _ _).alloc _, Blk.new' (by simp)⟩
  have k1 := Lib.hid (rCheckSchema_k A c F S hl ((w.alloc (.cells ⟨[.slice A S.length c]⟩ 24)).alloc (.cells ⟨evV e⟩ 41)) (hK.stay hE0.1) (fun b h => Nat.lt_of_lt_of_le (hF b h) hE0.1.size) (r.under hE0.1 hF))
  have hF' := Lib.hid hF
  have r' := Lib.hid r
  have hE0' := Lib.hid hE0
  clear hE0 hF r hK
  by_cases hs : scC S = 0
  · obtain ⟨_, hS16, hSn⟩ := scC_ok hs
    rw [hs] at k1
    by_cases h27 : e.typ < 0 ∨ (S.length : Int) ≤ e.typ
    · have hce := Lib.hid (ceC_27 hs h27)
      clear hl hs
      rcases h27 with h | h
      · have d0 : decide (e.typ < 0) = true := decide_eq_true h
        go_enter Tryd.func27, Tryd.ntmps27
        go_wp2_with (go_at_call 38; refine k1.out.mono ?_; rintro x w' ⟨rfl, hB1⟩; have hE := hE0'.out.stay hB1; have y1 : w'.cell? ⟨w.heap.size + 1, 2, none⟩ = some (.int .i64 e.typ) := hE.2.2.cell 2; replace hE := Lib.hid hE; clear hB1)
        go_ret
        exact ⟨by rw [hce.out]; rfl, hE.out.1⟩
      · by_cases hneg : e.typ < 0
        · omega
        · have d0 : decide (e.typ < 0) = false := decide_eq_false hneg
          have d1 : decide (e.typ ≥ (S.length : Int)) = true := decide_eq_true h
          have d1' : decide ((S.length : Int) ≤ e.typ) = true := decide_eq_true h
          go_enter Tryd.func27, Tryd.ntmps27
          go_wp2_with (go_at_call 38; refine k1.out.mono ?_; rintro x w' ⟨rfl, hB1⟩; have hE := hE0'.out.stay hB1; have y1 : w'.cell? ⟨w.heap.size + 1, 2, none⟩ = some (.int .i64 e.typ) := hE.2.2.cell 2; have y0 : w'.cell? ⟨w.heap.size, 0, none⟩ = some (.slice A S.length c) := hE.2.1.cell 0; replace hE := Lib.hid hE; clear hB1)
          go_ret
          exact ⟨by rw [hce.out]; rfl, hE.out.1⟩
    · obtain ⟨i, hi⟩ : ∃ i : Nat, e.typ = i := ⟨e.typ.toNat, by omega⟩
      have hil : i < S.length := by omega
      obtain ⟨t, ht⟩ := getx hil
      have hta : t.attrs.length ≤ 8 := (hSn t (List.mem_of_getElem? ht)).2.1
      have c28 := fun k x h1 h2 h3 => ceC_28 (e := e) (k := k) (x := x) hs hi ht h1 h2 h3
      have cat := fun hz c hc => ceC_at (e := e) hs hi ht hz c hc
      obtain ⟨b, off, rfl, hFb, hv, hsl⟩ := r'.out.rowv (m := 2) (fun _ => rfl) ht (by omega)
      obtain ⟨A2, c2, a1, r2⟩ := hsl 1 _ _ rfl
      have hfB := hF'.out b hFb
      have d0 : decide ((i : Int) < 0) = false := decide_eq_false (by omega)
      have d1 : decide ((i : Int) ≥ (S.length : Int)) = false := decide_eq_false (by omega)
      have d1' : decide ((S.length : Int) ≤ (i : Int)) = false := decide_eq_false (by omega)
      have g0 : (0 : Int) ≤ (i : Int) := by omega
      have g1 : (i : Int) < S.length := by omega
      have kf : ∀ W, EB w W (.slice (some ⟨b, off, none⟩) S.length c) e → W.cell? ⟨w.heap.size, 0, none⟩ = some (.slice (some ⟨b, off, none⟩) S.length c) ∧ W.cell? ⟨w.heap.size + 1, 2, none⟩ = some (.int .i64 (i : Int)) ∧ W.cell? ⟨w.heap.size + 1, 0, none⟩ = some (.int .i64 e.ts) ∧ W.cell? ⟨b, off + i * 2 + 1, none⟩ = some (.slice A2 t.attrs.length c2) := fun W hW =>
        ⟨hW.2.1.cell 0, by rw [← hi]; exact hW.2.2.cell 2, hW.2.2.cell 0, (hW.1.cell (p := ⟨b, off + i * 2 + 1, none⟩) hfB).trans a1⟩
      have ka : ∀ W (k : Nat) x, EB w W (.slice (some ⟨b, off, none⟩) S.length c) e → (atL e)[k]? = some x → W.cell? ⟨w.heap.size + 1, 3 + k, none⟩ = some (.int .i64 x) := fun W k x hW hx => (hW.2.2.cell (3 + k)).trans (evV_at hx)
      replace kf := Lib.hid kf
      replace ka := Lib.hid ka
      replace c28 := Lib.hid c28
      replace cat := Lib.hid cat
      clear hv hsl ht a1 r2 hs h27 hl hi hSn
      go_enter Tryd.func27, Tryd.ntmps27
      go_wp2_with (go_at_call 38; refine k1.out.mono ?_; rintro x w' ⟨rfl, hB1⟩; have hE := hE0'.out.stay hB1; obtain ⟨y0, y1, y2, y3⟩ := kf.out w' hE; replace hE := Lib.hid hE; clear hB1)
      go_loopw [6] (fun x wr => ∃ k : Nat, t.attrs.length ≤ k ∧ k ≤ 8 ∧ x = .int .i64 k ∧ wr = w' ∧ (∀ (m : Nat) x, t.attrs.length ≤ m → m < k → (atL e)[m]? = some x → x = 0)) (fun x _ => 8 - (intOf x).toNat)
      case atStart => exact ⟨t.attrs.length, Nat.le_refl _, hta, rfl, rfl, fun m x h1 h2 => by omega⟩
      case round =>
        obtain ⟨k, hk1, hk2, rfl, rfl, hz⟩ := hrel
        replace hz := Lib.hid hz
        by_cases hlt : k < 8
        · obtain ⟨x, hx⟩ := atL_get (e := e) hlt
          have q0 : wr.cell? ⟨w.heap.size + 1, 3 + k, none⟩ = some (.int .i64 x) := ka.out _ _ _ hE.out hx
          have q0' : wr.cell? ⟨w.heap.size + 1, k + 3, none⟩ = some (.int .i64 x) := (Nat.add_comm 3 k) ▸ q0
          have h0 : (0 : Int) ≤ (k : Int) := by omega
          have h1 : (k : Int) < 8 := by omega
          by_cases hx0 : x = 0
          · subst hx0
            replace hx := Lib.hid hx
            go_wp2
            go_roundw
            case rel =>
              refine ⟨k + 1, by omega, by omega, by go_num, trivial, fun m x h1 h2 h3 => ?_⟩
              by_cases hmk : m = k
              · subst hmk
                have := hx.out
                rw [h3] at this
                exact Option.some.inj this
              · exact hz.out m x h1 (by omega) h3
            case measure => simp [intOf]; omega
          · have hce := Lib.hid (c28.out k x hk1 hx hx0)
            have hxb : (x == 0) = false := by simpa using hx0
            clear hx hx0
            go_wp2
            go_ret
            exact ⟨by rw [hce.out]; rfl, hE.out.1⟩
        · have hk8 : k = 8 := by omega
          have hz8 : ∀ (m : Nat) x, t.attrs.length ≤ m → (atL e)[m]? = some x → x = 0 := fun m x h1 h2 => hz.out m x h1 (by have := (List.getElem?_eq_some_iff.1 h2).1; simp [atL] at this; omega) h2
          have hcc := fun c hc => cat.out hz8 c hc
          replace hcc := Lib.hid hcc
          subst hk8
          clear hz8 hz hlt
          by_cases t1 : e.ts < -1152921504606846976
          · have t1d : decide (e.ts < -1152921504606846976) = true := decide_eq_true t1
            have hce := Lib.hid (hcc.out 29 (.inl ⟨.inl t1, rfl⟩))
            clear t1
            go_wp2
            go_ret
            exact ⟨by rw [hce.out]; rfl, hE.out.1⟩
          · have t1d : decide (e.ts < -1152921504606846976) = false := decide_eq_false t1
            by_cases t2 : 1152921504606846976 < e.ts
            · have t2d : decide (e.ts > 1152921504606846976) = true := decide_eq_true t2
              have t2d' : decide (1152921504606846976 < e.ts) = true := decide_eq_true t2
              have hce := Lib.hid (hcc.out 29 (.inl ⟨.inr t2, rfl⟩))
              clear t1 t2
              go_wp2
              go_ret
              exact ⟨by rw [hce.out]; rfl, hE.out.1⟩
            · have t2d : decide (e.ts > 1152921504606846976) = false := decide_eq_false t2
              have t2d' : decide (1152921504606846976 < e.ts) = false := decide_eq_false t2
              have hce := Lib.hid (hcc.out 0 (.inr ⟨fun h => h.elim t1 t2, rfl⟩))
              clear t1 t2
              go_wp2
              go_ret
              exact ⟨by rw [hce.out]; rfl, hE.out.1⟩
  · have hce := Lib.hid (ceC_sc (e := e) hs)
    have hne : (scC S == 0) = false := by simpa using hs
    clear hl hs
    go_enter Tryd.func27, Tryd.ntmps27
    go_wp2_with (go_at_call 38; refine k1.out.mono ?_; rintro x w' ⟨rfl, hB1⟩; have hE := Lib.hid (hE0'.out.stay hB1); clear hB1)
    go_ret
    exact ⟨by rw [hce.out]; rfl, hE.out.1⟩
end evW
end Go.Proofs.YtmadafejenjkcaaDoor
/- Events: the program's CheckEvent. -/
namespace Go.Proofs.YtmadafejenjkcaaDoor
open Go.RowKit Go.Deep
set_option linter.unusedVariables false
def sl8 (a : Addr) (n : Nat) : Addr := if 8 = n then a else a.add n
theorem run_sl8 (w : World) (a : Addr) (n : Nat) (hn : n ≤ 8) : (Instr.sliceAt 39 (.pointer (some a)) (some (.int .i64 (n : Int))) none none).run Tryd.prog w = .ok (.slice (some (sl8 a n)) (8 - n) (8 - n)) w := by
  have h8 : Tryd.prog.arrayLen 39 = 8 := by kernel_rfl
  rw [run_sliceAt_array_l w _ a (by rw [h8]; kernel_rfl) .i64 n (by omega) (by rw [h8]; omega)]
  have hs : (sizeOf (Tryd.prog.elem 39)).run Tryd.prog w = .ok 1 w := by kernel_rfl
  rw [hs]
  show Result.ok (slicedAt a n (Tryd.prog.arrayLen 39) (Tryd.prog.arrayLen 39) 1) w = _
  rw [h8]
  simp only [slicedAt, sl8, Nat.mul_one]
theorem sl8_cell {w : World} {g n k : Nat} {v : Value} (h : n + k < 8) (hc : w.cell? ⟨g, 3 + (n + k), none⟩ = some v) : w.cell? ((sl8 ⟨g, 3, none⟩ n).add k) = some v := by
  rw [sl8, if_neg (by omega), Addr.add_mid, Addr.add_mid, Nat.add_assoc]
  exact hc
namespace evW
open nmW
set_option maxRecDepth 100000 in
set_option maxHeartbeats 2000000 in
theorem checkEvent_k (A : Option Addr) (c : Nat) (F : Nat → Prop) (S : List Td) (e : Ev) (hl : SzT S) (w : World) (hK : KwIs w) (hF : ∀ b, F b → b < w.heap.size) (r : Rd w F (.slice A S.length c) (.sl S.length (S.flatMap tdD))) :
    Calls Tryd.prog 25 #[.agg #[.slice A S.length c], .agg #[.int .i64 e.ts, .int .u64 e.id, .int .i64 e.typ, .int .i64 e.a0, .int .i64 e.a1, .int .i64 e.a2, .int .i64 e.a3, .int .i64 e.a4, .int .i64 e.a5, .int .i64 e.a6, .int .i64 e.a7]] w fun x w' => x = .returned (.int .i64 (ceC S e)) ∧ Below w.heap.size w w' := by
  have hE0 : EB w ((w.alloc (.cells ⟨[.slice A S.length c]⟩ 24)).alloc (.cells ⟨evV e⟩ 41)) (.slice A S.length c) e := ⟨((Below.refl _ _).alloc (Nat.le_refl _) _).alloc (by simp) _, (Blk.new _ _ _).alloc _, Blk.new' (by simp)⟩
  have k1 := Lib.hid (checkSchema_k A c F S hl ((w.alloc (.cells ⟨[.slice A S.length c]⟩ 24)).alloc (.cells ⟨evV e⟩ 41)) (hK.stay hE0.1) (fun b h => Nat.lt_of_lt_of_le (hF b h) hE0.1.size) (r.under hE0.1 hF))
  have hF' := Lib.hid hF
  have r' := Lib.hid r
  have hE0' := Lib.hid hE0
  clear hE0 hF r hK
  by_cases hs : scC S = 0
  · obtain ⟨_, hS16, hSn⟩ := scC_ok hs
    rw [hs] at k1
    by_cases h27 : e.typ < 0 ∨ (S.length : Int) ≤ e.typ
    · have hce := Lib.hid (ceC_27 hs h27)
      clear hl hs
      rcases h27 with h | h
      · have d0 : decide (e.typ < 0) = true := decide_eq_true h
        go_enter Tryd.func25, Tryd.ntmps25
        go_wp2_with (go_at_call 36; refine k1.out.mono ?_; rintro x w' ⟨rfl, hB1⟩; have hE := hE0'.out.stay hB1; have y1 : w'.cell? ⟨w.heap.size + 1, 2, none⟩ = some (.int .i64 e.typ) := hE.2.2.cell 2; replace hE := Lib.hid hE; clear hB1)
        go_ret
        exact ⟨by rw [hce.out]; rfl, hE.out.1⟩
      · by_cases hneg : e.typ < 0
        · omega
        · have d0 : decide (e.typ < 0) = false := decide_eq_false hneg
          have d1 : decide (e.typ ≥ (S.length : Int)) = true := decide_eq_true h
          have d1' : decide ((S.length : Int) ≤ e.typ) = true := decide_eq_true h
          go_enter Tryd.func25, Tryd.ntmps25
          go_wp2_with (go_at_call 36; refine k1.out.mono ?_; rintro x w' ⟨rfl, hB1⟩; have hE := hE0'.out.stay hB1; have y1 : w'.cell? ⟨w.heap.size + 1, 2, none⟩ = some (.int .i64 e.typ) := hE.2.2.cell 2; have y0 : w'.cell? ⟨w.heap.size, 0, none⟩ = some (.slice A S.length c) := hE.2.1.cell 0; replace hE := Lib.hid hE; clear hB1)
          go_ret
          exact ⟨by rw [hce.out]; rfl, hE.out.1⟩
    · obtain ⟨i, hi⟩ : ∃ i : Nat, e.typ = i := ⟨e.typ.toNat, by omega⟩
      have hil : i < S.length := by omega
      obtain ⟨t, ht⟩ := getx hil
      have hta : t.attrs.length ≤ 8 := (hSn t (List.mem_of_getElem? ht)).2.1
      have c28 := fun k x h1 h2 h3 => ceC_28 (e := e) (k := k) (x := x) hs hi ht h1 h2 h3
      have cat := fun hz c hc => ceC_at (e := e) hs hi ht hz c hc
      obtain ⟨b, off, rfl, hFb, hv, hsl⟩ := r'.out.rowv (m := 2) (fun _ => rfl) ht (by omega)
      obtain ⟨A2, c2, a1, r2⟩ := hsl 1 _ _ rfl
      have hfB := hF'.out b hFb
      have d0 : decide ((i : Int) < 0) = false := decide_eq_false (by omega)
      have d1 : decide ((i : Int) ≥ (S.length : Int)) = false := decide_eq_false (by omega)
      have d1' : decide ((S.length : Int) ≤ (i : Int)) = false := decide_eq_false (by omega)
      have g0 : (0 : Int) ≤ (i : Int) := by omega
      have g1 : (i : Int) < S.length := by omega
      have kf : ∀ W, EB w W (.slice (some ⟨b, off, none⟩) S.length c) e → W.cell? ⟨w.heap.size, 0, none⟩ = some (.slice (some ⟨b, off, none⟩) S.length c) ∧ W.cell? ⟨w.heap.size + 1, 2, none⟩ = some (.int .i64 (i : Int)) ∧ W.cell? ⟨w.heap.size + 1, 0, none⟩ = some (.int .i64 e.ts) ∧ W.cell? ⟨b, off + i * 2 + 1, none⟩ = some (.slice A2 t.attrs.length c2) := fun W hW =>
        ⟨hW.2.1.cell 0, by rw [← hi]; exact hW.2.2.cell 2, hW.2.2.cell 0, (hW.1.cell (p := ⟨b, off + i * 2 + 1, none⟩) hfB).trans a1⟩
      have ka : ∀ W (k : Nat) x, EB w W (.slice (some ⟨b, off, none⟩) S.length c) e → (atL e)[k]? = some x → W.cell? ⟨w.heap.size + 1, 3 + k, none⟩ = some (.int .i64 x) := fun W k x hW hx => (hW.2.2.cell (3 + k)).trans (evV_at hx)
      replace kf := Lib.hid kf
      replace ka := Lib.hid ka
      replace c28 := Lib.hid c28
      replace cat := Lib.hid cat
      clear hv hsl ht a1 r2 hs h27 hl hi hSn
      go_enter Tryd.func25, Tryd.ntmps25
      go_wp2_with (go_at_call 36; refine k1.out.mono ?_; rintro x w' ⟨rfl, hB1⟩; have hE := hE0'.out.stay hB1; obtain ⟨y0, y1, y2, y3⟩ := kf.out w' hE; have y4 := run_sl8 w' ⟨w.heap.size + 1, 3, none⟩ t.attrs.length hta; replace hE := Lib.hid hE; clear hB1)
      go_loopw [7, 35] (fun _ x wr => ∃ k : Nat, t.attrs.length + k ≤ 8 ∧ x = .int .i64 k ∧ wr = w' ∧ (∀ (m : Nat) x, t.attrs.length ≤ m → m < t.attrs.length + k → (atL e)[m]? = some x → x = 0)) (fun _ x _ => 8 - (intOf x).toNat)
      case atStart => exact ⟨0, by omega, rfl, rfl, fun m x h1 h2 => by omega⟩
      case round =>
        obtain ⟨k, hk2, rfl, rfl, hz⟩ := hrel
        replace hz := Lib.hid hz
        by_cases hlt : t.attrs.length + k < 8
        · obtain ⟨x, hx⟩ := atL_get (e := e) hlt
          have q0 : wr.cell? ((sl8 ⟨w.heap.size + 1, 3, none⟩ t.attrs.length).add k) = some (.int .i64 x) := sl8_cell hlt (ka.out _ _ _ hE.out hx)
          have h0 : (0 : Int) ≤ (k : Int) := by omega
          have h1 : (k : Int) < ((8 - t.attrs.length : Nat) : Int) := by omega
          have h2 : k < 8 - t.attrs.length := by omega
          have hxk := Lib.hid hx
          clear hx
          by_cases hx0 : x = 0
          · subst hx0
            go_wp2
            go_roundw
            case rel =>
              refine ⟨k + 1, by omega, by go_num, trivial, fun m x h1 h2 h3 => ?_⟩
              by_cases hmk : m = t.attrs.length + k
              · subst hmk
                have := hxk.out
                rw [h3] at this
                exact Option.some.inj this
              · exact hz.out m x h1 (by omega) h3
            case measure => simp [intOf]; omega
          · have hce := Lib.hid (c28.out _ x (Nat.le_add_right _ _) hxk.out hx0)
            have hxb : (x == 0) = false := by simpa using hx0
            clear hx0
            go_wp2
            go_ret
            exact ⟨by rw [hce.out]; rfl, hE.out.1⟩
        · have hk8 : t.attrs.length + k = 8 := by omega
          have h2 : ¬ k < 8 - t.attrs.length := by omega
          have h2' : ¬ (k : Int) < ((8 - t.attrs.length : Nat) : Int) := by omega
          have hz8 : ∀ (m : Nat) x, t.attrs.length ≤ m → (atL e)[m]? = some x → x = 0 := fun m x h1 h2 => hz.out m x h1 (by have := (List.getElem?_eq_some_iff.1 h2).1; simp [atL] at this; omega) h2
          have hcc := fun c hc => cat.out hz8 c hc
          replace hcc := Lib.hid hcc
          clear hz8 hz hlt
          by_cases t1 : e.ts < -1152921504606846976
          · have t1d : decide (e.ts < -1152921504606846976) = true := decide_eq_true t1
            have hce := Lib.hid (hcc.out 29 (.inl ⟨.inl t1, rfl⟩))
            clear t1
            go_wp2
            go_ret
            exact ⟨by rw [hce.out]; rfl, hE.out.1⟩
          · have t1d : decide (e.ts < -1152921504606846976) = false := decide_eq_false t1
            by_cases t2 : 1152921504606846976 < e.ts
            · have t2d : decide (e.ts > 1152921504606846976) = true := decide_eq_true t2
              have t2d' : decide (1152921504606846976 < e.ts) = true := decide_eq_true t2
              have hce := Lib.hid (hcc.out 29 (.inl ⟨.inr t2, rfl⟩))
              clear t1 t2
              go_wp2
              go_ret
              exact ⟨by rw [hce.out]; rfl, hE.out.1⟩
            · have t2d : decide (e.ts > 1152921504606846976) = false := decide_eq_false t2
              have t2d' : decide (1152921504606846976 < e.ts) = false := decide_eq_false t2
              have hce := Lib.hid (hcc.out 0 (.inr ⟨fun h => h.elim t1 t2, rfl⟩))
              clear t1 t2
              go_wp2
              go_ret
              exact ⟨by rw [hce.out]; rfl, hE.out.1⟩
  · have hce := Lib.hid (ceC_sc (e := e) hs)
    have hne : (scC S == 0) = false := by simpa using hs
    clear hl hs
    go_enter Tryd.func25, Tryd.ntmps25
    go_wp2_with (go_at_call 36; refine k1.out.mono ?_; rintro x w' ⟨rfl, hB1⟩; have hE := Lib.hid (hE0'.out.stay hB1); clear hB1)
    go_ret
    exact ⟨by rw [hce.out]; rfl, hE.out.1⟩
end evW
end Go.Proofs.YtmadafejenjkcaaDoor
