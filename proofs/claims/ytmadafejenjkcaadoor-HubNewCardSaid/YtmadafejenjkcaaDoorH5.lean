/- The program's ParseSchema answers the plain code and place. -/
import Derived.Test.YtmadafejenjkcaaDoorH4
namespace Go.Proofs.YtmadafejenjkcaaDoor
open Go.RowKit Go.Deep
set_option linter.unusedVariables false
set_option linter.unusedSimpArgs false

theorem grown_iterAt (w : World) (k : Nat) (s : ByteArray) (p : Nat) : w.grownBy (w.iterAt k s p) (some k) :=
  ⟨rfl, rfl, rfl, by simp [World.iterAt], fun j _ hn => Lib.iterAt_other w k j s p (fun e => hn (by rw [e]))⟩
theorem Bel.iterAt {B g : Nat} (w : World) (k : Nat) (s : ByteArray) (p : Nat) {B0 : Nat} (h : B0 ≤ k) : Below B0 w (w.iterAt k s p) :=
  ⟨rfl, rfl, rfl, by simp [World.iterAt], fun j hj => Lib.iterAt_other w k j s p (by omega)⟩
theorem RX.iterAt {w : World} {B g want : Nat} {vt : Value} {cd pl : Int} {l : List (Td × Value)} (h : RX w B g want vt cd pl l) {k : Nat} (hk : k < B) (hg : g ≠ k) (s : ByteArray) (p : Nat) : RX (w.iterAt k s p) B g want vt cd pl l :=
  ⟨h.gB, h.bx.grown (grown_iterAt w k s p) (fun e => hg (by injection e)), by simpa [World.iterAt] using h.bw, h.os.grown (grown_iterAt w k s p) hk⟩

def bgV : Option Nat → Value | none => .int .i64 (-1) | some s => .int .i64 s
/-- the reading, at the loop's head -/
structure PR (T : ByteArray) (w wr : World) (p : Nat) (bg : Option Nat) (cm : Bool) (st : Rs) (vt : Value) (l : List (Td × Value)) : Prop where
  hp : p ≤ T.size
  hit : wr.heap[w.heap.size + 1 + 1]? = some (.stringIter T p)
  b0 : Blk wr w.heap.size 24 [.slice none 0 0]
  hb : Below w.heap.size w wr
  rx : RX wr (w.heap.size + 1 + 1 + 1) (w.heap.size + 1) st.want vt 0 0 l
  hl : l.map (·.1) = st.ts
  ok : RsOk st
  bgo : BgOk T p bg
  cmo : cm = true → bg = none
  eq : go T ⟨0, []⟩ (pcs T 0 none false) = go T st (pcs T p bg cm)
def PRel (T : ByteArray) (w : World) (x y : Value) (wr : World) : Prop := ∃ p bg cm st vt l, x = bgV bg ∧ y = .bool cm ∧ PR T w wr p bg cm st vt l
theorem PRel.mk {T : ByteArray} {w wr : World} {x y : Value} {p : Nat} {bg : Option Nat} {cm : Bool} {st : Rs} {vt : Value} {l : List (Td × Value)} (hx : x = bgV bg) (hy : y = .bool cm) (h : PR T w wr p bg cm st vt l) : PRel T w x y wr := ⟨p, bg, cm, st, vt, l, hx, hy, h⟩
/-- what lies apart from the reader -/
structure PA (T : ByteArray) (w W : World) (p : Nat) : Prop where
  hit : W.heap[w.heap.size + 1 + 1]? = some (.stringIter T p)
  b0 : Blk W w.heap.size 24 [.slice none 0 0]
  hb : Below w.heap.size w W
theorem PA.bel {T : ByteArray} {w W W' : World} {p : Nat} (h : PA T w W p) (hb : Bel (w.heap.size + 1 + 1 + 1) (w.heap.size + 1) W W') : PA T w W' p :=
  ⟨(hb.block _ (by omega) (by omega)).trans h.hit, (hb.block _ (by omega) (by omega)).trans h.b0, h.hb.trans (hb.to (by omega) (by omega))⟩
theorem PR.next {T : ByteArray} {w wr : World} {p : Nat} {bg : Option Nat} {cm : Bool} {st : Rs} {vt : Value} {l : List (Td × Value)} (h : PR T w wr p bg cm st vt l) (p' : Nat) :
    PA T w (wr.iterAt (w.heap.size + 1 + 1) T p') p' ∧ RX (wr.iterAt (w.heap.size + 1 + 1) T p') (w.heap.size + 1 + 1 + 1) (w.heap.size + 1) st.want vt 0 0 l :=
  ⟨⟨Lib.iterAt_heap wr _ T p p' h.hit, h.b0.grown (grown_iterAt wr _ T p') (fun e => by injection e with e; omega), Lib.below_iterAt h.hb (by omega) T p'⟩, h.rx.iterAt (by omega) (by omega) T p'⟩
theorem PA.pr {T : ByteArray} {w W : World} {p : Nat} {bg : Option Nat} {cm : Bool} {st : Rs} {vt : Value} {l : List (Td × Value)} (h : PA T w W p) (hp : p ≤ T.size) (hr : RX W (w.heap.size + 1 + 1 + 1) (w.heap.size + 1) st.want vt 0 0 l) (hl : l.map (·.1) = st.ts) (ok : RsOk st) (bgo : BgOk T p bg) (cmo : cm = true → bg = none)
    (eq : go T ⟨0, []⟩ (pcs T 0 none false) = go T st (pcs T p bg cm)) : PR T w W p bg cm st vt l := ⟨hp, h.hit, h.b0, h.hb, hr, hl, ok, bgo, cmo, eq⟩

/-! ### the pieces at a rune -/
theorem dec_hi {T : ByteArray} {p : Nat} (h : p < T.size) : 1 ≤ (Utf8.decode T p).2 ∧ p + (Utf8.decode T p).2 ≤ T.size := by
  by_cases ha : (T[p]'h).toNat < 128
  · rw [decode_ascii T p h ha]; exact ⟨Nat.le_refl _, h⟩
  · have h1 := (decode_high T p h (by omega)).2
    obtain ⟨h2, _⟩ := decode_cont T p h (by omega) (p + (Utf8.decode T p).2 - 1) (by omega) (by omega)
    omega
theorem cm_rune {T : ByteArray} {p : Nat} (h : p < T.size) : pcs T p none true = pcs T (p + (Utf8.decode T p).2) none (decide ((Utf8.decode T p).1 ≠ 10)) := by
  by_cases ha : (T[p]'h).toNat < 128
  · rw [decode_ascii T p h ha, pcs_cm h]
  · have h1 := (decode_high T p h (by omega)).1
    rw [decide_eq_true (show (Utf8.decode T p).1 ≠ 10 by omega)]
    refine pcs_skips _ (fun i h2 h3 => ?_) none
    obtain ⟨h4, h5⟩ := decode_cont T p h (by omega) i h2 h3
    exact ⟨h4, by omega⟩
/-- a rune that is no part of a word -/
theorem rune_cases {T : ByteArray} {p : Nat} (h : p < T.size) (hw : wordN (Utf8.decode T p).1 = false) :
    (((Utf8.decode T p).1 = 32 ∨ (Utf8.decode T p).1 = 9 ∨ (Utf8.decode T p).1 = 10 ∨ (Utf8.decode T p).1 = 13) ∧ pcs T p none false = pcs T (p + (Utf8.decode T p).2) none false) ∨
    ((Utf8.decode T p).1 = 35 ∧ pcs T p none false = pcs T (p + (Utf8.decode T p).2) none true) ∨
    (((Utf8.decode T p).1 ≠ 32 ∧ (Utf8.decode T p).1 ≠ 9 ∧ (Utf8.decode T p).1 ≠ 10 ∧ (Utf8.decode T p).1 ≠ 13 ∧ (Utf8.decode T p).1 ≠ 35) ∧
      ∀ st, (stepM st (Utf8.decode T p).1).1 ≠ 0 ∧ go T st (pcs T p none false) = ((stepM st (Utf8.decode T p).1).1, p) ∨ (stepM st (Utf8.decode T p).1).1 = 0 ∧ go T st (pcs T p none false) = go T (stepM st (Utf8.decode T p).1).2 (pcs T (p + (Utf8.decode T p).2) none false)) := by
  have hw' : wordN (T[p]'h).toNat = false := by rw [← (nmW.dec_word T p h).1]; exact hw
  by_cases ha : (T[p]'h).toNat < 128
  · rw [decode_ascii T p h ha]
    cases hv : whiteN (T[p]'h).toNat with
    | true =>
      refine .inl ⟨?_, pcs_white h hw' hv⟩
      simpa [whiteN, or_assoc] using hv
    | false =>
      by_cases hc : (T[p]'h).toNat = 35
      · exact .inr (.inl ⟨hc, pcs_hash h hc⟩)
      · refine .inr (.inr ⟨?_, fun st => ?_⟩)
        · simp [whiteN] at hv
          exact ⟨hv.1.1.1, hv.1.1.2, hv.1.2, hv.2, hc⟩
        · rw [pcs_mark h hw' hv hc]
          have hs : step T st ⟨p, p + 1, false⟩ = stepM st (T[p]'h).toNat := by
            unfold step chr
            simp only [Bool.false_eq_true, if_false]
            rw [dif_pos h]
          by_cases h0 : (stepM st (T[p]'h).toNat).1 = 0
          · exact .inr ⟨h0, by rw [go, hs, if_neg (by simpa using h0)]⟩
          · exact .inl ⟨h0, by rw [go, hs, if_pos h0]⟩
  · have h1 := (decode_high T p h (by omega)).1
    refine .inr (.inr ⟨by omega, fun st => .inl ?_⟩)
    have e1 : stepM st (Utf8.decode T p).1 = (21, st) := by
      unfold stepM
      rw [if_neg (by omega), if_neg (by omega), if_neg (by omega)]
    have e2 : stepM st (T[p]'h).toNat = (21, st) := by
      unfold stepM
      rw [if_neg (by omega), if_neg (by omega), if_neg (by omega)]
    rw [e1]
    refine ⟨(by show (21 : Int) ≠ 0; decide), ?_⟩
    rw [pcs_mark h hw' (by unfold whiteN; simp; omega) (by omega)]
    have hs : step T st ⟨p, p + 1, false⟩ = stepM st (T[p]'h).toNat := by
      unfold step chr
      simp only [Bool.false_eq_true, if_false]
      rw [dif_pos h]
    rw [go, hs, e2]
    rfl
/-- a word that has come to its end -/
theorem go_word {T : ByteArray} {s p : Nat} (st : Rs) (r : List Pc) : (stepW st (T.extract s p)).1 ≠ 0 ∧ go T st (flush (some s) p ++ r) = ((stepW st (T.extract s p)).1, s) ∨ (stepW st (T.extract s p)).1 = 0 ∧ go T st (flush (some s) p ++ r) = go T (stepW st (T.extract s p)).2 r := by
  have hs : step T st ⟨s, p, true⟩ = stepW st (T.extract s p) := by unfold step; simp
  by_cases h0 : (stepW st (T.extract s p)).1 = 0
  · exact .inr ⟨h0, by show go T st (⟨s, p, true⟩ :: r) = _; rw [go, hs, if_neg (by simpa using h0)]⟩
  · exact .inl ⟨h0, by show go T st (⟨s, p, true⟩ :: r) = _; rw [go, hs, if_pos h0]⟩
/-- the answer -/
def PSPost (T : ByteArray) (w : World) (e : Ending) (w' : World) : Prop := ∃ A n c, e = .returned (.tuple #[.agg #[.slice A n c], .int .i64 (psC T).1, .int .i64 (psC T).2]) ∧ Below w.heap.size w w'
theorem PSPost.mk {T : ByteArray} {w w' : World} {A : Option Addr} {n c : Nat} {x y : Int} {q : Nat} (h : psC T = (x, q)) (hy : y = q) (hb : Below w.heap.size w w') : PSPost T w (.returned (.tuple #[.agg #[.slice A n c], .int .i64 x, .int .i64 y])) w' := ⟨A, n, c, by rw [h, hy], hb⟩
end Go.Proofs.YtmadafejenjkcaaDoor
