/- The schema text in plain Lean: its pieces, the reader's steps, the grammar. No conditions. -/
import Derived.Test.YtmadafejenjkcaaDoorSc2
namespace Go.Proofs.YtmadafejenjkcaaDoor
open Go.RowKit Go.Deep
set_option linter.unusedVariables false
set_option linter.unusedSimpArgs false

/-- a piece: from a, ahead of e; a word or a mark -/
structure Pc where
  a : Nat
  e : Nat
  w : Bool
def flush (b : Option Nat) (a : Nat) : List Pc := match b with | some s => [⟨s, a, true⟩] | none => []
def whiteN (c : Nat) : Bool := decide (c = 32) || decide (c = 9) || decide (c = 10) || decide (c = 13)
def pcL : Nat → Option Nat → Bool → List Nat → List Pc
  | a, b, _, [] => flush b a
  | a, b, true, c :: r => pcL (a + 1) b (decide (c ≠ 10)) r
  | a, b, false, c :: r =>
    if wordN c = true then pcL (a + 1) (some (b.getD a)) false r
    else flush b a ++ (if whiteN c = true then pcL (a + 1) none false r else if c = 35 then pcL (a + 1) none true r else ⟨a, a + 1, false⟩ :: pcL (a + 1) none false r)
def bsT (T : ByteArray) (a : Nat) : List Nat := (T.data.toList.map (·.toNat)).drop a
theorem bsT_lt {T : ByteArray} {a : Nat} (h : a < T.size) : bsT T a = (T[a]'h).toNat :: bsT T (a + 1) := by
  have hl : a < (T.data.toList.map (·.toNat)).length := by simp; exact h
  unfold bsT
  rw [List.drop_eq_getElem_cons hl]
  simp
  rfl
theorem bsT_end {T : ByteArray} {a : Nat} (h : T.size ≤ a) : bsT T a = [] := by
  unfold bsT
  rw [List.drop_eq_nil_iff]
  simp
  exact h
def pcs (T : ByteArray) (a : Nat) (b : Option Nat) (cm : Bool) : List Pc := pcL a b cm (bsT T a)
section
variable {T : ByteArray} {a : Nat}
theorem pcs_end (h : T.size ≤ a) (b : Option Nat) (cm : Bool) : pcs T a b cm = flush b a := by
  unfold pcs; rw [bsT_end h]; cases cm <;> rfl
theorem pcs_cm (h : a < T.size) (b : Option Nat) : pcs T a b true = pcs T (a + 1) b (decide ((T[a]'h).toNat ≠ 10)) := by
  unfold pcs; rw [bsT_lt h]; rfl
theorem pcs_word (h : a < T.size) (b : Option Nat) (hw : wordN (T[a]'h).toNat = true) : pcs T a b false = pcs T (a + 1) (some (b.getD a)) false := by
  unfold pcs; rw [bsT_lt h]; simp only [pcL, hw, if_true]
theorem pcs_non (h : a < T.size) (b : Option Nat) (hw : wordN (T[a]'h).toNat = false) : pcs T a b false = flush b a ++ pcs T a none false := by
  unfold pcs; rw [bsT_lt h]; simp [pcL, hw, flush]
theorem pcs_white (h : a < T.size) (hw : wordN (T[a]'h).toNat = false) (hv : whiteN (T[a]'h).toNat = true) : pcs T a none false = pcs T (a + 1) none false := by
  unfold pcs; rw [bsT_lt h]; simp [pcL, hw, hv, flush]
theorem pcs_hash (h : a < T.size) (hc : (T[a]'h).toNat = 35) : pcs T a none false = pcs T (a + 1) none true := by
  unfold pcs; rw [bsT_lt h]; simp [pcL, hc, flush, wordN, letN, digN, whiteN]
theorem pcs_mark (h : a < T.size) (hw : wordN (T[a]'h).toNat = false) (hv : whiteN (T[a]'h).toNat = false) (hc : (T[a]'h).toNat ≠ 35) : pcs T a none false = ⟨a, a + 1, false⟩ :: pcs T (a + 1) none false := by
  unfold pcs; rw [bsT_lt h]; simp [pcL, hw, hv, hc, flush]
/-- a word's end -/
theorem pcs_cut (b : Option Nat) (h : ∀ h : a < T.size, wordN (T[a]'h).toNat = false) : pcs T a b false = flush b a ++ pcs T a none false := by
  by_cases hl : a < T.size
  · exact pcs_non hl b (h hl)
  · rw [pcs_end (by omega), pcs_end (by omega)]; simp [flush]
/-- a comment's end -/
theorem pcs_line (h : ∀ h : a < T.size, (T[a]'h).toNat = 10) : pcs T a none true = pcs T a none false := by
  by_cases hl : a < T.size
  · rw [pcs_cm hl, pcs_white hl (by rw [h hl]; rfl) (by rw [h hl]; rfl), h hl]; rfl
  · rw [pcs_end (by omega), pcs_end (by omega)]
/-- a comment's bytes -/
theorem pcs_skip (h : a < T.size) (hc : (T[a]'h).toNat ≠ 10) (b : Option Nat) : pcs T a b true = pcs T (a + 1) b true := by
  rw [pcs_cm h, decide_eq_true hc]
theorem pcs_skips (k : Nat) (h : ∀ i, a ≤ i → i < a + k → ∃ h : i < T.size, (T[i]'h).toNat ≠ 10) (b : Option Nat) : pcs T a b true = pcs T (a + k) b true := by
  induction k with
  | zero => rfl
  | succ k ih =>
    rw [ih fun i h1 h2 => h i h1 (by omega)]
    obtain ⟨h1, h2⟩ := h (a + k) (by omega) (by omega)
    exact pcs_skip h1 h2 b
end

/-! ### the pieces lie in the text -/
structure PcOk (T : ByteArray) (p : Pc) : Prop where
  lt : p.a < p.e
  le : p.e ≤ T.size
  wd : p.w = true → ∀ i, p.a ≤ i → i < p.e → ∃ h : i < T.size, wordN (T[i]'h).toNat = true
  mrk : p.w = false → p.e = p.a + 1 ∧ ∃ h : p.a < T.size, wordN (T[p.a]'h).toNat = false
def BgOk (T : ByteArray) (a : Nat) (b : Option Nat) : Prop := ∀ s, b = some s → s < a ∧ ∀ i, s ≤ i → i < a → ∃ h : i < T.size, wordN (T[i]'h).toNat = true
theorem BgOk.none (T : ByteArray) (a : Nat) : BgOk T a none := fun s h => by cases h
theorem BgOk.next {T : ByteArray} {a : Nat} {b : Option Nat} (h : BgOk T a b) (hl : a < T.size) (hw : wordN (T[a]'hl).toNat = true) : BgOk T (a + 1) (some (b.getD a)) := by
  intro s hs
  injection hs with hs
  cases b with
  | none =>
    simp at hs
    subst hs
    exact ⟨by omega, fun i h1 h2 => by obtain rfl : i = a := by omega
                                       exact ⟨hl, hw⟩⟩
  | some t =>
    simp at hs
    subst hs
    obtain ⟨h1, h2⟩ := h t rfl
    refine ⟨by omega, fun i h3 h4 => ?_⟩
    by_cases e : i = a
    · subst e; exact ⟨hl, hw⟩
    · exact h2 i h3 (by omega)
theorem flush_ok {T : ByteArray} {a : Nat} {b : Option Nat} (h : BgOk T a b) (ha : a ≤ T.size) : ∀ p ∈ flush b a, PcOk T p := by
  intro p hp
  cases b with
  | none => simp [flush] at hp
  | some s =>
    simp [flush] at hp
    subst hp
    obtain ⟨h1, h2⟩ := h s rfl
    exact ⟨h1, ha, fun _ i h3 h4 => h2 i h3 h4, fun h => by cases h⟩
theorem pcs_ok {T : ByteArray} : ∀ (n a : Nat) (b : Option Nat) (cm : Bool), T.size - a ≤ n → a ≤ T.size → BgOk T a b → (cm = true → b = none) → ∀ p ∈ pcs T a b cm, PcOk T p := by
  intro n
  induction n with
  | zero =>
    intro a b cm h ha hb hc p hp
    rw [pcs_end (by omega)] at hp
    exact flush_ok hb ha p hp
  | succ n ih =>
    intro a b cm h ha hb hc p hp
    by_cases hl : a < T.size
    · cases cm with
      | true =>
        rw [hc rfl, pcs_cm hl] at hp
        exact ih (a + 1) none _ (by omega) (by omega) (.none _ _) (fun _ => rfl) p hp
      | false =>
        cases hw : wordN (T[a]'hl).toNat with
        | true =>
          rw [pcs_word hl b hw] at hp
          exact ih (a + 1) _ false (by omega) (by omega) (hb.next hl hw) (fun h => by cases h) p hp
        | false =>
          rw [pcs_non hl b hw] at hp
          rcases List.mem_append.1 hp with hp | hp
          · exact flush_ok hb ha p hp
          · cases hv : whiteN (T[a]'hl).toNat with
            | true =>
              rw [pcs_white hl hw hv] at hp
              exact ih (a + 1) none false (by omega) (by omega) (.none _ _) (fun _ => rfl) p hp
            | false =>
              by_cases hh : (T[a]'hl).toNat = 35
              · rw [pcs_hash hl hh] at hp
                exact ih (a + 1) none true (by omega) (by omega) (.none _ _) (fun _ => rfl) p hp
              · rw [pcs_mark hl hw hv hh] at hp
                rcases List.mem_cons.1 hp with rfl | hp
                · exact ⟨(by show a < a + 1; omega), hl, (fun h => by cases h), fun _ => ⟨rfl, hl, hw⟩⟩
                · exact ih (a + 1) none false (by omega) (by omega) (.none _ _) (fun _ => rfl) p hp
    · rw [pcs_end (by omega)] at hp
      exact flush_ok hb ha p hp

/-! ### the reader's steps -/
structure Rs where
  want : Nat
  ts : List Td
def dig0 (w : ByteArray) : Bool := if h : 0 < w.size then digN (w[0]'h).toNat else false
def tType : ByteArray := ⟨#[116, 121, 112, 101]⟩
def tTs : ByteArray := ⟨#[116, 115]⟩
def hasN (l : List Td) (w : ByteArray) : Bool := l.any fun t => decide (t.name = w)
def hasA (l : List ByteArray) (w : ByteArray) : Bool := l.any fun t => decide (t = w)
noncomputable def nameC (l : List Td) (w : ByteArray) : Int := if dig0 w = true then 21 else if isNm w = false then 22 else if hasN l w = true then 25 else 0
noncomputable def attrC (l : List ByteArray) (w : ByteArray) : Int := if dig0 w = true then 21 else if l.length = 8 then 24 else if isNm w = false ∨ w = tTs then 22 else if hasA l w = true then 25 else 0
def lastA (l : List Td) : List ByteArray := match l.getLast? with | some t => t.attrs | none => []
def addA (l : List Td) (w : ByteArray) : List Td := match l.getLast? with | some t => l.dropLast ++ [⟨t.name, t.attrs ++ [w]⟩] | none => l
noncomputable def stepW (s : Rs) (w : ByteArray) : Int × Rs :=
  if s.want = 0 then (if w ≠ tType then (21, s) else if s.ts.length = 16 then (23, s) else (0, ⟨1, s.ts⟩))
  else if s.want = 1 then (nameC s.ts w, ⟨2, s.ts ++ [⟨w, []⟩]⟩)
  else if s.want = 3 ∨ s.want = 4 then (attrC (lastA s.ts) w, ⟨5, addA s.ts w⟩)
  else (21, s)
def stepM (s : Rs) (c : Nat) : Int × Rs :=
  if c = 40 ∧ s.want = 2 then (0, ⟨3, s.ts⟩)
  else if c = 41 ∧ (s.want = 3 ∨ s.want = 5) then (0, ⟨0, s.ts⟩)
  else if c = 44 ∧ s.want = 5 then (0, ⟨4, s.ts⟩)
  else (21, s)
def chr (T : ByteArray) (a : Nat) : Nat := if h : a < T.size then (T[a]'h).toNat else 0
noncomputable def step (T : ByteArray) (s : Rs) (p : Pc) : Int × Rs := if p.w = true then stepW s (T.extract p.a p.e) else stepM s (chr T p.a)
def endC (T : ByteArray) (s : Rs) : Int × Nat := if s.want ≠ 0 then (21, T.size) else if s.ts = [] then (23, T.size) else (0, 0)
noncomputable def go (T : ByteArray) : Rs → List Pc → Int × Nat
  | s, [] => endC T s
  | s, p :: ps => if (step T s p).1 ≠ 0 then ((step T s p).1, p.a) else go T (step T s p).2 ps
/-- the answer's code and place -/
noncomputable def psC (T : ByteArray) : Int × Nat := if 4096 < T.size then (20, 4096) else go T ⟨0, []⟩ (pcs T 0 none false)

/-! ### the grammar -/
section
variable {T : ByteArray} {L : List Pc}
def plA (T : ByteArray) (L : List Pc) (i : Nat) : Nat := match L[i]? with | some p => p.a | none => T.size
def isP (T : ByteArray) (L : List Pc) (i : Nat) (x : ByteArray) : Bool := match L[i]? with | some p => decide (T.extract p.a p.e = x) | none => false
def wdP (T : ByteArray) (L : List Pc) (i : Nat) : Bool := match L[i]? with | some p => p.w && !digN (chr T p.a) | none => false
def wtP (T : ByteArray) (L : List Pc) (i : Nat) : ByteArray := match L[i]? with | some p => T.extract p.a p.e | none => ByteArray.empty
theorem go_lt {i : Nat} {p : Pc} (s : Rs) (h : L[i]? = some p) : go T s (L.drop i) = if (step T s p).1 ≠ 0 then ((step T s p).1, p.a) else go T (step T s p).2 (L.drop (i + 1)) := by
  obtain ⟨h1, h2⟩ := List.getElem?_eq_some_iff.1 h
  rw [List.drop_eq_getElem_cons h1, h2]
  rfl
theorem go_end {i : Nat} (s : Rs) (h : L[i]? = none) : go T s (L.drop i) = endC T s := by
  rw [List.getElem?_eq_none_iff] at h
  rw [List.drop_eq_nil_iff.2 h]
  rfl
theorem ext_size {a e : Nat} (h : a ≤ e) (h2 : e ≤ T.size) : (T.extract a e).size = e - a := by
  simp
  omega
theorem ext_get {a e i : Nat} (h : a + i < e) (h2 : e ≤ T.size) (h3 : i < (T.extract a e).size) : (T.extract a e)[i]'h3 = T[a + i]'(by omega) := by
  simp [ByteArray.getElem_extract]
theorem PcOk.dig {p : Pc} (h : PcOk T p) : dig0 (T.extract p.a p.e) = digN (chr T p.a) := by
  have h1 := h.lt
  have h2 := h.le
  have h3 : 0 < (T.extract p.a p.e).size := by rw [ext_size (by omega) h2]; omega
  unfold dig0 chr
  rw [dif_pos h3, dif_pos (by omega), ext_get (by omega) h2]
  rfl
theorem ba_one {b : ByteArray} {c : UInt8} (h : b = ⟨#[c]⟩) : b.size = 1 ∧ ∀ h : 0 < b.size, b[0]'h = c := by
  subst h
  exact ⟨rfl, fun _ => rfl⟩
theorem ba_of_one {b : ByteArray} {c : UInt8} (h : b.size = 1) (h2 : ∀ h : 0 < b.size, b[0]'h = c) : b = ⟨#[c]⟩ := by
  apply ByteArray.ext
  apply Array.ext
  · exact h
  · intro i h3 h4
    have : i = 0 := by simp at h4; omega
    subst this
    exact h2 (by omega)
/-- a mark's text -/
theorem PcOk.markIs {p : Pc} (h : PcOk T p) (c : UInt8) (hc : wordN c.toNat = false) : T.extract p.a p.e = ⟨#[c]⟩ ↔ p.w = false ∧ chr T p.a = c.toNat := by
  have h1 := h.lt
  have h2 := h.le
  have hch : chr T p.a = (T[p.a]'(by omega)).toNat := by unfold chr; rw [dif_pos]
  constructor
  · intro e
    obtain ⟨e1, e2⟩ := ba_one e
    have e3 := e2 (by omega)
    rw [ext_get (by omega) h2] at e3
    have e4 : chr T p.a = c.toNat := by rw [hch, ← e3]; rfl
    refine ⟨?_, e4⟩
    cases hw : p.w with
    | false => rfl
    | true =>
      obtain ⟨h3, h4⟩ := h.wd hw p.a (by omega) (by omega)
      rw [hch] at e4
      rw [e4, hc] at h4
      cases h4
  · rintro ⟨e1, e2⟩
    obtain ⟨e3, _⟩ := h.mrk e1
    refine ba_of_one (by rw [ext_size (by omega) h2]; omega) fun h5 => ?_
    rw [ext_get (by omega) h2]
    rw [hch] at e2
    exact UInt8.toNat_inj.1 e2
theorem PcOk.typeIs {p : Pc} (h : PcOk T p) (he : T.extract p.a p.e = tType) : p.w = true := by
  cases hw : p.w with
  | true => rfl
  | false =>
    obtain ⟨e3, _⟩ := h.mrk hw
    have h1 := h.lt
    have h2 := h.le
    have := ext_size (T := T) (a := p.a) (e := p.e) (by omega) h2
    rw [he] at this
    have h5 : tType.size = 4 := rfl
    omega
theorem PcOk.mark {p : Pc} (h : PcOk T p) (hw : p.w = false) (s : Rs) : step T s p = stepM s (chr T p.a) := by unfold step; rw [hw]; rfl

theorem type_step (hL : ∀ p ∈ L, PcOk T p) {k : Nat} {ts : List Td} (hk : k < L.length) (ht : ts.length ≤ 16) : go T ⟨0, ts⟩ (L.drop k) = if isP T L k tType = false then (21, plA T L k) else if 16 ≤ ts.length then (23, plA T L k) else go T ⟨1, ts⟩ (L.drop (k + 1)) := by
  have hp := List.getElem?_eq_getElem hk
  generalize L[k] = p at hp
  have ho := hL p (List.mem_of_getElem? hp)
  rw [go_lt _ hp]
  simp only [isP, plA, hp]
  by_cases he : T.extract p.a p.e = tType
  · have hw := ho.typeIs he
    by_cases h16 : ts.length = 16
    · simp [step, hw, stepW, he, h16]
    · have : ¬ 16 ≤ ts.length := by omega
      simp [step, hw, stepW, he, h16, this]
  · cases hw : p.w with
    | true => simp [step, hw, stepW, he]
    | false => simp [step, hw, stepM, he]
theorem name_step (hL : ∀ p ∈ L, PcOk T p) {k : Nat} {ts : List Td} : go T ⟨1, ts⟩ (L.drop k) = if wdP T L k = false then (21, plA T L k) else if nameC ts (wtP T L k) ≠ 0 then (nameC ts (wtP T L k), plA T L k) else go T ⟨2, ts ++ [⟨wtP T L k, []⟩]⟩ (L.drop (k + 1)) := by
  cases hp : L[k]? with
  | none => rw [go_end _ hp]; simp [wdP, plA, hp, endC]
  | some p =>
    have ho := hL p (List.mem_of_getElem? hp)
    rw [go_lt _ hp]
    simp only [wdP, wtP, plA, hp]
    cases hw : p.w with
    | false => simp [step, hw, stepM]
    | true =>
      cases hd : digN (chr T p.a) with
      | false => simp [step, hw, stepW, hd]
      | true =>
        have : nameC ts (T.extract p.a p.e) = 21 := by unfold nameC; rw [ho.dig, hd]; rfl
        simp [step, hw, stepW, hd, this]
theorem open_step (hL : ∀ p ∈ L, PcOk T p) {k : Nat} {ts : List Td} : go T ⟨2, ts⟩ (L.drop k) = if isP T L k ⟨#[40]⟩ = true then go T ⟨3, ts⟩ (L.drop (k + 1)) else (21, plA T L k) := by
  cases hp : L[k]? with
  | none => rw [go_end _ hp]; simp [isP, plA, hp, endC]
  | some p =>
    have ho := hL p (List.mem_of_getElem? hp)
    rw [go_lt _ hp]
    simp only [isP, plA, hp]
    have hm := ho.markIs 40 (by decide)
    cases hw : p.w with
    | true => simp [step, hw, stepW, hm]
    | false =>
      by_cases hc : chr T p.a = 40
      · simp [step, hw, stepM, hm, hc]
      · simp [step, hw, stepM, hm, hc]
theorem close_step (hL : ∀ p ∈ L, PcOk T p) {k : Nat} {ts : List Td} (h : isP T L k ⟨#[41]⟩ = true) : go T ⟨3, ts⟩ (L.drop k) = go T ⟨0, ts⟩ (L.drop (k + 1)) := by
  cases hp : L[k]? with
  | none => simp [isP, hp] at h
  | some p =>
    have ho := hL p (List.mem_of_getElem? hp)
    rw [go_lt _ hp]
    have hm := ho.markIs 41 (by decide)
    simp only [isP, hp, decide_eq_true_eq] at h
    obtain ⟨h1, h2⟩ := hm.1 h
    simp only [show (41 : UInt8).toNat = 41 from rfl] at h2
    simp [step, h1, stepM, h2]
theorem next_step (hL : ∀ p ∈ L, PcOk T p) {k : Nat} {ts : List Td} : go T ⟨5, ts⟩ (L.drop k) = if isP T L k ⟨#[41]⟩ = true then go T ⟨0, ts⟩ (L.drop (k + 1)) else if isP T L k ⟨#[44]⟩ = true then go T ⟨4, ts⟩ (L.drop (k + 1)) else (21, plA T L k) := by
  cases hp : L[k]? with
  | none => rw [go_end _ hp]; simp [isP, plA, hp, endC]
  | some p =>
    have ho := hL p (List.mem_of_getElem? hp)
    rw [go_lt _ hp]
    simp only [isP, plA, hp]
    have hm := ho.markIs 41 (by decide)
    have hm2 := ho.markIs 44 (by decide)
    cases hw : p.w with
    | true => simp [step, hw, stepW, hm, hm2]
    | false =>
      by_cases hc : chr T p.a = 41
      · simp [step, hw, stepM, hm, hm2, hc]
      · by_cases hc2 : chr T p.a = 44
        · simp [step, hw, stepM, hm, hm2, hc, hc2]
        · simp [step, hw, stepM, hm, hm2, hc, hc2]
theorem lastA_snoc (l : List Td) (t : Td) : lastA (l ++ [t]) = t.attrs := by simp [lastA]
theorem addA_snoc (l : List Td) (t : Td) (w : ByteArray) : addA (l ++ [t]) w = l ++ [⟨t.name, t.attrs ++ [w]⟩] := by simp [addA]
theorem attr_step (hL : ∀ p ∈ L, PcOk T p) {k wnt : Nat} {l : List Td} {t : Td} (hw : wnt = 4 ∨ (wnt = 3 ∧ isP T L k ⟨#[41]⟩ = false)) : go T ⟨wnt, l ++ [t]⟩ (L.drop k) = if wdP T L k = false then (21, plA T L k) else if attrC t.attrs (wtP T L k) ≠ 0 then (attrC t.attrs (wtP T L k), plA T L k) else go T ⟨5, l ++ [⟨t.name, t.attrs ++ [wtP T L k]⟩]⟩ (L.drop (k + 1)) := by
  have h34 : wnt = 3 ∨ wnt = 4 := by omega
  have h0 : wnt ≠ 0 := by omega
  have h1 : wnt ≠ 1 := by omega
  cases hp : L[k]? with
  | none => rw [go_end _ hp]; simp [wdP, plA, hp, endC, h0]
  | some p =>
    have ho := hL p (List.mem_of_getElem? hp)
    rw [go_lt _ hp]
    simp only [wdP, wtP, plA, hp]
    cases hpw : p.w with
    | false =>
      have hm := ho.markIs 41 (by decide)
      have e : (stepM ⟨wnt, l ++ [t]⟩ (chr T p.a)).1 = 21 := by
        rcases hw with rfl | ⟨rfl, hw⟩
        · simp [stepM]
        · have hc : chr T p.a ≠ 41 := fun e => by
            simp only [isP, hp, decide_eq_false_iff_not] at hw
            exact hw (hm.2 ⟨hpw, e⟩)
          simp [stepM, hc]
      rw [ho.mark hpw]
      simp [e]
    | true =>
      cases hd : digN (chr T p.a) with
      | false => simp [step, hpw, stepW, hd, h0, h1, h34, lastA_snoc, addA_snoc]
      | true =>
        have : attrC t.attrs (T.extract p.a p.e) = 21 := by unfold attrC; rw [ho.dig, hd]; rfl
        simp [step, hpw, stepW, hd, this, h0, h1, h34, lastA_snoc]
end
end Go.Proofs.YtmadafejenjkcaaDoor
