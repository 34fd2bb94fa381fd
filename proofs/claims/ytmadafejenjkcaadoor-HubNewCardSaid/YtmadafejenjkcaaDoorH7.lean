/- The document's reader: the pieces of a text, in memory. -/
import Derived.Test.YtmadafejenjkcaaDoorH2
namespace Go.Proofs.YtmadafejenjkcaaDoor
open Go.RowKit Go.Deep
set_option linter.unusedVariables false
set_option linter.unusedSimpArgs false

theorem pcs_len {T : ByteArray} : ∀ (n a : Nat) (b : Option Nat) (cm : Bool), T.size - a ≤ n → a ≤ T.size → (cm = true → b = none) → (pcs T a b cm).length ≤ T.size - a + (if b = none then 0 else 1) := by
  have hf : ∀ (b : Option Nat) (a : Nat), (flush b a).length = if b = none then 0 else 1 := fun b a => by cases b <;> rfl
  intro n
  induction n with
  | zero => intro a b cm h ha hc; rw [pcs_end (by omega), hf]; omega
  | succ n ih =>
    intro a b cm h ha hc
    by_cases hl : a < T.size
    · cases cm with
      | true =>
        obtain rfl := hc rfl
        rw [pcs_cm hl]
        have := ih (a + 1) none (decide ((T[a]'hl).toNat ≠ 10)) (by omega) (by omega) (fun _ => rfl)
        simp at this ⊢
        omega
      | false =>
        cases hw : wordN (T[a]'hl).toNat with
        | true =>
          rw [pcs_word hl b hw]
          have := ih (a + 1) (some (b.getD a)) false (by omega) (by omega) (fun h => by cases h)
          simp at this
          split <;> omega
        | false =>
          rw [pcs_non hl b hw, List.length_append, hf]
          have key : (pcs T a none false).length ≤ T.size - a := by
            have h1 := ih (a + 1) none false (by omega) (by omega) (fun _ => rfl)
            have h2 := ih (a + 1) none true (by omega) (by omega) (fun _ => rfl)
            simp at h1 h2
            cases hv : whiteN (T[a]'hl).toNat with
            | true => rw [pcs_white hl hw hv]; omega
            | false =>
              by_cases hh : (T[a]'hl).toNat = 35
              · rw [pcs_hash hl hh]; omega
              · rw [pcs_mark hl hw hv hh, List.length_cons]; omega
          omega
    · rw [pcs_end (by omega), hf]; omega
theorem elPc : ElT Tryd.prog 136 159 3 24 := .of Tryd.underlying136 (by kernel_rfl) (by omega)
def pcD (p : Pc) : List D := [.v (.int .i64 p.a), .v (.int .i64 p.e), .v (.bool p.w)]
def pcV (p : Pc) : List Value := [.int .i64 p.a, .int .i64 p.e, .bool p.w]
theorem pc_lit (w : World) (G : Nat → Prop) (p : Pc) : RdL w G (pcV p) (pcD p) := ⟨.v _ rfl, .v _ rfl, .v _ rfl, trivial⟩
/-- the pieces so far -/
structure CI (T : ByteArray) (w wr : World) (i : Nat) (v : Value) (acc : List Pc) : Prop where
  hi : i ≤ T.size
  hb : Below w.heap.size w wr
  ol : OL wr w.heap.size NoB 159 3 v acc.length (acc.flatMap pcD)
  eq : acc ++ pcs T i none false = pcs T 0 none false
theorem CI.len {T : ByteArray} {w wr : World} {i : Nat} {v : Value} {acc : List Pc} (h : CI T w wr i v acc) : acc.length ≤ T.size := by
  have h1 := pcs_len (T := T) T.size 0 none false (by omega) (by omega) (fun _ => rfl)
  rw [← h.eq, List.length_append] at h1
  simp at h1
  omega
def CRel (T : ByteArray) (w : World) (x y : Value) (wr : World) : Prop := ∃ i acc, y = .int .i64 (i : Nat) ∧ CI T w wr i x acc
theorem CRel.mk {T : ByteArray} {w wr : World} {x y : Value} {i : Nat} {acc : List Pc} (h1 : y = .int .i64 i) (h2 : CI T w wr i x acc) : CRel T w x y wr := ⟨i, acc, h1, h2⟩
def CutPost (T : ByteArray) (w : World) (e : Ending) (w' : World) : Prop := ∃ v, e = .returned v ∧ OL w' w.heap.size NoB 159 3 v (pcs T 0 none false).length ((pcs T 0 none false).flatMap pcD) ∧ Below w.heap.size w w'
/-- one more piece -/
theorem CI.snoc {T : ByteArray} {w wr w1 : World} {i k : Nat} {v v' : Value} {acc : List Pc} {p : Pc} {o : Obj} (h : CI T w wr i v acc) (hg : (wr.alloc o).grownBy w1 v.ownBlock) (hO : OL w1 w.heap.size NoB 159 3 v' (acc.length + 1) (acc.flatMap pcD ++ pcD p)) (hk : k ≤ T.size) (eq : pcs T i none false = p :: pcs T k none false) : CI T w w1 k v' (acc ++ [p]) :=
  ⟨hk, (h.hb.alloc h.hb.size o).grown hg (by have := h.hb.size; simp; omega) (fun q hq => (h.ol.lt q hq).1), by simpa using hO, by rw [← h.eq, eq]; simp⟩
namespace hbW
open nmW
set_option maxRecDepth 100000 in
set_option maxHeartbeats 4000000 in
theorem cut_k (T : ByteArray) (hT : T.size ≤ 4096) (w : World) : Calls Tryd.prog 49 #[.string T] w (CutPost T w) := by
  have k1 := Lib.hid inWord_k
  have hs0 : CI T w w 0 (.slice none 0 0) [] := ⟨Nat.zero_le _, Below.refl _ _, .nil _ _ _ _ _, rfl⟩
  replace hs0 := Lib.hid hs0
  go_enter Tryd.func49, Tryd.ntmps49
  go_wp2
  go_loopw [3, 4, 5, 6] (fun x y _ _ wr => CRel T w x y wr) (fun _ y _ _ _ => T.size - (intOf y).toNat)
  case atStart => exact .mk (i := 0) rfl hs0.out
  case round =>
    obtain ⟨i, acc, rfl, hI⟩ := hrel
    have hlen := hI.len
    by_cases hlt : i < T.size
    · have g0 : (0 : Int) ≤ (i : Int) := by omega
      have g1 : (i : Int) < T.size := by omega
      obtain ⟨A, ca, rfl⟩ := hI.ol.form
      obtain ⟨wo, hwo⟩ : ∃ wo : World, wo = wr := ⟨_, rfl⟩
      subst hwo
      have hm : ∀ k : Nat, i < k → k ≤ T.size → T.size - k < T.size - i := fun k h1 h2 => by omega
      by_cases hv : whiteN (T[i]'hlt).toNat = true
      · have hw : wordN (T[i]'hlt).toNat = false := by
          simp only [whiteN, Bool.or_eq_true, decide_eq_true_eq] at hv
          rcases hv with ((h | h) | h) | h <;> rw [h] <;> rfl
        have hI2 : CI T w wo (i + 1) (.slice A acc.length ca) acc := ⟨hlt, hI.hb, hI.ol, by rw [← pcs_white hlt hw hv]; exact hI.eq⟩
        replace hI2 := Lib.hid hI2
        simp only [whiteN, Bool.or_eq_true, decide_eq_true_eq, or_assoc] at hv
        replace hm := Lib.hid hm
        clear hw hI
        rcases hv with h | h | h | h
        all_goals
          go_wp2
          go_roundw
          case rel => exact .mk (i := i + 1) (by go_num) hI2.out
          case measure => simp [intOf]; omega
      · have e32 : (((T[i]'hlt).toNat : Int) == 32) = false := by
          rw [beq_eq_false_iff_ne]; intro e; apply hv; simp [whiteN]; omega
        have e9 : (((T[i]'hlt).toNat : Int) == 9) = false := by
          rw [beq_eq_false_iff_ne]; intro e; apply hv; simp [whiteN]; omega
        have e10 : (((T[i]'hlt).toNat : Int) == 10) = false := by
          rw [beq_eq_false_iff_ne]; intro e; apply hv; simp [whiteN]; omega
        have e13 : (((T[i]'hlt).toNat : Int) == 13) = false := by
          rw [beq_eq_false_iff_ne]; intro e; apply hv; simp [whiteN]; omega
        have hv' : whiteN (T[i]'hlt).toNat = false := by simpa using hv
        clear hv
        by_cases hh : (T[i]'hlt).toNat = 35
        · have e35 : (((T[i]'hlt).toNat : Int) == 35) = true := by rw [beq_iff_eq]; omega
          have hst := pcs_hash hlt hh
          have hI2 : ∀ k, k ≤ T.size → pcs T k none false = pcs T i none false → CI T w wo k (.slice A acc.length ca) acc := fun k h1 h2 => ⟨h1, hI.hb, hI.ol, by rw [h2]; exact hI.eq⟩
          replace hI2 := Lib.hid hI2
          replace hst := Lib.hid hst
          replace hm := Lib.hid hm
          replace hv' := Lib.hid hv'
          replace hh := Lib.hid hh
          clear hI
          go_wp2
          go_loopw [6] (fun y wr => ∃ k : Nat, i + 1 ≤ k ∧ k ≤ T.size ∧ y = .int .i64 k ∧ wr = wo ∧ pcs T k none true = pcs T i none false) (fun y _ => T.size - (intOf y).toNat)
          case atStart => exact ⟨i + 1, Nat.le_refl _, hlt, by go_num, rfl, hst.out.symm⟩
          case round =>
            obtain ⟨k, h1, h2, rfl, hwr, he⟩ := hrel
            subst hwr
            have q0 : (0 : Int) ≤ (k : Int) := by omega
            by_cases hk : k < T.size
            · have q1 : (k : Int) < T.size := by omega
              by_cases h10 : (T[k]'hk).toNat = 10
              · have e : (((T[k]'hk).toNat : Int) == 10) = true := by rw [beq_iff_eq]; omega
                have hI3 := Lib.hid (hI2.out k h2 (by rw [← he]; exact (pcs_line fun _ => h10).symm))
                have hmk := Lib.hid (hm.out k (by omega) h2)
                replace he := Lib.hid he
                replace h10 := Lib.hid h10
                go_wp2
                go_roundw
                case rel => exact .mk (i := k) rfl hI3.out
                case measure => have := hmk.out; simp [intOf]; omega
              · have e : (((T[k]'hk).toNat : Int) == 10) = false := by rw [beq_eq_false_iff_ne]; omega
                have he2 := Lib.hid ((pcs_skip hk h10 none).symm.trans he)
                replace he := Lib.hid he
                replace h10 := Lib.hid h10
                go_wp2
                go_roundw
                case rel => exact ⟨k + 1, by omega, hk, by go_num, by trivial, he2.out⟩
                case measure => simp [intOf]; omega
            · have q1 : ¬ (k : Int) < T.size := by omega
              have q2 : decide (k < T.size) = false := decide_eq_false hk
              have hI3 := Lib.hid (hI2.out k h2 (by rw [← he]; exact (pcs_line fun h => absurd h hk).symm))
              have hmk := Lib.hid (hm.out k (by omega) h2)
              replace he := Lib.hid he
              go_wp2
              go_roundw
              case rel => exact .mk (i := k) rfl hI3.out
              case measure => have := hmk.out; simp [intOf]; omega
        · have e35 : (((T[i]'hlt).toNat : Int) == 35) = false := by rw [beq_eq_false_iff_ne]; omega
          cases hw : wordN (T[i]'hlt).toNat with
          | true =>
            have hst := pcs_word hlt none hw
            have hup : ∀ (k : Nat) (v' : Value) (w1 : World), k ≤ T.size → pcs T i none false = ⟨i, k, true⟩ :: pcs T k none false → (wo.alloc (.cells ⟨pcV ⟨i, k, true⟩⟩ 159)).grownBy w1 (Value.slice A acc.length ca).ownBlock → OL w1 w.heap.size NoB 159 3 v' (acc.length + 1) (acc.flatMap pcD ++ pcD ⟨i, k, true⟩) → CI T w w1 k v' (acc ++ [⟨i, k, true⟩]) :=
              fun k v' w1 h1 h2 hg hO => hI.snoc hg hO h1 h2
            have hol := fun o => hI.ol.alloc o
            have hBw := hI.hb.size
            replace hst := Lib.hid hst
            replace hup := Lib.hid hup
            replace hol := Lib.hid hol
            replace hm := Lib.hid hm
            replace hv' := Lib.hid hv'
            replace hh := Lib.hid hh
            have hwi := Lib.hid hw
            clear hI hw
            go_wp2_with (go_at_call 70; refine (k1.out _ _).mono ?_; rw [hwi.out]; rintro e W ⟨rfl, hW⟩; obtain rfl := hW.symm)
            go_loopw [6] (fun y wr => ∃ k : Nat, i + 1 ≤ k ∧ k ≤ T.size ∧ y = .int .i64 k ∧ wr = wo ∧ pcs T k (some i) false = pcs T i none false) (fun y _ => T.size - (intOf y).toNat)
            case atStart => exact ⟨i + 1, Nat.le_refl _, hlt, by go_num, rfl, hst.out.symm⟩
            case round =>
              obtain ⟨k, h1, h2, rfl, hwr, he⟩ := hrel
              subst hwr
              have q0 : (0 : Int) ≤ (k : Int) := by omega
              by_cases hk : k < T.size
              · have q1 : (k : Int) < T.size := by omega
                cases hwk : wordN (T[k]'hk).toNat with
                | true =>
                  have he2 := Lib.hid ((pcs_word hk (some i) hwk).symm.trans he)
                  replace he := Lib.hid he
                  replace hwk := Lib.hid hwk
                  go_wp2_with (go_at_call 70; refine (k1.out _ _).mono ?_; rw [hwk.out]; rintro e W ⟨rfl, hW⟩; obtain rfl := hW.symm)
                  go_roundw
                  case rel => exact ⟨k + 1, by omega, hk, by go_num, by trivial, he2.out⟩
                  case measure => simp [intOf]; omega
                | false =>
                  have he2 := Lib.hid (he.symm.trans (pcs_cut (some i) fun _ => hwk))
                  have hmk := Lib.hid (hm.out k (by omega) h2)
                  replace he := Lib.hid he
                  replace hwk := Lib.hid hwk
                  go_wp2_with first
                    | (go_at_call 70; refine (k1.out _ _).mono ?_; rw [hwk.out]; rintro e W ⟨rfl, hW⟩; obtain rfl := hW.symm)
                    | (at_builtin; refine wpList_app rfl (.tmp 67) (.tmp 71) _ rfl (m := 1) (news := pcD ⟨i, k, true⟩) elPc (hol.out (.cells ⟨pcV ⟨i, k, true⟩⟩ 159)) rfl rfl (Src.lit (pc_lit _ _ ⟨i, k, true⟩)) rfl (by omega) (by omega) (by simp; omega) ?_; intro v' w1 hO1 hg1 ha1; obtain ⟨B3, d3, rfl⟩ := hO1.form; have hU := Lib.hid (hup.out k _ _ h2 he2.out hg1 hO1); clear hO1 hg1 ha1)
                  go_roundw
                  case rel => exact .mk (i := k) rfl hU.out
                  case measure => have := hmk.out; simp [intOf]; omega
              · have q1 : ¬ (k : Int) < T.size := by omega
                have q2 : decide (k < T.size) = false := decide_eq_false hk
                have he2 := Lib.hid (he.symm.trans (pcs_cut (some i) fun h => absurd h hk))
                have hmk := Lib.hid (hm.out k (by omega) h2)
                replace he := Lib.hid he
                go_wp2_with (at_builtin; refine wpList_app rfl (.tmp 67) (.tmp 71) _ rfl (m := 1) (news := pcD ⟨i, k, true⟩) elPc (hol.out (.cells ⟨pcV ⟨i, k, true⟩⟩ 159)) rfl rfl (Src.lit (pc_lit _ _ ⟨i, k, true⟩)) rfl (by omega) (by omega) (by simp; omega) ?_; intro v' w1 hO1 hg1 ha1; obtain ⟨B3, d3, rfl⟩ := hO1.form; have hU := Lib.hid (hup.out k _ _ h2 he2.out hg1 hO1); clear hO1 hg1 ha1)
                go_roundw
                case rel => exact .mk (i := k) rfl hU.out
                case measure => have := hmk.out; simp [intOf]; omega
          | false =>
            have hup : ∀ (v' : Value) (w1 : World), (wo.alloc (.cells ⟨pcV ⟨i, i + 1, false⟩⟩ 159)).grownBy w1 (Value.slice A acc.length ca).ownBlock → OL w1 w.heap.size NoB 159 3 v' (acc.length + 1) (acc.flatMap pcD ++ pcD ⟨i, i + 1, false⟩) → CI T w w1 (i + 1) v' (acc ++ [⟨i, i + 1, false⟩]) :=
              fun v' w1 hg hO => hI.snoc hg hO hlt (pcs_mark hlt hw hv' hh)
            have hol := fun o => hI.ol.alloc o
            have hBw := hI.hb.size
            replace hup := Lib.hid hup
            replace hol := Lib.hid hol
            replace hm := Lib.hid hm
            replace hv' := Lib.hid hv'
            replace hh := Lib.hid hh
            have hwi := Lib.hid hw
            clear hI hw
            go_wp2_with first
              | (go_at_call 70; refine (k1.out _ _).mono ?_; rw [hwi.out]; rintro e W ⟨rfl, hW⟩; obtain rfl := hW.symm)
              | (at_builtin; refine wpList_app rfl (.tmp 16) (.tmp 20) _ rfl (m := 1) (news := pcD ⟨i, i + 1, false⟩) elPc (hol.out (.cells ⟨pcV ⟨i, i + 1, false⟩⟩ 159)) rfl rfl (Src.lit (pc_lit _ _ ⟨i, i + 1, false⟩)) rfl (by omega) (by omega) (by simp; omega) ?_; intro v' w1 hO1 hg1 ha1; obtain ⟨B3, d3, rfl⟩ := hO1.form; have hU := Lib.hid (hup.out _ _ hg1 hO1); clear hO1 hg1 ha1)
            go_roundw
            case rel => exact .mk (i := i + 1) (by go_num) hU.out
            case measure => simp [intOf]; omega
    · have g1 : ¬ (i : Int) < T.size := by omega
      have hi := hI.hi
      obtain rfl : i = T.size := by omega
      have he := hI.eq
      rw [pcs_end (Nat.le_refl _)] at he
      simp only [flush, List.append_nil] at he
      obtain ⟨A, ca, rfl⟩ := hI.ol.form
      have hP : CutPost T w (.returned (.slice A acc.length ca)) wr := ⟨_, rfl, by rw [← he]; exact hI.ol, hI.hb⟩
      replace hP := Lib.hid hP
      clear hI he
      go_wp2
      go_ret
      exact hP.out
end hbW
end Go.Proofs.YtmadafejenjkcaaDoor
