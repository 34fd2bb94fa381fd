/- growing.rule. -/
import Derived.Test.YtfnejelbacpheaaDoorEx3
namespace Go.Proofs.YtfnejelbacpheaaDoor
open Go.RowKit Go.Deep Go.Maps
set_option linter.unusedVariables false

theorem MapIs.looks {w : World} {m n : Nat} {l : List ByteArray} (h : MapIs w m n l) {s : ByteArray} (hs : s.size ≤ 1048576) :
    ∃ c : Int, ∀ W : World, Below w.heap.size w W → (Instr.lookup 45 (.map (some m)) (.string s) true).run Tryd.prog W = .ok (.tuple #[.int .i64 c, .bool (l.any fun a => decide (a = s))]) W := by
  obtain ⟨D, h1, h2⟩ := h
  obtain ⟨v, ps, _, hv⟩ := h1.look_ok keyS Tryd.underlying45 (zeroI w) (plainElem_int Tryd.underlying3 (by decide)) (kl_key hs)
  obtain ⟨c, rfl, hc, _⟩ := plainElem_int_inv Tryd.underlying3 hv
  refine ⟨c, fun W hW => ?_⟩
  have h3 := h1.kept (row := none) (Below.grown_none hW) (by simp)
  obtain ⟨v2, ps2, hrun, hv2⟩ := h3.look_ok keyS Tryd.underlying45 (zeroI W) (plainElem_int Tryd.underlying3 (by decide)) (kl_key hs)
  obtain ⟨c2, rfl, hc2, _⟩ := plainElem_int_inv Tryd.underlying3 hv2
  simp only [Prod.mk.injEq] at hc hc2
  have e := hc.1.symm.trans hc2.1
  injection e with e
  injection e with _ e
  subst e
  rw [hrun, h2]

def RulePost (B0 B g m : Nat) (S : List Td) (r : Ru) (w : World) (e : Ending) (w' : World) : Prop :=
  ∃ (n : Int) (ok : Bool), e = .returned (.tuple #[.int .i64 n, .bool ok]) ∧ (ok = true → OkR S r ∧ ∃ v, GS B0 B w' g m v (addR S r)) ∧ (ok = false → ¬ OkR S r) ∧ Below B0 w w'

namespace nmW
set_option maxHeartbeats 800000 in
theorem rule_k (B0 B g m : Nat) (v : Value) (S : List Td) (r : Ru) (A : Option Addr) (c : Nat) (F : Nat → Prop) (w : World) (hS : SzT S) (hS2 : S.length ≤ 1000000) (hR : SzR1 r) (hBw : B ≤ w.heap.size) (hF : ∀ b, F b → b < B0) (hK : KwIs w) (hK0 : 0 < B0)
    (h : GS B0 B w g m v S) (ra : Rd w F (.slice A r.attrs.length c) (.sl r.attrs.length (r.attrs.flatMap strD))) :
    Calls Tryd.prog 13 #[.pointer (some ⟨g, 0, none⟩), .agg #[.string r.query, .string r.into, .slice A r.attrs.length c]] w (RulePost B0 B g m S r w) := by
  have hB0 : B0 ≤ w.heap.size := by have := h.g0; have := h.g1; omega
  have hx : Below w.heap.size w (w.alloc (.cells #[.string r.query, .string r.into, .slice A r.attrs.length c] 35)) := (Below.refl _ _).alloc (Nat.le_refl _) _
  by_cases he : r.into = ByteArray.empty
  · have h1 := e_true he
    have h2 : GS B0 B (w.alloc (.cells #[.string r.query, .string r.into, .slice A r.attrs.length c] 35)) g m v (addR S r) := by rw [addR_e he]; exact h.stay hx
    have hfin : ∀ n, RulePost B0 B g m S r w (.returned (.tuple #[.int .i64 (-1), .bool ((r.attrs.length : Int) == 0)])) ((w.alloc (.cells #[.string r.query, .string r.into, .slice A r.attrs.length c] 35)).drewN n) := fun n => by
      refine ⟨_, _, rfl, fun ho => ⟨(OkR_e he).2 ?_, _, h2.stay (below_drewN (Below.refl _ _) n)⟩, fun ho => fun hok => ?_, (below_drewN hx n).mono hB0⟩
      · simpa using ho
      · rw [(OkR_e he).1 hok] at ho; simp at ho
    replace hfin := Lib.hid hfin
    replace he := Lib.hid he
    clear h h2 hx hK ra hR hS
    go_enter Tryd.func13, Tryd.ntmps13
    go_wp2
    go_quiet (fail)
    go_wp2
    go_ret2
    exact hfin.out _
  · have h1 := e_false he
    obtain ⟨hr1, hr2⟩ := hR
    have h2 := h.stay hx
    obtain ⟨cc, hlk⟩ := h2.hm.looks hr1
    have c1 : (w.alloc (.cells #[.string r.query, .string r.into, .slice A r.attrs.length c] 35)).cell? ⟨g, 1, none⟩ = some (.map (some m)) := h2.hb.cell 1
    obtain ⟨th, hth⟩ : ∃ th, th = ((S.map (·.name)).any fun a => decide (a = r.into)) := ⟨_, rfl⟩
    have hlk2 : ∀ n, (Instr.lookup 45 (.map (some m)) (.string r.into) true).run Tryd.prog ((w.alloc (.cells #[.string r.query, .string r.into, .slice A r.attrs.length c] 35)).drewN n) = .ok (.tuple #[.int .i64 cc, .bool th]) ((w.alloc (.cells #[.string r.query, .string r.into, .slice A r.attrs.length c] 35)).drewN n) := fun n => by
      rw [hth]; exact hlk _ (below_drewN (Below.refl _ _) n)
    have c1' : w.cell? ⟨g, 1, none⟩ = some (.map (some m)) := h.hb.cell 1
    have hgw : g < w.heap.size := h.hb.lt
    have hgN : ¬ g = w.heap.size := by omega
    cases th
    · obtain ⟨S', hS'⟩ : ∃ S', S' = S ++ [(⟨r.into, r.attrs⟩ : Td)] := ⟨_, rfl⟩
      have hsn : SzT S' := by rw [hS']; exact hS.snoc hS2 hr1 hr2
      have hr2' := hr2.1
      have ka : ∀ n, Calls Tryd.prog 21 #[.pointer (some ⟨g, 0, none⟩), .string r.into, .slice A r.attrs.length c] ((w.alloc (.cells #[.string r.query, .string r.into, .slice A r.attrs.length c] 35)).drewN n) fun e w' =>
          e = .returned (.int .i64 S.length) ∧ (∃ U cu, GS B0 B w' g m (.slice U S'.length cu) S') ∧ Below B0 w w' := fun n =>
        (add_k B0 B g m v S r.into A c F r.attrs hr2' hr1 hS2 _ (by simp; omega) hF (h2.stay (below_drewN (Below.refl _ _) n)) (ra.stay (below_drewN hx n))).mono fun e w' ⟨h1, ⟨v', h2⟩, h3⟩ => by
          rw [← hS'] at h2
          obtain ⟨U, cu, rfl⟩ := h2.ho.form
          exact ⟨h1, ⟨U, cu, h2⟩, ((below_drewN hx n).mono hB0).trans h3⟩
      have hKB : ∀ W, Below B0 w W → KwIs W := fun W hW => hK.below hW hK0
      obtain ⟨q, hq⟩ : ∃ q, q = scC S' := ⟨_, rfl⟩
      have kc : ∀ W U cu, GS B0 B W g m (.slice U S'.length cu) S' → Below B0 w W → Calls Tryd.prog 11 #[.agg #[.slice U S'.length cu]] W fun e w' => e = .returned (.int .i64 q) ∧ Below W.heap.size W w' := fun W U cu hG hW => by
        rw [hq]
        exact checkSchema_k U cu (fun b => b < W.heap.size) S' hsn W (hKB W hW) (fun _ h => h) (hG.ho.rd (fun _ _ h => h) (fun _ _ h => h))
      have hfin : ∀ W W2 v', GS B0 B W g m v' S' → Below B0 w W → Below W.heap.size W W2 → RulePost B0 B g m S r w (.returned (.tuple #[.int .i64 S.length, .bool (q == 0)])) W2 := fun W W2 v' hG hW hW2 => by
        refine ⟨_, _, rfl, fun ho => ⟨(OkR_n he).2 ?_, v', ?_⟩, fun ho hok => ?_, hW.trans (hW2.mono (Nat.le_trans hB0 hW.size))⟩
        · rw [← hS', ← hq]; simpa using ho
        · rw [addR_n he, ← hS']; exact hG.stay hW2
        · rw [OkR_n he, ← hS', ← hq] at hok; simp [hok] at ho
      replace hfin := Lib.hid hfin
      replace ka := Lib.hid ka
      replace kc := Lib.hid kc
      clear h h2 hx hK ra hr2 hS hlk hth hq hKB hsn he hS' hr2'
      go_enter Tryd.func13, Tryd.ntmps13
      go_wp2
      go_quiet (fail)
      go_wp2_with (first
        | (go_at_call 21; refine (ka.out _).mono ?_; rintro e W ⟨rfl, ⟨U, cu, hG⟩, hW⟩; have d0 : W.cell? ⟨g, 0, none⟩ = some (.slice U S'.length cu) := hG.hb.cell 0; replace hW := Lib.hid hW; replace hG := Lib.hid hG)
        | (go_at_call 11; refine (kc.out W U cu hG.out hW.out).mono ?_; rintro e W2 ⟨rfl, hW2⟩))
      go_ret2
      exact hfin.out _ _ _ hG.out hW.out hW2
    · have hno : ¬ OkR S r := fun hok => scC_twice (t := ⟨r.into, r.attrs⟩) hth.symm ((OkR_n he).1 hok)
      have hfin : ∀ n, RulePost B0 B g m S r w (.returned (.tuple #[.int .i64 0, .bool false])) ((w.alloc (.cells #[.string r.query, .string r.into, .slice A r.attrs.length c] 35)).drewN n) := fun n =>
        ⟨_, _, rfl, fun ho => (by cases ho), fun ho => hno, (below_drewN hx n).mono hB0⟩
      replace hfin := Lib.hid hfin
      replace he := Lib.hid he
      clear h h2 hx hK ra hr2 hS hlk hth
      go_enter Tryd.func13, Tryd.ntmps13
      go_wp2
      go_quiet (fail)
      go_wp2
      go_ret2
      exact hfin.out _
end nmW
end Go.Proofs.YtfnejelbacpheaaDoor
