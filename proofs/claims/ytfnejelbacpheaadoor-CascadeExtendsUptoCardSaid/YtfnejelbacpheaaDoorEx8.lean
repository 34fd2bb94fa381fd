/- The document's may. -/
import Derived.Test.YtfnejelbacpheaaDoorEx7
namespace Go.Proofs.YtfnejelbacpheaaDoor
open Go.RowKit Go.Deep Go.Maps
set_option linter.unusedVariables false
namespace nmW
set_option maxHeartbeats 800000 in
theorem may_k (A A3 : Option Addr) (c c3 : Nat) (F G : Nat → Prop) (S : List Td) (r : Ru) (hS : SzT S) (hS2 : S.length ≤ 1000000) (hR : SzR1 r) (w : World) (hK : KwIs w) (hF : ∀ b, F b → b < w.heap.size) (hG : ∀ b, G b → b < w.heap.size)
    (rs : Rd w F (.slice A S.length c) (.sl S.length (S.flatMap tdD))) (ra : Rd w G (.slice A3 r.attrs.length c3) (.sl r.attrs.length (r.attrs.flatMap strD))) :
    Calls Tryd.prog 15 #[.agg #[.slice A S.length c], .agg #[.string r.query, .string r.into, .slice A3 r.attrs.length c3]] w fun e w' => ∃ b, e = .returned (.bool b) ∧
      (b = true → OkR S r) ∧ (b = false → ¬ OkR S r) ∧ Below w.heap.size w w' := by
  have hb : Below w.heap.size w ((w.alloc (.cells #[.slice A S.length c] 24)).alloc (.cells #[.string r.query, .string r.into, .slice A3 r.attrs.length c3] 35)) := ((Below.refl _ _).alloc (Nat.le_refl _) _).alloc (by simp) _
  by_cases he : r.into = ByteArray.empty
  · have h1 := e_true he
    have h2 : (∀ b, b = ((r.attrs.length : Int) == 0) → (b = true → OkR S r) ∧ (b = false → ¬ OkR S r)) := fun b hb => by
      subst hb
      rw [OkR_e he]
      refine ⟨fun h => by simpa using h, fun h h3 => by rw [h3] at h; simp at h⟩
    replace h2 := Lib.hid h2
    replace hb := Lib.hid hb
    clear hS hK hF hG rs ra he hR
    go_enter Tryd.func15, Tryd.ntmps15
    go_wp2
    go_ret
    exact ⟨_, rfl, (h2.out _ rfl).1, (h2.out _ rfl).2, hb.out⟩
  · have h1 := e_false he
    obtain ⟨q, hq⟩ : ∃ q, q = scC (addR S r) := ⟨_, rfl⟩
    have hsz := hS.addR hS2 hR
    have kw : ∀ W, Below w.heap.size w W → Calls Tryd.prog 16 #[.agg #[.slice A S.length c], .agg #[.string r.query, .string r.into, .slice A3 r.attrs.length c3]] W fun e w' => ∃ U cu, e = .returned (.agg #[.slice U (addR S r).length cu]) ∧
        Rd w' (fun b => b < w'.heap.size) (.slice U (addR S r).length cu) (.sl (addR S r).length ((addR S r).flatMap tdD)) ∧ Below w.heap.size w w' := fun W hW =>
      (with_k A A3 c c3 F G S r hS hS2 hR W (fun b h => Nat.lt_of_lt_of_le (hF b h) hW.size) (fun b h => Nat.lt_of_lt_of_le (hG b h) hW.size) (rs.under hW hF) (ra.under hW hG)).mono fun e w' ⟨v, h1, h2, h3⟩ => by
        obtain ⟨U, cu, rfl⟩ := h2.form
        exact ⟨U, cu, h1, h2.rd (fun _ _ h => h) (fun _ _ h => h), hW.trans (h3.mono hW.size)⟩
    have kc : ∀ W U cu, Below w.heap.size w W → Rd W (fun b => b < W.heap.size) (.slice U (addR S r).length cu) (.sl (addR S r).length ((addR S r).flatMap tdD)) → Calls Tryd.prog 14 #[.agg #[.slice U (addR S r).length cu]] W fun e w' => e = .returned (.int .i64 q) ∧ Below w.heap.size w w' := fun W U cu hW hr => by
      rw [hq]
      exact (rCheckSchema_k U cu (fun b => b < W.heap.size) (addR S r) hsz W (hK.stay hW) (fun _ h => h) hr).mono fun e w' ⟨h1, h2⟩ => ⟨h1, hW.trans (h2.mono hW.size)⟩
    have h2 : ((q == 0) = true → OkR S r) ∧ ((q == 0) = false → ¬ OkR S r) := by
      rw [OkR_n he, ← addR_n he, ← hq]
      exact ⟨fun h => by simpa using h, fun h => by simpa using h⟩
    generalize addR S r = T at *
    replace h2 := Lib.hid h2
    replace hb := Lib.hid hb
    replace kw := Lib.hid kw
    replace kc := Lib.hid kc
    clear hS hK hF hG rs ra he hR hq hsz
    go_enter Tryd.func15, Tryd.ntmps15
    go_wp2_with (first
      | (go_at_call 16; refine (kw.out _ hb.out).mono ?_; rintro e W ⟨U, cu, rfl, hr, hW⟩; have hr2 := hr.alloc (.cells #[.slice U T.length cu] 24); have hW2 := hW.alloc hW.size (.cells #[.slice U T.length cu] 24); have hr3 := hr2.mono (G := fun b => b < (W.alloc (.cells #[.slice U T.length cu] 24)).heap.size) (fun b _ h => h); replace hr3 := Lib.hid hr3; replace hW2 := Lib.hid hW2; clear hr hr2 hW)
      | (go_at_call 14; refine (kc.out _ _ _ hW2.out hr3.out).mono ?_; rintro e W2 ⟨rfl, hW3⟩))
    go_ret
    exact ⟨_, rfl, h2.out.1, h2.out.2, hW3⟩
end nmW
end Go.Proofs.YtfnejelbacpheaaDoor
