/- The law HubNew, walked. -/
import Derived.Test.YtmadafejenjkcaaDoorHg
import Derived.Great.Walk
namespace Go.Proofs.YtmadafejenjkcaaDoor
open Go.RowKit Go.Deep
open hbW
set_option linter.unusedVariables false
set_option linter.unusedSimpArgs false
namespace hbW
set_option maxRecDepth 100000 in
set_option maxHeartbeats 1600000 in
theorem lawH_k (T : ByteArray) (cap : Int) (w : World) (hK : KwIs w) : Calls Tryd.prog 5 #[.string T, .int .i64 cap] w fun e w' => e = .returned (.bool true) ∧ Below w.heap.size w w' := by
  have k1 := Lib.hid (hubNew_k T cap w hK)
  have k2 : ∀ W, Below w.heap.size w W → Calls Tryd.prog 16 #[.string T, .int .i64 cap] W (MPost T cap W) := fun W hW => refNew_k T cap W (hK.stay hW)
  replace k2 := Lib.hid k2
  unfold HPost at k1
  unfold MPost at k2
  obtain ⟨⟨wh, cd, pl⟩, hf⟩ : ∃ f, f = hubF T cap := ⟨_, rfl⟩
  rw [← hf] at k1
  rw [← hf] at k2
  simp only [ftV] at k1 k2
  clear hK hf
  go_enter Tryd.func5, Tryd.ntmps5
  go_upto_region 2 with (go_at_call 15; refine k1.out.mono ?_; rintro e W1 ⟨v, rfl, hB1, hv0, hv1⟩)
  have hx1 : Blk (W1.alloc (.cells ⟨[.int .i64 wh, .int .i64 cd, .int .i64 pl]⟩ 47)) W1.heap.size 47 [.int .i64 wh, .int .i64 cd, .int .i64 pl] := Blk.new _ _ _
  have hB2 : Below w.heap.size w (W1.alloc (.cells ⟨[.int .i64 wh, .int .i64 cd, .int .i64 pl]⟩ 47)) := hB1.alloc hB1.size _
  have hH2 : wh = 0 → ∃ h, v = .pointer (some ⟨h, 0, none⟩) ∧ HubAt (W1.alloc (.cells ⟨[.int .i64 wh, .int .i64 cd, .int .i64 pl]⟩ 47)) h ∧ w.heap.size ≤ h := fun e => by
    obtain ⟨h, h1, h2, h3⟩ := hv1 e
    exact ⟨h, h1, h2.stay ((Below.refl _ _).alloc (Nat.le_refl _) _), h3⟩
  clear hv1 hB1 k1
  generalize W1.alloc (.cells ⟨[.int .i64 wh, .int .i64 cd, .int .i64 pl]⟩ 47) = W2 at *
  generalize W1.heap.size = b1 at *
  have kr := Lib.hid (k2.out W2 hB2)
  replace hx1 := Lib.hid hx1
  replace hB2 := Lib.hid hB2
  replace hH2 := Lib.hid hH2
  clear k2
  go_upto_region 3 with (go_at_call 16; refine kr.out.mono ?_; rintro e W3 ⟨u, rfl, hB3, hu0, hu1⟩)
  have hx3 : Blk (W3.alloc (.cells ⟨[.int .i64 wh, .int .i64 cd, .int .i64 pl]⟩ 47)) W3.heap.size 47 [.int .i64 wh, .int .i64 cd, .int .i64 pl] := Blk.new _ _ _
  have hB4' : Below W2.heap.size W2 (W3.alloc (.cells ⟨[.int .i64 wh, .int .i64 cd, .int .i64 pl]⟩ 47)) := hB3.alloc hB3.size _
  have hx4 := hx1.out.stay hB4'
  have hB4 := hB2.out.trans (hB4'.mono hB2.out.size)
  have hH4 : wh = 0 → ∃ h, v = .pointer (some ⟨h, 0, none⟩) ∧ HubAt (W3.alloc (.cells ⟨[.int .i64 wh, .int .i64 cd, .int .i64 pl]⟩ 47)) h ∧ w.heap.size ≤ h := fun e => by
    obtain ⟨h, h1, h2, h3⟩ := hH2.out e
    exact ⟨h, h1, h2.stay hB4', h3⟩
  clear hB4' hB3 hx1 hB2 hH2 kr
  generalize W3.alloc (.cells ⟨[.int .i64 wh, .int .i64 cd, .int .i64 pl]⟩ 47) = W4 at *
  generalize W3.heap.size = b2 at *
  replace hx3 := Lib.hid hx3
  replace hx4 := Lib.hid hx4
  replace hB4 := Lib.hid hB4
  by_cases h0 : wh = 0
  · subst h0
    obtain ⟨h, rfl, hH, hwh⟩ := hH4 rfl
    obtain ⟨p, rfl⟩ := hu1 rfl
    replace hH := Lib.hid hH
    clear hH4 hu0 hu1 hv0
    go_wp2_with first
      | (refine at_op (.load 47 (.tmp 6)) rfl ?_; refine wpList_load_blk rfl 47 (.tmp 6) rfl hx4.out aggFt rfl ?_)
      | (refine at_op (.load 47 (.tmp 8)) rfl ?_; refine wpList_load_blk rfl 47 (.tmp 8) rfl hx3.out aggFt rfl ?_)
      | (refine at_op (.binOp .neq 47 (.tmp 21) (.tmp 22) 47) rfl ?_; refine Go.Great.wpList_readTo rfl _ rfl (.bool false) (by first | rfl | (simp [go_sem]) | (simp [Act.eval, Act.put, go_sem])) ?_)
      | (go_at_call 17; refine (hubMark_k hH.out).mono ?_; rintro e W5 ⟨rfl, hH5, hB5⟩; replace hH5 := Lib.hid hH5; replace hB5 := Lib.hid (hB5.mono hwh))
      | (go_at_call 18; refine (queries_k hH5.out).mono ?_; rintro e W6 ⟨⟨p6, c6, rfl⟩, hB6⟩; replace hB6 := Lib.hid (hB6.mono hwh))
    go_ret
    exact ⟨rfl, hB4.out.trans (hB5.out.trans hB6.out)⟩
  · obtain rfl := hv0 h0
    obtain rfl := hu0 h0
    clear hH4 hu0 hu1 hv0
    replace h0 := Lib.hid h0
    go_wp2_with first
      | (refine at_op (.load 47 (.tmp 6)) rfl ?_; refine wpList_load_blk rfl 47 (.tmp 6) rfl hx4.out aggFt rfl ?_)
      | (refine at_op (.load 47 (.tmp 8)) rfl ?_; refine wpList_load_blk rfl 47 (.tmp 8) rfl hx3.out aggFt rfl ?_)
      | (refine at_op (.binOp .neq 47 (.tmp 21) (.tmp 22) 47) rfl ?_; refine Go.Great.wpList_readTo rfl _ rfl (.bool false) (by first | rfl | (simp [go_sem]) | (simp [Act.eval, Act.put, go_sem])) ?_)
    go_ret
    exact ⟨rfl, hB4.out⟩
end hbW
end Go.Proofs.YtmadafejenjkcaaDoor
