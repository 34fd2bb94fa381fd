/- What the row of changes calls: one contract for all seven. -/
import Derived.Test.YtmadafejenjkcaaDoorX3
import Derived.Test.YtmadafejenjkcaaDoorWa
import Derived.Test.YtmadafejenjkcaaDoorWb
import Derived.Test.YtmadafejenjkcaaDoorWd
import Derived.Test.YtmadafejenjkcaaDoorW8
import Derived.Shelf.Abstract
namespace Go.Proofs.YtmadafejenjkcaaDoor
open Go.RowKit Go.Deep
set_option linter.unusedVariables false
/-- what the row calls for a change of kind q -/
def DoesPost (q : Nat) (c : Cg) (A : Option Addr) (d g : Nat) (W : World) (R : Ending → World → Prop) : Prop := ∃ f, doesV[q]? = some (.func (.func f) #[] #[]) ∧ (∀ args w, (callFunc f args).run Tryd.prog w = .ok (.enter f args) w) ∧
  Calls Tryd.prog f #[.pointer (some ⟨g, 0, none⟩), .agg #[.int .i64 (q : Int), .string c.ty, .string c.at_, .string c.nm, .slice A c.ats.length d, .int .i64 c.n]] W R
theorem eqIn_nil (w : World) (d : Nat) : (Op.equalIn (d + 1) 114 .nilFunc .nilFunc).run Tryd.prog w = .ok true w := by
  simp [Op.equalIn, run_underlying Tryd.underlying114]
theorem eqIn_fn (w : World) (d f : Nat) : (Op.equalIn (d + 1) 114 (.func (.func f) #[] #[]) .nilFunc).run Tryd.prog w = .ok false w := by
  simp [Op.equalIn, run_underlying Tryd.underlying114]
theorem eql_nil (w : World) : (binOp .eql 114 .nilFunc .nilFunc).run Tryd.prog w = .ok (.bool true) w := by
  simp only [binOp]
  simp [Op.equal, Op.maxDepth, eqIn_nil w 9999]
theorem eql_fn (w : World) (f : Nat) : (binOp .eql 114 (.func (.func f) #[] #[]) .nilFunc).run Tryd.prog w = .ok (.bool false) w := by
  simp only [binOp]
  simp [Op.equal, Op.maxDepth, eqIn_fn w 9999]
namespace evW
open nmW
theorem does_k {w : World} {B g nl : Nat} {vk vl : Value} {by_ : Int} {l : List (Kd × Value)} (h : DX w B g vk vl by_ nl l) (hm : SmK (l.map (·.1))) (hnl : nl ≤ 1048576) (c : Cg) (q : Nat) (hq : c.kd = q) (h1 : 1 ≤ q) (h7 : q ≤ 7) (hc2 : c.ats.length ≤ 1048576) (A : Option Addr) (d : Nat) (G : Nat → Prop) (hG : ∀ b, G b → b < w.heap.size)
    (rc : Rd w G (.slice A c.ats.length d) (.sl c.ats.length (c.ats.flatMap strD))) : DoesPost q c A d g w (DPost (l.map (·.1)) c B g (nl + 1) w) := by
  have e : q = 1 ∨ q = 2 ∨ q = 3 ∨ q = 4 ∨ q = 5 ∨ q = 6 ∨ q = 7 := by omega
  rcases e with rfl | rfl | rfl | rfl | rfl | rfl | rfl
  · exact ⟨_, rfl, enters_of Tryd.func58 (by kernel_rfl) rfl, hq ▸ addType_k h hm c hq hc2 A d G hG rc⟩
  · exact ⟨_, rfl, enters_of Tryd.func59 (by kernel_rfl) rfl, hq ▸ dropType_k h hm hnl c hq A d⟩
  · exact ⟨_, rfl, enters_of Tryd.func60 (by kernel_rfl) rfl, hq ▸ renameType_k h hm c hq A d⟩
  · exact ⟨_, rfl, enters_of Tryd.func61 (by kernel_rfl) rfl, hq ▸ addAttr_k h hm c hq A d⟩
  · exact ⟨_, rfl, enters_of Tryd.func62 (by kernel_rfl) rfl, hq ▸ dropAttr_k h hm hnl c hq A d⟩
  · exact ⟨_, rfl, enters_of Tryd.func63 (by kernel_rfl) rfl, hq ▸ renameAttr_k h hm c hq A d⟩
  · exact ⟨_, rfl, enters_of Tryd.func64 (by kernel_rfl) rfl, hq ▸ moveAttr_k h hm c hq A d⟩
end evW
end Go.Proofs.YtmadafejenjkcaaDoor
