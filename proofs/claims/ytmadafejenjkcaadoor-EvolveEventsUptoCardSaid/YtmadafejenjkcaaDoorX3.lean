/- The row of what each kind of change does. -/
import Derived.Test.YtmadafejenjkcaaDoorW4
import Derived.Laws.EntriesVeiled
namespace Go.Proofs.YtmadafejenjkcaaDoor
open Go.RowKit Go.Deep
set_option linter.unusedVariables false

def doesV : List Value := [.nilFunc, .func (.func 58) #[] #[], .func (.func 59) #[] #[], .func (.func 60) #[] #[], .func (.func 61) #[] #[],
  .func (.func 62) #[] #[], .func (.func 63) #[] #[], .func (.func 64) #[] #[]]
theorem aggDoes : AggT Tryd.prog 115 8 := ⟨_, Tryd.underlying115, rfl, by kernel_rfl⟩
namespace evW
open nmW
set_option maxRecDepth 100000 in
set_option maxHeartbeats 1000000 in
theorem tableP_k (w : World) : Calls Tryd.prog 37 #[] w fun e w' => e = .returned (.agg ⟨doesV⟩) ∧ Below w.heap.size w w' := by
  have h0' := Lib.hid ((Below.refl w.heap.size w).alloc (Nat.le_refl _) (.cells ⟨doesV⟩ 115))
  go_enter Tryd.func37, Tryd.ntmps37
  go_wp2
  exact bodyPost_cell1 rfl (Blk.new w _ doesV) aggDoes rfl rfl ⟨rfl, h0'.out⟩
end evW
end Go.Proofs.YtmadafejenjkcaaDoor
