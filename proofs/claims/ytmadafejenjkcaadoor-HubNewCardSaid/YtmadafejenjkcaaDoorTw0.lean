/- Own rows: small laws; results that lie in cells. -/
import Derived.Test.YtmadafejenjkcaaDoorSc4
import Derived.Deep.RegionLaw
import Derived.Deep.DeepCutAuto
namespace Go.Proofs.YtmadafejenjkcaaDoor
open Go.RowKit Go.Deep
set_option linter.unusedVariables false

theorem strD_pl (x : ByteArray) : PlainL (strD x) := by intro d h; simp [strD] at h; exact ⟨_, h⟩
theorem strD_len (l : List ByteArray) : (l.flatMap strD).length = l.length * 1 := flatMap_length (f := strD) (m := 1) (fun _ => rfl) _

theorem Src.drew {w : World} {A : Option Addr} {news : List D} {G : Nat → Prop} (h : Src w A news G) : Src w.drew A news G := fun hne =>
  let ⟨b, off, e, hc⟩ := h hne
  ⟨b, off, e, fun k d hd => let ⟨u, h1, h2⟩ := hc k d hd; ⟨u, h1, h2.drew⟩⟩
theorem OL.base {w : World} {B B' : Nat} {F : Nat → Prop} {e size n : Nat} {v : Value} {ds : List D} (h : OL w B F e size v n ds) (hB : B' ≤ B) : OL w B' F e size v n ds := by
  obtain ⟨cells, ⟨h1, h2⟩, h3⟩ := h
  exact ⟨cells, ⟨h1, h2.imp id (fun ⟨g, cap, cur, e, hb, r⟩ => ⟨g, cap, cur, e, Nat.le_trans hB hb, r⟩)⟩, h3⟩
theorem undrew {w w' : World} {row : Option Nat} (h : w.drew.grownBy w' row) : w.grownBy w' row := ⟨h.os, h.tape, h.output, h.size, h.block⟩

theorem aggSc : AggT Tryd.prog 24 1 := ⟨_, Tryd.underlying24, rfl, by kernel_rfl⟩
section
variable {P : Program} {w : World} {g t : Nat} {cs : List Value}
theorem bodyPost_cell1 {fn : Func} {R : Ending → World → Prop} {a : Act} {p ty : Nat} (hr : fn.results = #[.cell p ty]) (h : Blk w g t cs) (T : AggT P ty cs.length)
    (hp : a.tmps.getD p undef = .pointer (some ⟨g, 0, none⟩)) (hd : a.defers = []) (hR : R (.returned (.agg ⟨cs⟩)) w) : bodyPost P fn R .ret a w := by
  refine bodyPost_ret (v := .agg ⟨cs⟩) ?_ hd hR
  simp only [Array.getD_eq_getD_getElem?] at hp
  simp [results, hr, hp, asAddr, run_loadVar_blk h T]
theorem bodyPost_cell3 {fn : Func} {R : Ending → World → Prop} {a : Act} {p q r ty : Nat} {v v2 : Value} (hr : fn.results = #[.cell p ty, .tmp q, .tmp r]) (h : Blk w g t cs) (T : AggT P ty cs.length)
    (hp : a.tmps.getD p undef = .pointer (some ⟨g, 0, none⟩)) (hq : a.tmps.getD q undef = v) (hq2 : a.tmps.getD r undef = v2) (hd : a.defers = []) (hR : R (.returned (.tuple #[.agg ⟨cs⟩, v, v2])) w) : bodyPost P fn R .ret a w := by
  refine bodyPost_ret (v := .tuple #[.agg ⟨cs⟩, v, v2]) ?_ hd hR
  simp only [Array.getD_eq_getD_getElem?] at hp hq hq2
  simp [results, hr, hp, hq, hq2, asAddr, run_loadVar_blk h T]
end

end Go.Proofs.YtmadafejenjkcaaDoor
