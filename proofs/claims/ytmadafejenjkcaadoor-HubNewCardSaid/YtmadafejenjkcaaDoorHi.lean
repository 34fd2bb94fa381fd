/- What the row's listed variable gives: the keywords stand in it. No conditions. -/
import Derived.Test.YtmadafejenjkcaaDoorNm4
import Derived.Lib.LaidTab
namespace Go.Proofs.YtmadafejenjkcaaDoor
open Go.RowKit Go.Deep
set_option linter.unusedVariables false

/-- what the row's list gives: the keywords stand in their variable -/
theorem kwIs_of {W : World} {rest : List (String × DataW Unit)} {t e : TypeId} {n : Nat} (hg : Tryd.prog.globalNamed "sluice/api.Keywords" = some 0) (hty : (Tryd.prog.globals[0]?).map (·.type) = some t)
    (ht : Tryd.prog.underlying t = some (.array n e)) (he : Tryd.prog.underlying e = some .string) (hce : Tryd.prog.cellsOf e = 1) (hct : Tryd.prog.cellsOf t = n)
    (h : laidMet Tryd.prog (("sluice/api.Keywords", .agg (kwds.map fun s => .lit (.string s.data.toList))) :: rest) W) : KwIs W := by
  obtain ⟨ps, ⟨g', t', cs, fuel, p, q, hg', ht', hvar, hd, _, _⟩, _⟩ := h
  obtain rfl := Option.some.inj (hg.symm.trans hg')
  obtain rfl := Option.some.inj (hty.symm.trans ht')
  cases fuel with
  | zero => simp [DataW.trod] at hd
  | succ fuel =>
    simp only [DataW.trod, ht, hce, hct, Nat.mul_one] at hd
    split at hd
    · obtain ⟨xs, hm, hx⟩ := Option.map_eq_some_iff.1 hd
      have hxs : xs.map (·.1) = kwds.map fun s => (DataW.lit (.string s.data.toList) : DataW Unit) := by
        have := congrArg Prod.fst hx
        simpa using this
      have hxl : xs.length = n := by simpa using Lib.mapM_length hm
      intro i k hk
      have hki : i < n := by
        have h1 := (List.getElem?_eq_some_iff.1 hk).1
        have h2 := congrArg List.length hxs
        simp at h2
        omega
      obtain ⟨b, hb, hf⟩ := Lib.mapM_at hm i i (by simp [hki])
      obtain ⟨s, hc, hbs, _⟩ := DataW.trod_string he hf
      have h1 : cs[i]? = some (.string s) := by
        have := congrArg (·[0]?) hc
        simpa [List.getElem?_take, List.getElem?_drop] using this
      have h2 : (xs.map (·.1))[i]? = some (DataW.lit (.string s.data.toList) : DataW Unit) := by simp [hb, hbs]
      rw [hxs] at h2
      simp only [List.getElem?_map, hk, Option.map_some, Option.some.injEq, DataW.lit.injEq, Lit.string.injEq] at h2
      obtain rfl : k = s := ByteArray.ext (Array.ext' h2)
      have := World.var?_cell hg hvar i
      rw [this]
      simpa using h1
    · cases hd
end Go.Proofs.YtmadafejenjkcaaDoor
