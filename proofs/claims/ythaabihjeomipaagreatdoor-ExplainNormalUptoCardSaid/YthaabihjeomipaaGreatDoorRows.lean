/-
  NARROWER THAN 'FOR EVERY INPUT', by the rows' own cells (each row's printed sentence says how): ExplainTexts: laid · ExplainSames: laid · ExplainLines: laid · ExplainNormal: laid.
  DERIVED. THE GIVEN ROWS OF THIS SEAT. 4 by the template 'for every input the law returns true; each argument reads behind the call as it read before'; 0 by the template 'total and deterministic' (their statements: YthaabihjeomipaaGreatDoorTotals.lean).
  GIVEN WITH THE SEED: the statements are not yours to turn. If you find one false, say at which input.
  Laid BY PROGRAM, IN A SANDBOX (cutbox-rows.mjs): the forced cells as the released guide's own fill.sh prints them over the translation 5fe017f94ff730d1… (all of the seat's roots in one cut). By AI agents, Wed Nov 11 2026. No macro, syntax, notation, axiom, sorry.
-/
import Derived.Test.YthaabihjeomipaaGreatDoorChecked
import GoSem.Claim
import GoSem.ClaimJoined
import GoSem.ClaimMapViews
import Derived.JoinedTies
import Derived.KernelRfl
namespace Go.Proofs.YthaabihjeomipaaGreatDoor
/- THE CELL 'sum', in the pinned program and in every row, IS THE sha256 OF THE DUMP (.gsa) THAT YthaabihjeomipaaGreatDoorProg.lean LOADS. Nothing in Lean hashes anything: it is a label: what it is worth is what the hold of that sum in a sandbox is worth. -/
noncomputable def Tryz.pinned : Pinned := { name := "ythaabihjeomipaagreatdoor", sum := "5fe017f94ff730d123519ebb28759265045a895ce700d6cc6130c521a4034f4c", checked := Tryz.checked }
namespace Rows
def none {H : Type} : Left H := { results := [], args := [] }

/- WHAT THE LISTED PACKAGE-LEVEL VARIABLES READ AS WHEN THE CALL BEGINS. Each datum BY PROGRAM (the guide's laid-datum.mjs) off the statement by which the dump's own 'gosem.cut.vars' lays the variable. In a bare row this is a premise. The card (YthaabihjeomipaaGreatDoorCards.lean) ties it to the program's text. -/
def laid_math_bits_deBruijn32tab {H : Type} : DataW H := .agg [.lit (.int .u8 0), .lit (.int .u8 1), .lit (.int .u8 28), .lit (.int .u8 2), .lit (.int .u8 29), .lit (.int .u8 14), .lit (.int .u8 24), .lit (.int .u8 3), .lit (.int .u8 30), .lit (.int .u8 22), .lit (.int .u8 20), .lit (.int .u8 15), .lit (.int .u8 25), .lit (.int .u8 17), .lit (.int .u8 4), .lit (.int .u8 8), .lit (.int .u8 31), .lit (.int .u8 27), .lit (.int .u8 13), .lit (.int .u8 23), .lit (.int .u8 21), .lit (.int .u8 19), .lit (.int .u8 16), .lit (.int .u8 7), .lit (.int .u8 26), .lit (.int .u8 12), .lit (.int .u8 18), .lit (.int .u8 6), .lit (.int .u8 11), .lit (.int .u8 5), .lit (.int .u8 10), .lit (.int .u8 9)]
def laid_math_bits_deBruijn64tab {H : Type} : DataW H := .agg [.lit (.int .u8 0), .lit (.int .u8 1), .lit (.int .u8 56), .lit (.int .u8 2), .lit (.int .u8 57), .lit (.int .u8 49), .lit (.int .u8 28), .lit (.int .u8 3), .lit (.int .u8 61), .lit (.int .u8 58), .lit (.int .u8 42), .lit (.int .u8 50), .lit (.int .u8 38), .lit (.int .u8 29), .lit (.int .u8 17), .lit (.int .u8 4), .lit (.int .u8 62), .lit (.int .u8 47), .lit (.int .u8 59), .lit (.int .u8 36), .lit (.int .u8 45), .lit (.int .u8 43), .lit (.int .u8 51), .lit (.int .u8 22), .lit (.int .u8 53), .lit (.int .u8 39), .lit (.int .u8 33), .lit (.int .u8 30), .lit (.int .u8 24), .lit (.int .u8 18), .lit (.int .u8 12), .lit (.int .u8 5), .lit (.int .u8 63), .lit (.int .u8 55), .lit (.int .u8 48), .lit (.int .u8 27), .lit (.int .u8 60), .lit (.int .u8 41), .lit (.int .u8 37), .lit (.int .u8 16), .lit (.int .u8 46), .lit (.int .u8 35), .lit (.int .u8 44), .lit (.int .u8 21), .lit (.int .u8 52), .lit (.int .u8 32), .lit (.int .u8 23), .lit (.int .u8 11), .lit (.int .u8 54), .lit (.int .u8 26), .lit (.int .u8 40), .lit (.int .u8 15), .lit (.int .u8 34), .lit (.int .u8 20), .lit (.int .u8 31), .lit (.int .u8 10), .lit (.int .u8 25), .lit (.int .u8 14), .lit (.int .u8 19), .lit (.int .u8 9), .lit (.int .u8 13), .lit (.int .u8 8), .lit (.int .u8 7), .lit (.int .u8 6)]
def laid_internal_strconv_uint64pow10 {H : Type} : DataW H := .agg [.lit (.int .u64 1), .lit (.int .u64 10), .lit (.int .u64 100), .lit (.int .u64 1000), .lit (.int .u64 10000), .lit (.int .u64 100000), .lit (.int .u64 1000000), .lit (.int .u64 10000000), .lit (.int .u64 100000000), .lit (.int .u64 1000000000), .lit (.int .u64 10000000000), .lit (.int .u64 100000000000), .lit (.int .u64 1000000000000), .lit (.int .u64 10000000000000), .lit (.int .u64 100000000000000), .lit (.int .u64 1000000000000000), .lit (.int .u64 10000000000000000), .lit (.int .u64 100000000000000000), .lit (.int .u64 1000000000000000000), .lit (.int .u64 10000000000000000000)]
def laid_sluice_api_Keywords {H : Type} : DataW H := .agg [.lit (.string [80, 65, 84, 84, 69, 82, 78]), .lit (.string [83, 69, 81]), .lit (.string [85, 83, 73, 78, 71]), .lit (.string [65, 78, 89]), .lit (.string [78, 69, 88, 84]), .lit (.string [83, 84, 82, 73, 67, 84]), .lit (.string [87, 72, 69, 82, 69]), .lit (.string [87, 73, 84, 72, 73, 78]), .lit (.string [80, 65, 82, 84, 73, 84, 73, 79, 78]), .lit (.string [66, 89]), .lit (.string [82, 69, 84, 85, 82, 78]), .lit (.string [65, 78, 68]), .lit (.string [79, 82]), .lit (.string [78, 79, 84]), .lit (.string [84, 82, 85, 69]), .lit (.string [70, 65, 76, 83, 69]), .lit (.string [67, 79, 85, 78, 84]), .lit (.string [83, 85, 77]), .lit (.string [77, 73, 78]), .lit (.string [77, 65, 88]), .lit (.string [70, 73, 82, 83, 84]), .lit (.string [76, 65, 83, 84]), .lit (.string [80, 82, 69, 86]), .lit (.string [65, 70, 84, 69, 82]), .lit (.string [65, 76, 76]), .lit (.string [80, 65, 83, 84]), .lit (.string [79, 78, 67, 69])]
def laid_sluice_lex_spellings {H : Type} : DataW H := .agg [.lit (.string []), .lit (.string []), .lit (.string []), .lit (.string [40]), .lit (.string [41]), .lit (.string [123]), .lit (.string [125]), .lit (.string [44]), .lit (.string [46]), .lit (.string [33]), .lit (.string [124]), .lit (.string [43]), .lit (.string [45]), .lit (.string [42]), .lit (.string [47]), .lit (.string [37]), .lit (.string [61]), .lit (.string [33, 61]), .lit (.string [60]), .lit (.string [60, 61]), .lit (.string [62]), .lit (.string [62, 61])]
def laid_sluice_sluiceref5_signs {H : Type} : DataW H := .agg [.lit (.string [43]), .lit (.string [45]), .lit (.string [42]), .lit (.string [47]), .lit (.string [37]), .lit (.string [61]), .lit (.string [33, 61]), .lit (.string [60]), .lit (.string [60, 61]), .lit (.string [62]), .lit (.string [62, 61]), .lit (.string [65, 78, 68]), .lit (.string [79, 82])]
def laid_sluice_sluiceref5_calls {H : Type} : DataW H := .agg [.lit (.string [67, 79, 85, 78, 84]), .lit (.string [83, 85, 77]), .lit (.string [77, 73, 78]), .lit (.string [77, 65, 88]), .lit (.string [70, 73, 82, 83, 84]), .lit (.string [76, 65, 83, 84]), .lit (.string [80, 82, 69, 86])]
def laid_sluice_show_levels {H : Type} : DataW H := .agg [.lit (.int .i64 7), .lit (.int .i64 3), .lit (.int .i64 5), .lit (.int .i64 5), .lit (.int .i64 6), .lit (.int .i64 6), .lit (.int .i64 6), .lit (.int .i64 4), .lit (.int .i64 4), .lit (.int .i64 4), .lit (.int .i64 4), .lit (.int .i64 4), .lit (.int .i64 4), .lit (.int .i64 2), .lit (.int .i64 1)]
def laid_sluice_show_signs {H : Type} : DataW H := .agg [.lit (.int .i64 12), .lit (.int .i64 43), .lit (.int .i64 11), .lit (.int .i64 12), .lit (.int .i64 13), .lit (.int .i64 14), .lit (.int .i64 15), .lit (.int .i64 16), .lit (.int .i64 17), .lit (.int .i64 18), .lit (.int .i64 19), .lit (.int .i64 20), .lit (.int .i64 21), .lit (.int .i64 41), .lit (.int .i64 42)]
def laid_sluice_explain_modes {H : Type} : DataW H := .agg [.lit (.string [65, 78, 89]), .lit (.string [78, 69, 88, 84]), .lit (.string [83, 84, 82, 73, 67, 84])]
def laid_sluice_explain_afters {H : Type} : DataW H := .agg [.lit (.string [65, 76, 76]), .lit (.string [78, 69, 88, 84]), .lit (.string [80, 65, 83, 84]), .lit (.string [79, 78, 67, 69])]

/-- 'sluicelaw31.ExplainTexts': WHATEVER THE INPUT: true; the input reads as it did. -/
def explainTextsSpec : ChangeSpec := { name := "explainTexts", fn := fun _ => fun
  | [d1, d2] => { results := [.lit (.bool true)], args := [d1, d2] }
  | _ => none }
def explainTextsRow : OpenClaim := { program := "ythaabihjeomipaagreatdoor", sum := "5fe017f94ff730d123519ebb28759265045a895ce700d6cc6130c521a4034f4c", func := "sluice/sluicelaw31.ExplainTexts", spec := "explainTexts", inPlace := ["internal/abi.NoEscape", "internal/bytealg.MakeNoZero"], unfollowed := true, recurses := true, named := ["sluice/api.Keywords", "internal/strconv.uint64pow10", "math/bits.deBruijn32tab", "math/bits.deBruijn64tab", "sluice/sluiceref5.calls", "sluice/sluiceref5.signs", "sluice/explain.modes", "sluice/explain.afters", "sluice/show.signs", "sluice/show.levels", "sluice/lex.spellings"], apart := false, laid := [("math/bits.deBruijn32tab", laid_math_bits_deBruijn32tab), ("math/bits.deBruijn64tab", laid_math_bits_deBruijn64tab), ("internal/strconv.uint64pow10", laid_internal_strconv_uint64pow10), ("sluice/api.Keywords", laid_sluice_api_Keywords), ("sluice/lex.spellings", laid_sluice_lex_spellings), ("sluice/sluiceref5.signs", laid_sluice_sluiceref5_signs), ("sluice/sluiceref5.calls", laid_sluice_sluiceref5_calls), ("sluice/show.levels", laid_sluice_show_levels), ("sluice/show.signs", laid_sluice_show_signs), ("sluice/explain.modes", laid_sluice_explain_modes), ("sluice/explain.afters", laid_sluice_explain_afters)] }
def ExplainTextsSaid : Prop := explainTextsRow.holds Tryz.pinned (OpenSpec.ofChange explainTextsSpec)

/-- ITS FALSE NEIGHBOUR: 'it returns false'. Refute it at one input. -/
def explainTextsWrong : ChangeSpec := { name := "explainTexts", fn := fun _ => fun
  | [d1, d2] => { results := [.lit (.bool false)], args := [d1, d2] }
  | _ => none }
def ExplainTextsWrongFalsely : Prop := explainTextsRow.holds Tryz.pinned (OpenSpec.ofChange explainTextsWrong)

/-- 'sluicelaw31.ExplainSames': WHATEVER THE INPUT: true; the input reads as it did. -/
def explainSamesSpec : ChangeSpec := { name := "explainSames", fn := fun _ => fun
  | [d1, d2, d3] => { results := [.lit (.bool true)], args := [d1, d2, d3] }
  | _ => none }
def explainSamesRow : OpenClaim := { program := "ythaabihjeomipaagreatdoor", sum := "5fe017f94ff730d123519ebb28759265045a895ce700d6cc6130c521a4034f4c", func := "sluice/sluicelaw31.ExplainSames", spec := "explainSames", inPlace := ["internal/abi.NoEscape", "internal/bytealg.MakeNoZero"], unfollowed := true, recurses := true, named := ["sluice/api.Keywords", "internal/strconv.uint64pow10", "math/bits.deBruijn32tab", "math/bits.deBruijn64tab", "sluice/sluiceref5.calls", "sluice/sluiceref5.signs", "sluice/explain.modes", "sluice/explain.afters", "sluice/show.signs", "sluice/show.levels", "sluice/lex.spellings"], apart := false, laid := [("math/bits.deBruijn32tab", laid_math_bits_deBruijn32tab), ("math/bits.deBruijn64tab", laid_math_bits_deBruijn64tab), ("internal/strconv.uint64pow10", laid_internal_strconv_uint64pow10), ("sluice/api.Keywords", laid_sluice_api_Keywords), ("sluice/lex.spellings", laid_sluice_lex_spellings), ("sluice/sluiceref5.signs", laid_sluice_sluiceref5_signs), ("sluice/sluiceref5.calls", laid_sluice_sluiceref5_calls), ("sluice/show.levels", laid_sluice_show_levels), ("sluice/show.signs", laid_sluice_show_signs), ("sluice/explain.modes", laid_sluice_explain_modes), ("sluice/explain.afters", laid_sluice_explain_afters)] }
def ExplainSamesSaid : Prop := explainSamesRow.holds Tryz.pinned (OpenSpec.ofChange explainSamesSpec)

/-- ITS FALSE NEIGHBOUR: 'it returns false'. Refute it at one input. -/
def explainSamesWrong : ChangeSpec := { name := "explainSames", fn := fun _ => fun
  | [d1, d2, d3] => { results := [.lit (.bool false)], args := [d1, d2, d3] }
  | _ => none }
def ExplainSamesWrongFalsely : Prop := explainSamesRow.holds Tryz.pinned (OpenSpec.ofChange explainSamesWrong)

/-- 'sluicelaw31.ExplainLines': WHATEVER THE INPUT: true; the input reads as it did. -/
def explainLinesSpec : ChangeSpec := { name := "explainLines", fn := fun _ => fun
  | [d1, d2] => { results := [.lit (.bool true)], args := [d1, d2] }
  | _ => none }
def explainLinesRow : OpenClaim := { program := "ythaabihjeomipaagreatdoor", sum := "5fe017f94ff730d123519ebb28759265045a895ce700d6cc6130c521a4034f4c", func := "sluice/sluicelaw31.ExplainLines", spec := "explainLines", inPlace := ["internal/abi.NoEscape", "internal/bytealg.MakeNoZero"], unfollowed := true, recurses := true, named := ["sluice/api.Keywords", "internal/strconv.uint64pow10", "math/bits.deBruijn32tab", "math/bits.deBruijn64tab", "sluice/sluiceref5.calls", "sluice/sluiceref5.signs", "sluice/explain.modes", "sluice/explain.afters", "sluice/show.signs", "sluice/show.levels", "sluice/lex.spellings"], apart := false, laid := [("math/bits.deBruijn32tab", laid_math_bits_deBruijn32tab), ("math/bits.deBruijn64tab", laid_math_bits_deBruijn64tab), ("internal/strconv.uint64pow10", laid_internal_strconv_uint64pow10), ("sluice/api.Keywords", laid_sluice_api_Keywords), ("sluice/lex.spellings", laid_sluice_lex_spellings), ("sluice/sluiceref5.signs", laid_sluice_sluiceref5_signs), ("sluice/sluiceref5.calls", laid_sluice_sluiceref5_calls), ("sluice/show.levels", laid_sluice_show_levels), ("sluice/show.signs", laid_sluice_show_signs), ("sluice/explain.modes", laid_sluice_explain_modes), ("sluice/explain.afters", laid_sluice_explain_afters)] }
def ExplainLinesSaid : Prop := explainLinesRow.holds Tryz.pinned (OpenSpec.ofChange explainLinesSpec)

/-- ITS FALSE NEIGHBOUR: 'it returns false'. Refute it at one input. -/
def explainLinesWrong : ChangeSpec := { name := "explainLines", fn := fun _ => fun
  | [d1, d2] => { results := [.lit (.bool false)], args := [d1, d2] }
  | _ => none }
def ExplainLinesWrongFalsely : Prop := explainLinesRow.holds Tryz.pinned (OpenSpec.ofChange explainLinesWrong)

/-- 'sluicelaw31.ExplainNormal': WHATEVER THE INPUT: true; the input reads as it did. -/
def explainNormalSpec : ChangeSpec := { name := "explainNormal", fn := fun _ => fun
  | [d1, d2] => { results := [.lit (.bool true)], args := [d1, d2] }
  | _ => none }
def explainNormalRow : OpenClaim := { program := "ythaabihjeomipaagreatdoor", sum := "5fe017f94ff730d123519ebb28759265045a895ce700d6cc6130c521a4034f4c", func := "sluice/sluicelaw31.ExplainNormal", spec := "explainNormal", inPlace := ["internal/abi.NoEscape", "internal/bytealg.MakeNoZero"], unfollowed := true, recurses := true, named := ["internal/strconv.uint64pow10", "math/bits.deBruijn32tab", "math/bits.deBruijn64tab", "sluice/api.Keywords", "sluice/sluiceref5.calls", "sluice/sluiceref5.signs", "sluice/explain.modes", "sluice/explain.afters", "sluice/show.signs", "sluice/show.levels", "sluice/lex.spellings"], apart := false, laid := [("math/bits.deBruijn32tab", laid_math_bits_deBruijn32tab), ("math/bits.deBruijn64tab", laid_math_bits_deBruijn64tab), ("internal/strconv.uint64pow10", laid_internal_strconv_uint64pow10), ("sluice/api.Keywords", laid_sluice_api_Keywords), ("sluice/lex.spellings", laid_sluice_lex_spellings), ("sluice/sluiceref5.signs", laid_sluice_sluiceref5_signs), ("sluice/sluiceref5.calls", laid_sluice_sluiceref5_calls), ("sluice/show.levels", laid_sluice_show_levels), ("sluice/show.signs", laid_sluice_show_signs), ("sluice/explain.modes", laid_sluice_explain_modes), ("sluice/explain.afters", laid_sluice_explain_afters)] }
def ExplainNormalSaid : Prop := explainNormalRow.holds Tryz.pinned (OpenSpec.ofChange explainNormalSpec)

/-- ITS FALSE NEIGHBOUR: 'it returns false'. Refute it at one input. -/
def explainNormalWrong : ChangeSpec := { name := "explainNormal", fn := fun _ => fun
  | [d1, d2] => { results := [.lit (.bool false)], args := [d1, d2] }
  | _ => none }
def ExplainNormalWrongFalsely : Prop := explainNormalRow.holds Tryz.pinned (OpenSpec.ofChange explainNormalWrong)

/- THE SECOND FORM. 'bulk': how many values and letters a reading holds, each counted each time it is reached (what is shared counts as often as it is met; a slice's spare places count too). A statement '..UptoSaid' is the law's where the arguments, and the package variables that the reading takes, are together of bulk at most 1048576: NARROWER than '..Said'. Prove '..Said' where nothing that the law and all that it calls make is longer than what came in: it says more and counts as full. Else prove '..UptoSaid'. A law counts once. -/
mutual
def uptoBulk {H : Type} : DataW H → Nat
  | .lit (.string bytes) => bytes.length + 1
  | .lit _ => 1
  | .nil => 1
  | .ptr d => uptoBulk d + 1
  | .slice elems spare => uptoBulkAll elems + uptoBulkAll spare + 1
  | .agg parts => uptoBulkAll parts + 1
  | .iface _ d => uptoBulk d + 1
  | .map entries => uptoBulkEntries entries + 1
  | .held _ => 1
def uptoBulkAll {H : Type} : List (DataW H) → Nat
  | [] => 0
  | d :: r => uptoBulk d + uptoBulkAll r
def uptoBulkEntries {H : Type} : List (Lit × DataW H) → Nat
  | [] => 0
  | x :: r => uptoBulkEntry x + uptoBulkEntries r
def uptoBulkEntry {H : Type} : Lit × DataW H → Nat
  | (.string bytes, d) => bytes.length + uptoBulk d + 1
  | (_, d) => uptoBulk d + 1
 end
def uptoSmall : (H : Type) → List (DataW H) → Bool := fun _ ds => decide (uptoBulkAll ds ≤ 1048576)
def OpenSpec.upto (s : _root_.Go.ChangeSpec) : _root_.Go.OpenSpec := { _root_.Go.OpenSpec.ofChange s with cond := some uptoSmall }

/-- 'sluicelaw31.ExplainTexts', WHERE WHAT IT READS IS OF BULK AT MOST 1048576: true; the input reads as it did. -/
def explainTextsUptoRow : OpenClaim := { program := "ythaabihjeomipaagreatdoor", sum := "5fe017f94ff730d123519ebb28759265045a895ce700d6cc6130c521a4034f4c", func := "sluice/sluicelaw31.ExplainTexts", spec := "explainTexts", inPlace := ["internal/abi.NoEscape", "internal/bytealg.MakeNoZero"], unfollowed := true, recurses := true, named := ["sluice/api.Keywords", "internal/strconv.uint64pow10", "math/bits.deBruijn32tab", "math/bits.deBruijn64tab", "sluice/sluiceref5.calls", "sluice/sluiceref5.signs", "sluice/explain.modes", "sluice/explain.afters", "sluice/show.signs", "sluice/show.levels", "sluice/lex.spellings"], apart := false, laid := [("math/bits.deBruijn32tab", laid_math_bits_deBruijn32tab), ("math/bits.deBruijn64tab", laid_math_bits_deBruijn64tab), ("internal/strconv.uint64pow10", laid_internal_strconv_uint64pow10), ("sluice/api.Keywords", laid_sluice_api_Keywords), ("sluice/lex.spellings", laid_sluice_lex_spellings), ("sluice/sluiceref5.signs", laid_sluice_sluiceref5_signs), ("sluice/sluiceref5.calls", laid_sluice_sluiceref5_calls), ("sluice/show.levels", laid_sluice_show_levels), ("sluice/show.signs", laid_sluice_show_signs), ("sluice/explain.modes", laid_sluice_explain_modes), ("sluice/explain.afters", laid_sluice_explain_afters)], narrowed := true }
def ExplainTextsUptoSaid : Prop := explainTextsUptoRow.holds Tryz.pinned (OpenSpec.upto explainTextsSpec)

/-- 'sluicelaw31.ExplainSames', WHERE WHAT IT READS IS OF BULK AT MOST 1048576: true; the input reads as it did. -/
def explainSamesUptoRow : OpenClaim := { program := "ythaabihjeomipaagreatdoor", sum := "5fe017f94ff730d123519ebb28759265045a895ce700d6cc6130c521a4034f4c", func := "sluice/sluicelaw31.ExplainSames", spec := "explainSames", inPlace := ["internal/abi.NoEscape", "internal/bytealg.MakeNoZero"], unfollowed := true, recurses := true, named := ["sluice/api.Keywords", "internal/strconv.uint64pow10", "math/bits.deBruijn32tab", "math/bits.deBruijn64tab", "sluice/sluiceref5.calls", "sluice/sluiceref5.signs", "sluice/explain.modes", "sluice/explain.afters", "sluice/show.signs", "sluice/show.levels", "sluice/lex.spellings"], apart := false, laid := [("math/bits.deBruijn32tab", laid_math_bits_deBruijn32tab), ("math/bits.deBruijn64tab", laid_math_bits_deBruijn64tab), ("internal/strconv.uint64pow10", laid_internal_strconv_uint64pow10), ("sluice/api.Keywords", laid_sluice_api_Keywords), ("sluice/lex.spellings", laid_sluice_lex_spellings), ("sluice/sluiceref5.signs", laid_sluice_sluiceref5_signs), ("sluice/sluiceref5.calls", laid_sluice_sluiceref5_calls), ("sluice/show.levels", laid_sluice_show_levels), ("sluice/show.signs", laid_sluice_show_signs), ("sluice/explain.modes", laid_sluice_explain_modes), ("sluice/explain.afters", laid_sluice_explain_afters)], narrowed := true }
def ExplainSamesUptoSaid : Prop := explainSamesUptoRow.holds Tryz.pinned (OpenSpec.upto explainSamesSpec)

/-- 'sluicelaw31.ExplainLines', WHERE WHAT IT READS IS OF BULK AT MOST 1048576: true; the input reads as it did. -/
def explainLinesUptoRow : OpenClaim := { program := "ythaabihjeomipaagreatdoor", sum := "5fe017f94ff730d123519ebb28759265045a895ce700d6cc6130c521a4034f4c", func := "sluice/sluicelaw31.ExplainLines", spec := "explainLines", inPlace := ["internal/abi.NoEscape", "internal/bytealg.MakeNoZero"], unfollowed := true, recurses := true, named := ["sluice/api.Keywords", "internal/strconv.uint64pow10", "math/bits.deBruijn32tab", "math/bits.deBruijn64tab", "sluice/sluiceref5.calls", "sluice/sluiceref5.signs", "sluice/explain.modes", "sluice/explain.afters", "sluice/show.signs", "sluice/show.levels", "sluice/lex.spellings"], apart := false, laid := [("math/bits.deBruijn32tab", laid_math_bits_deBruijn32tab), ("math/bits.deBruijn64tab", laid_math_bits_deBruijn64tab), ("internal/strconv.uint64pow10", laid_internal_strconv_uint64pow10), ("sluice/api.Keywords", laid_sluice_api_Keywords), ("sluice/lex.spellings", laid_sluice_lex_spellings), ("sluice/sluiceref5.signs", laid_sluice_sluiceref5_signs), ("sluice/sluiceref5.calls", laid_sluice_sluiceref5_calls), ("sluice/show.levels", laid_sluice_show_levels), ("sluice/show.signs", laid_sluice_show_signs), ("sluice/explain.modes", laid_sluice_explain_modes), ("sluice/explain.afters", laid_sluice_explain_afters)], narrowed := true }
def ExplainLinesUptoSaid : Prop := explainLinesUptoRow.holds Tryz.pinned (OpenSpec.upto explainLinesSpec)

/-- 'sluicelaw31.ExplainNormal', WHERE WHAT IT READS IS OF BULK AT MOST 1048576: true; the input reads as it did. -/
def explainNormalUptoRow : OpenClaim := { program := "ythaabihjeomipaagreatdoor", sum := "5fe017f94ff730d123519ebb28759265045a895ce700d6cc6130c521a4034f4c", func := "sluice/sluicelaw31.ExplainNormal", spec := "explainNormal", inPlace := ["internal/abi.NoEscape", "internal/bytealg.MakeNoZero"], unfollowed := true, recurses := true, named := ["internal/strconv.uint64pow10", "math/bits.deBruijn32tab", "math/bits.deBruijn64tab", "sluice/api.Keywords", "sluice/sluiceref5.calls", "sluice/sluiceref5.signs", "sluice/explain.modes", "sluice/explain.afters", "sluice/show.signs", "sluice/show.levels", "sluice/lex.spellings"], apart := false, laid := [("math/bits.deBruijn32tab", laid_math_bits_deBruijn32tab), ("math/bits.deBruijn64tab", laid_math_bits_deBruijn64tab), ("internal/strconv.uint64pow10", laid_internal_strconv_uint64pow10), ("sluice/api.Keywords", laid_sluice_api_Keywords), ("sluice/lex.spellings", laid_sluice_lex_spellings), ("sluice/sluiceref5.signs", laid_sluice_sluiceref5_signs), ("sluice/sluiceref5.calls", laid_sluice_sluiceref5_calls), ("sluice/show.levels", laid_sluice_show_levels), ("sluice/show.signs", laid_sluice_show_signs), ("sluice/explain.modes", laid_sluice_explain_modes), ("sluice/explain.afters", laid_sluice_explain_afters)], narrowed := true }
def ExplainNormalUptoSaid : Prop := explainNormalUptoRow.holds Tryz.pinned (OpenSpec.upto explainNormalSpec)

end Rows
end Go.Proofs.YthaabihjeomipaaGreatDoor
