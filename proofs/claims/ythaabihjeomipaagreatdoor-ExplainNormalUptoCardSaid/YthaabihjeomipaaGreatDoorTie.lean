/-
  DERIVED. GIVEN WITH THE SEED: THE PROGRAM's TIES (one call each: nine closed facts by the kernel) AND EACH ROW's TIE, after the 31st guide's Derived/Test/Toyas{Tie, Card}.lean. No idea stands in it: it is a product of the set-up. Laid BY PROGRAM, IN A SANDBOX (cutbox-door.mjs). By AI agents, Wed Nov 11 2026. No macro, syntax, notation, axiom, sorry.
-/
import Derived.Test.YthaabihjeomipaaGreatDoorRows
import Derived.LaidByTextLater
import Derived.SevenTiedAt
import Derived.LaidSub
import Derived.LaidOnce
namespace Go.Proofs.YthaabihjeomipaaGreatDoor
open Go
set_option maxRecDepth 100000
theorem seatTie1 : Tryz.prog.laidByTextLater [("math/bits.deBruijn32tab", Rows.laid_math_bits_deBruijn32tab), ("math/bits.deBruijn64tab", Rows.laid_math_bits_deBruijn64tab), ("internal/strconv.uint64pow10", Rows.laid_internal_strconv_uint64pow10), ("sluice/api.Keywords", Rows.laid_sluice_api_Keywords), ("sluice/lex.spellings", Rows.laid_sluice_lex_spellings), ("sluice/sluiceref5.signs", Rows.laid_sluice_sluiceref5_signs), ("sluice/sluiceref5.calls", Rows.laid_sluice_sluiceref5_calls), ("sluice/show.levels", Rows.laid_sluice_show_levels), ("sluice/show.signs", Rows.laid_sluice_show_signs), ("sluice/explain.modes", Rows.laid_sluice_explain_modes), ("sluice/explain.afters", Rows.laid_sluice_explain_afters)] [.data, .data, .data, .data, .data, .data, .data, .data, .data, .data, .data] true :=
  Program.laidByTextLater_by_one 64 8 65 (by kernel_rfl) (by kernel_rfl) (by kernel_rfl) (by kernel_rfl) (by kernel_rfl) (by kernel_rfl) (fun _ _ => by kernel_rfl)
theorem noOwnUnsafe : Tryz.pinned.checked.prog.headLifts.contains "ownunsafe" = false := by kernel_rfl
theorem tie : Tryz.prog.laidByTextLater [("math/bits.deBruijn32tab", Rows.laid_math_bits_deBruijn32tab), ("math/bits.deBruijn64tab", Rows.laid_math_bits_deBruijn64tab), ("internal/strconv.uint64pow10", Rows.laid_internal_strconv_uint64pow10), ("sluice/api.Keywords", Rows.laid_sluice_api_Keywords), ("sluice/lex.spellings", Rows.laid_sluice_lex_spellings), ("sluice/sluiceref5.signs", Rows.laid_sluice_sluiceref5_signs), ("sluice/sluiceref5.calls", Rows.laid_sluice_sluiceref5_calls), ("sluice/show.levels", Rows.laid_sluice_show_levels), ("sluice/show.signs", Rows.laid_sluice_show_signs), ("sluice/explain.modes", Rows.laid_sluice_explain_modes), ("sluice/explain.afters", Rows.laid_sluice_explain_afters)] [.data, .data, .data, .data, .data, .data, .data, .data, .data, .data, .data] true :=
  Program.laidByTextLater.sub seatTie1 ["math/bits.deBruijn32tab", "math/bits.deBruijn64tab", "internal/strconv.uint64pow10", "sluice/api.Keywords", "sluice/lex.spellings", "sluice/sluiceref5.signs", "sluice/sluiceref5.calls", "sluice/show.levels", "sluice/show.signs", "sluice/explain.modes", "sluice/explain.afters"] (by kernel_rfl) (by kernel_rfl)
theorem explainTexts_row_tie : Rows.explainTextsRow.laidByTextAt .later Tryz.pinned [.data, .data, .data, .data, .data, .data, .data, .data, .data, .data, .data] true :=
  OpenClaim.laidByTextAt_later rfl rfl tie noOwnUnsafe
theorem explainSames_row_tie : Rows.explainSamesRow.laidByTextAt .later Tryz.pinned [.data, .data, .data, .data, .data, .data, .data, .data, .data, .data, .data] true :=
  OpenClaim.laidByTextAt_later rfl rfl tie noOwnUnsafe
theorem explainLines_row_tie : Rows.explainLinesRow.laidByTextAt .later Tryz.pinned [.data, .data, .data, .data, .data, .data, .data, .data, .data, .data, .data] true :=
  OpenClaim.laidByTextAt_later rfl rfl tie noOwnUnsafe
theorem explainNormal_row_tie : Rows.explainNormalRow.laidByTextAt .later Tryz.pinned [.data, .data, .data, .data, .data, .data, .data, .data, .data, .data, .data] true :=
  OpenClaim.laidByTextAt_later rfl rfl tie noOwnUnsafe
theorem explainTextsUpto_row_tie : Rows.explainTextsUptoRow.laidByTextAt .later Tryz.pinned [.data, .data, .data, .data, .data, .data, .data, .data, .data, .data, .data] true :=
  OpenClaim.laidByTextAt_later rfl rfl tie noOwnUnsafe
theorem explainSamesUpto_row_tie : Rows.explainSamesUptoRow.laidByTextAt .later Tryz.pinned [.data, .data, .data, .data, .data, .data, .data, .data, .data, .data, .data] true :=
  OpenClaim.laidByTextAt_later rfl rfl tie noOwnUnsafe
theorem explainLinesUpto_row_tie : Rows.explainLinesUptoRow.laidByTextAt .later Tryz.pinned [.data, .data, .data, .data, .data, .data, .data, .data, .data, .data, .data] true :=
  OpenClaim.laidByTextAt_later rfl rfl tie noOwnUnsafe
theorem explainNormalUpto_row_tie : Rows.explainNormalUptoRow.laidByTextAt .later Tryz.pinned [.data, .data, .data, .data, .data, .data, .data, .data, .data, .data, .data] true :=
  OpenClaim.laidByTextAt_later rfl rfl tie noOwnUnsafe
end Go.Proofs.YthaabihjeomipaaGreatDoor
