/-
  DERIVED. GIVEN WITH THE SEED: THE PROGRAM's TIES (one call each: nine closed facts by the kernel) AND EACH ROW's TIE, after the 31st guide's Derived/Test/Toyas{Tie, Card}.lean. No idea stands in it: it is a product of the set-up. Laid BY PROGRAM, IN A SANDBOX (cutbox-door.mjs). By AI agents, Wed Nov 11 2026. No macro, syntax, notation, axiom, sorry.
-/
import Derived.Test.YtkhfnbfpgcjllaaGreatDoorRows
import Derived.LaidByTextLater
import Derived.SevenTiedAt
import Derived.LaidSub
import Derived.LaidOnce
namespace Go.Proofs.YtkhfnbfpgcjllaaGreatDoor
open Go
set_option maxRecDepth 100000
theorem seatTie1 : Tryz.prog.laidByTextLater [("testamur/syntax.anyNumber", Rows.laid_testamur_syntax_anyNumber), ("testamur/syntax.factors", Rows.laid_testamur_syntax_factors), ("testamur/syntax.editions", Rows.laid_testamur_syntax_editions), ("testamur/syntax.weights", Rows.laid_testamur_syntax_weights), ("testamur/syntax.mosts", Rows.laid_testamur_syntax_mosts)] [.wider, .wider, .wider, .wider, .wider] true :=
  Program.laidByTextLater_by_one 34 8 3 (by kernel_rfl) (by kernel_rfl) (by kernel_rfl) (by kernel_rfl) (by kernel_rfl) (by kernel_rfl) (fun _ _ => by kernel_rfl)
theorem noOwnUnsafe : Tryz.pinned.checked.prog.headLifts.contains "ownunsafe" = false := by kernel_rfl
theorem tie : Tryz.prog.laidByTextLater [("testamur/syntax.anyNumber", Rows.laid_testamur_syntax_anyNumber), ("testamur/syntax.factors", Rows.laid_testamur_syntax_factors), ("testamur/syntax.editions", Rows.laid_testamur_syntax_editions), ("testamur/syntax.weights", Rows.laid_testamur_syntax_weights), ("testamur/syntax.mosts", Rows.laid_testamur_syntax_mosts)] [.wider, .wider, .wider, .wider, .wider] true :=
  Program.laidByTextLater.sub seatTie1 ["testamur/syntax.anyNumber", "testamur/syntax.factors", "testamur/syntax.editions", "testamur/syntax.weights", "testamur/syntax.mosts"] (by kernel_rfl) (by kernel_rfl)
theorem deriveSound_row_tie : Rows.deriveSoundRow.laidByTextAt .later Tryz.pinned [.wider, .wider, .wider, .wider, .wider] true :=
  OpenClaim.laidByTextAt_later rfl rfl tie noOwnUnsafe
theorem deriveComplete_row_tie : Rows.deriveCompleteRow.laidByTextAt .later Tryz.pinned [.wider, .wider, .wider, .wider, .wider] true :=
  OpenClaim.laidByTextAt_later rfl rfl tie noOwnUnsafe
theorem derivePast_row_tie : Rows.derivePastRow.laidByTextAt .later Tryz.pinned [.wider, .wider, .wider, .wider, .wider] true :=
  OpenClaim.laidByTextAt_later rfl rfl tie noOwnUnsafe
theorem deriveReads_row_tie : Rows.deriveReadsRow.laidByTextAt .later Tryz.pinned [.wider, .wider, .wider, .wider, .wider] true :=
  OpenClaim.laidByTextAt_later rfl rfl tie noOwnUnsafe
theorem deriveSoundUpto_row_tie : Rows.deriveSoundUptoRow.laidByTextAt .later Tryz.pinned [.wider, .wider, .wider, .wider, .wider] true :=
  OpenClaim.laidByTextAt_later rfl rfl tie noOwnUnsafe
theorem deriveCompleteUpto_row_tie : Rows.deriveCompleteUptoRow.laidByTextAt .later Tryz.pinned [.wider, .wider, .wider, .wider, .wider] true :=
  OpenClaim.laidByTextAt_later rfl rfl tie noOwnUnsafe
theorem derivePastUpto_row_tie : Rows.derivePastUptoRow.laidByTextAt .later Tryz.pinned [.wider, .wider, .wider, .wider, .wider] true :=
  OpenClaim.laidByTextAt_later rfl rfl tie noOwnUnsafe
theorem deriveReadsUpto_row_tie : Rows.deriveReadsUptoRow.laidByTextAt .later Tryz.pinned [.wider, .wider, .wider, .wider, .wider] true :=
  OpenClaim.laidByTextAt_later rfl rfl tie noOwnUnsafe
end Go.Proofs.YtkhfnbfpgcjllaaGreatDoor
