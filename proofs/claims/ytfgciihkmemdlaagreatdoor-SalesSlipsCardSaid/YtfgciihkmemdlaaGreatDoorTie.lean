/-
  DERIVED. GIVEN WITH THE SEED: THE PROGRAM's TIES (one call each: nine closed facts by the kernel) AND EACH ROW's TIE, after the 31st guide's Derived/Test/Toyas{Tie, Card}.lean. No idea stands in it: it is a product of the set-up. Laid BY PROGRAM, IN A SANDBOX (cutbox-door.mjs). By AI agents, Wed Nov 11 2026. No macro, syntax, notation, axiom, sorry.
-/
import Derived.Test.YtfgciihkmemdlaaGreatDoorRows
import Derived.LaidByTextLater
import Derived.SevenTiedAt
import Derived.LaidSub
import Derived.LaidOnce
namespace Go.Proofs.YtfgciihkmemdlaaGreatDoor
open Go
set_option maxRecDepth 100000
theorem seatTie1 : Tryz.prog.laidByTextLater [("nosale/sales.slipKinds", Rows.laid_nosale_sales_slipKinds), ("nosale/sales.sumKinds", Rows.laid_nosale_sales_sumKinds)] [.funcs, .funcs] true :=
  Program.laidByTextLater_by_one 30 8 2 (by kernel_rfl) (by kernel_rfl) (by kernel_rfl) (by kernel_rfl) (by kernel_rfl) (by kernel_rfl) (fun _ _ => by kernel_rfl)
theorem noOwnUnsafe : Tryz.pinned.checked.prog.headLifts.contains "ownunsafe" = false := by kernel_rfl
theorem tie : Tryz.prog.laidByTextLater [("nosale/sales.slipKinds", Rows.laid_nosale_sales_slipKinds), ("nosale/sales.sumKinds", Rows.laid_nosale_sales_sumKinds)] [.funcs, .funcs] true :=
  Program.laidByTextLater.sub seatTie1 ["nosale/sales.slipKinds", "nosale/sales.sumKinds"] (by kernel_rfl) (by kernel_rfl)
theorem salesCleaned_row_tie : Rows.salesCleanedRow.laidByTextAt .later Tryz.pinned [.funcs, .funcs] true :=
  OpenClaim.laidByTextAt_later rfl rfl tie noOwnUnsafe
theorem salesCorrected_row_tie : Rows.salesCorrectedRow.laidByTextAt .later Tryz.pinned [.funcs, .funcs] true :=
  OpenClaim.laidByTextAt_later rfl rfl tie noOwnUnsafe
theorem salesSlips_row_tie : Rows.salesSlipsRow.laidByTextAt .later Tryz.pinned [.funcs, .funcs] true :=
  OpenClaim.laidByTextAt_later rfl rfl tie noOwnUnsafe
theorem salesNews_row_tie : Rows.salesNewsRow.laidByTextAt .later Tryz.pinned [.funcs, .funcs] true :=
  OpenClaim.laidByTextAt_later rfl rfl tie noOwnUnsafe
end Go.Proofs.YtfgciihkmemdlaaGreatDoor
