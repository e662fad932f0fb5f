/-
  DERIVED. GIVEN WITH THE SEED: THE PROGRAM's TIES (one call each: nine closed facts by the kernel) AND EACH ROW's TIE, after the 31st guide's Derived/Test/Toyas{Tie, Card}.lean. No idea stands in it: it is a product of the set-up. Laid BY PROGRAM, IN A SANDBOX (cutbox-door.mjs). By AI agents, Wed Nov 11 2026. No macro, syntax, notation, axiom, sorry.
-/
import Derived.Test.YtbobhnldhpjdlaaGreatDoorRows
import Derived.LaidByTextLater
import Derived.SevenTiedAt
import Derived.LaidSub
import Derived.LaidOnce
namespace Go.Proofs.YtbobhnldhpjdlaaGreatDoor
open Go
set_option maxRecDepth 100000
theorem seatTie1 : Tryz.prog.laidByTextLater [("caisson/digests.initial", Rows.laid_caisson_digests_initial), ("caisson/digests.constants", Rows.laid_caisson_digests_constants), ("errors.errorType", Rows.laid_errors_errorType), ("caisson/nodes.sizes", Rows.laid_caisson_nodes_sizes), ("caisson/stores.errPoison", Rows.laid_caisson_stores_errPoison)] [.data, .data, .handle, .data, .sentinel] true :=
  Program.laidByTextLater_by_one 50 8 65 (by kernel_rfl) (by kernel_rfl) (by kernel_rfl) (by kernel_rfl) (by kernel_rfl) (by kernel_rfl) (fun _ _ => by kernel_rfl)
theorem noOwnUnsafe : Tryz.pinned.checked.prog.headLifts.contains "ownunsafe" = false := by kernel_rfl
theorem tie : Tryz.prog.laidByTextLater [("caisson/digests.initial", Rows.laid_caisson_digests_initial), ("caisson/digests.constants", Rows.laid_caisson_digests_constants), ("errors.errorType", Rows.laid_errors_errorType), ("caisson/nodes.sizes", Rows.laid_caisson_nodes_sizes), ("caisson/stores.errPoison", Rows.laid_caisson_stores_errPoison)] [.data, .data, .handle, .data, .sentinel] true :=
  Program.laidByTextLater.sub seatTie1 ["caisson/digests.initial", "caisson/digests.constants", "errors.errorType", "caisson/nodes.sizes", "caisson/stores.errPoison"] (by kernel_rfl) (by kernel_rfl)
theorem topMoved_row_tie : Rows.topMovedRow.laidByTextAt .later Tryz.pinned [.data, .data, .handle, .data, .sentinel] true :=
  OpenClaim.laidByTextAt_later rfl rfl tie noOwnUnsafe
theorem topDisk_row_tie : Rows.topDiskRow.laidByTextAt .later Tryz.pinned [.data, .data, .handle, .data, .sentinel] true :=
  OpenClaim.laidByTextAt_later rfl rfl tie noOwnUnsafe
theorem topOld_row_tie : Rows.topOldRow.laidByTextAt .later Tryz.pinned [.data, .data, .handle, .data, .sentinel] true :=
  OpenClaim.laidByTextAt_later rfl rfl tie noOwnUnsafe
theorem topRecovered_row_tie : Rows.topRecoveredRow.laidByTextAt .later Tryz.pinned [.data, .data, .handle, .data, .sentinel] true :=
  OpenClaim.laidByTextAt_later rfl rfl tie noOwnUnsafe
theorem topLog_row_tie : Rows.topLogRow.laidByTextAt .later Tryz.pinned [.data, .data, .handle, .data, .sentinel] true :=
  OpenClaim.laidByTextAt_later rfl rfl tie noOwnUnsafe
theorem topMovedUpto_row_tie : Rows.topMovedUptoRow.laidByTextAt .later Tryz.pinned [.data, .data, .handle, .data, .sentinel] true :=
  OpenClaim.laidByTextAt_later rfl rfl tie noOwnUnsafe
theorem topDiskUpto_row_tie : Rows.topDiskUptoRow.laidByTextAt .later Tryz.pinned [.data, .data, .handle, .data, .sentinel] true :=
  OpenClaim.laidByTextAt_later rfl rfl tie noOwnUnsafe
theorem topOldUpto_row_tie : Rows.topOldUptoRow.laidByTextAt .later Tryz.pinned [.data, .data, .handle, .data, .sentinel] true :=
  OpenClaim.laidByTextAt_later rfl rfl tie noOwnUnsafe
theorem topRecoveredUpto_row_tie : Rows.topRecoveredUptoRow.laidByTextAt .later Tryz.pinned [.data, .data, .handle, .data, .sentinel] true :=
  OpenClaim.laidByTextAt_later rfl rfl tie noOwnUnsafe
theorem topLogUpto_row_tie : Rows.topLogUptoRow.laidByTextAt .later Tryz.pinned [.data, .data, .handle, .data, .sentinel] true :=
  OpenClaim.laidByTextAt_later rfl rfl tie noOwnUnsafe
end Go.Proofs.YtbobhnldhpjdlaaGreatDoor
