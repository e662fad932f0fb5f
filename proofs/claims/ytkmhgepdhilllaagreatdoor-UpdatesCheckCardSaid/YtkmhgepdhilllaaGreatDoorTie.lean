/-
  DERIVED. GIVEN WITH THE SEED: THE PROGRAM's TIES (one call each: nine closed facts by the kernel) AND EACH ROW's TIE, after the 31st guide's Derived/Test/Toyas{Tie, Card}.lean. No idea stands in it: it is a product of the set-up. Laid BY PROGRAM, IN A SANDBOX (cutbox-door.mjs). By AI agents, Wed Nov 11 2026. No macro, syntax, notation, axiom, sorry.
-/
import Derived.Test.YtkmhgepdhilllaaGreatDoorRows
import Derived.LaidByTextLater
import Derived.SevenTiedAt
import Derived.LaidSub
import Derived.LaidOnce
namespace Go.Proofs.YtkmhgepdhilllaaGreatDoor
open Go
set_option maxRecDepth 100000
theorem seatTie1 : Tryz.prog.laidByTextLater [("caisson/digests.initial", Rows.laid_caisson_digests_initial), ("caisson/digests.constants", Rows.laid_caisson_digests_constants), ("errors.errorType", Rows.laid_errors_errorType), ("caisson/nodes.sizes", Rows.laid_caisson_nodes_sizes)] [.data, .data, .handle, .data] true :=
  Program.laidByTextLater_by_one 31 8 65 (by kernel_rfl) (by kernel_rfl) (by kernel_rfl) (by kernel_rfl) (by kernel_rfl) (by kernel_rfl) (fun _ _ => by kernel_rfl)
theorem noOwnUnsafe : Tryz.pinned.checked.prog.headLifts.contains "ownunsafe" = false := by kernel_rfl
theorem tie : Tryz.prog.laidByTextLater [("caisson/digests.initial", Rows.laid_caisson_digests_initial), ("caisson/digests.constants", Rows.laid_caisson_digests_constants), ("errors.errorType", Rows.laid_errors_errorType), ("caisson/nodes.sizes", Rows.laid_caisson_nodes_sizes)] [.data, .data, .handle, .data] true :=
  Program.laidByTextLater.sub seatTie1 ["caisson/digests.initial", "caisson/digests.constants", "errors.errorType", "caisson/nodes.sizes"] (by kernel_rfl) (by kernel_rfl)
theorem updatesSteps_row_tie : Rows.updatesStepsRow.laidByTextAt .later Tryz.pinned [.data, .data, .handle, .data] true :=
  OpenClaim.laidByTextAt_later rfl rfl tie noOwnUnsafe
theorem updatesOrder_row_tie : Rows.updatesOrderRow.laidByTextAt .later Tryz.pinned [.data, .data, .handle, .data] true :=
  OpenClaim.laidByTextAt_later rfl rfl tie noOwnUnsafe
theorem updatesSafe_row_tie : Rows.updatesSafeRow.laidByTextAt .later Tryz.pinned [.data, .data, .handle, .data] true :=
  OpenClaim.laidByTextAt_later rfl rfl tie noOwnUnsafe
theorem updatesOf_row_tie : Rows.updatesOfRow.laidByTextAt .later Tryz.pinned [.data, .data, .handle, .data] true :=
  OpenClaim.laidByTextAt_later rfl rfl tie noOwnUnsafe
theorem updatesKnown_row_tie : Rows.updatesKnownRow.laidByTextAt .later Tryz.pinned [.data, .data, .handle, .data] true :=
  OpenClaim.laidByTextAt_later rfl rfl tie noOwnUnsafe
theorem updatesViews_row_tie : Rows.updatesViewsRow.laidByTextAt .later Tryz.pinned [.data, .data, .handle, .data] true :=
  OpenClaim.laidByTextAt_later rfl rfl tie noOwnUnsafe
theorem updatesCheck_row_tie : Rows.updatesCheckRow.laidByTextAt .later Tryz.pinned [.data, .data, .handle, .data] true :=
  OpenClaim.laidByTextAt_later rfl rfl tie noOwnUnsafe
theorem updatesStepsUpto_row_tie : Rows.updatesStepsUptoRow.laidByTextAt .later Tryz.pinned [.data, .data, .handle, .data] true :=
  OpenClaim.laidByTextAt_later rfl rfl tie noOwnUnsafe
theorem updatesOrderUpto_row_tie : Rows.updatesOrderUptoRow.laidByTextAt .later Tryz.pinned [.data, .data, .handle, .data] true :=
  OpenClaim.laidByTextAt_later rfl rfl tie noOwnUnsafe
theorem updatesSafeUpto_row_tie : Rows.updatesSafeUptoRow.laidByTextAt .later Tryz.pinned [.data, .data, .handle, .data] true :=
  OpenClaim.laidByTextAt_later rfl rfl tie noOwnUnsafe
theorem updatesOfUpto_row_tie : Rows.updatesOfUptoRow.laidByTextAt .later Tryz.pinned [.data, .data, .handle, .data] true :=
  OpenClaim.laidByTextAt_later rfl rfl tie noOwnUnsafe
theorem updatesKnownUpto_row_tie : Rows.updatesKnownUptoRow.laidByTextAt .later Tryz.pinned [.data, .data, .handle, .data] true :=
  OpenClaim.laidByTextAt_later rfl rfl tie noOwnUnsafe
theorem updatesViewsUpto_row_tie : Rows.updatesViewsUptoRow.laidByTextAt .later Tryz.pinned [.data, .data, .handle, .data] true :=
  OpenClaim.laidByTextAt_later rfl rfl tie noOwnUnsafe
theorem updatesCheckUpto_row_tie : Rows.updatesCheckUptoRow.laidByTextAt .later Tryz.pinned [.data, .data, .handle, .data] true :=
  OpenClaim.laidByTextAt_later rfl rfl tie noOwnUnsafe
end Go.Proofs.YtkmhgepdhilllaaGreatDoor
