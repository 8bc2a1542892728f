/-
  DERIVED. GIVEN WITH THE SEED: THE PROGRAM's TIES (one call each: nine closed facts by the kernel) AND EACH ROW's TIE, after the 31st guide's Derived/Test/Toyas{Tie, Card}.lean. No idea stands in it: it is a product of the set-up. Laid BY PROGRAM, IN A SANDBOX (cutbox-door.mjs). By AI agents, Wed Nov 11 2026. No macro, syntax, notation, axiom, sorry.
-/
import Derived.Test.YtpfglknbkpcfnaaDoorRows
import Derived.LaidByTextLater
import Derived.SevenTiedAt
import Derived.LaidSub
import Derived.LaidOnce
namespace Go.Proofs.YtpfglknbkpcfnaaDoor
open Go
set_option maxRecDepth 100000
theorem seatTie1 : Tryd.prog.laidByTextLater [("prow/fairway.asks", Rows.laid_prow_fairway_asks), ("prow/landing.nowhere", Rows.laid_prow_landing_nowhere), ("prow/landing.unknown", Rows.laid_prow_landing_unknown), ("prow/landing.asks", Rows.laid_prow_landing_asks), ("prow/crossing.nowhere", Rows.laid_prow_crossing_nowhere), ("prow/crossing.sides", Rows.laid_prow_crossing_sides)] [.funcs, .data, .data, .funcs, .data, .funcs] true :=
  Program.laidByTextLater_by_one 39 8 3 (by kernel_rfl) (by kernel_rfl) (by kernel_rfl) (by kernel_rfl) (by kernel_rfl) (by kernel_rfl) (fun _ _ => by kernel_rfl)
theorem noOwnUnsafe : Tryd.pinned.checked.prog.headLifts.contains "ownunsafe" = false := by kernel_rfl
theorem tie : Tryd.prog.laidByTextLater [("prow/fairway.asks", Rows.laid_prow_fairway_asks), ("prow/landing.nowhere", Rows.laid_prow_landing_nowhere), ("prow/landing.unknown", Rows.laid_prow_landing_unknown), ("prow/landing.asks", Rows.laid_prow_landing_asks), ("prow/crossing.nowhere", Rows.laid_prow_crossing_nowhere), ("prow/crossing.sides", Rows.laid_prow_crossing_sides)] [.funcs, .data, .data, .funcs, .data, .funcs] true :=
  Program.laidByTextLater.sub seatTie1 ["prow/fairway.asks", "prow/landing.nowhere", "prow/landing.unknown", "prow/landing.asks", "prow/crossing.nowhere", "prow/crossing.sides"] (by kernel_rfl) (by kernel_rfl)
theorem crossingLeast_row_tie : Rows.crossingLeastRow.laidByTextAt .later Tryd.pinned [.funcs, .data, .data, .funcs, .data, .funcs] true :=
  OpenClaim.laidByTextAt_later rfl rfl tie noOwnUnsafe
theorem crossingNext_row_tie : Rows.crossingNextRow.laidByTextAt .later Tryd.pinned [.funcs, .data, .data, .funcs, .data, .funcs] true :=
  OpenClaim.laidByTextAt_later rfl rfl tie noOwnUnsafe
theorem crossingPast_row_tie : Rows.crossingPastRow.laidByTextAt .later Tryd.pinned [.funcs, .data, .data, .funcs, .data, .funcs] true :=
  OpenClaim.laidByTextAt_later rfl rfl tie noOwnUnsafe
theorem crossingPlan_row_tie : Rows.crossingPlanRow.laidByTextAt .later Tryd.pinned [.funcs, .data, .data, .funcs, .data, .funcs] true :=
  OpenClaim.laidByTextAt_later rfl rfl tie noOwnUnsafe
theorem crossingBefore_row_tie : Rows.crossingBeforeRow.laidByTextAt .later Tryd.pinned [.funcs, .data, .data, .funcs, .data, .funcs] true :=
  OpenClaim.laidByTextAt_later rfl rfl tie noOwnUnsafe
theorem crossingMany_row_tie : Rows.crossingManyRow.laidByTextAt .later Tryd.pinned [.funcs, .data, .data, .funcs, .data, .funcs] true :=
  OpenClaim.laidByTextAt_later rfl rfl tie noOwnUnsafe
theorem crossingLate_row_tie : Rows.crossingLateRow.laidByTextAt .later Tryd.pinned [.funcs, .data, .data, .funcs, .data, .funcs] true :=
  OpenClaim.laidByTextAt_later rfl rfl tie noOwnUnsafe
theorem crossingShip_row_tie : Rows.crossingShipRow.laidByTextAt .later Tryd.pinned [.funcs, .data, .data, .funcs, .data, .funcs] true :=
  OpenClaim.laidByTextAt_later rfl rfl tie noOwnUnsafe
theorem crossingMore_row_tie : Rows.crossingMoreRow.laidByTextAt .later Tryd.pinned [.funcs, .data, .data, .funcs, .data, .funcs] true :=
  OpenClaim.laidByTextAt_later rfl rfl tie noOwnUnsafe
theorem crossingKnown_row_tie : Rows.crossingKnownRow.laidByTextAt .later Tryd.pinned [.funcs, .data, .data, .funcs, .data, .funcs] true :=
  OpenClaim.laidByTextAt_later rfl rfl tie noOwnUnsafe
theorem crossingLeastUpto_row_tie : Rows.crossingLeastUptoRow.laidByTextAt .later Tryd.pinned [.funcs, .data, .data, .funcs, .data, .funcs] true :=
  OpenClaim.laidByTextAt_later rfl rfl tie noOwnUnsafe
theorem crossingNextUpto_row_tie : Rows.crossingNextUptoRow.laidByTextAt .later Tryd.pinned [.funcs, .data, .data, .funcs, .data, .funcs] true :=
  OpenClaim.laidByTextAt_later rfl rfl tie noOwnUnsafe
theorem crossingPastUpto_row_tie : Rows.crossingPastUptoRow.laidByTextAt .later Tryd.pinned [.funcs, .data, .data, .funcs, .data, .funcs] true :=
  OpenClaim.laidByTextAt_later rfl rfl tie noOwnUnsafe
theorem crossingPlanUpto_row_tie : Rows.crossingPlanUptoRow.laidByTextAt .later Tryd.pinned [.funcs, .data, .data, .funcs, .data, .funcs] true :=
  OpenClaim.laidByTextAt_later rfl rfl tie noOwnUnsafe
theorem crossingBeforeUpto_row_tie : Rows.crossingBeforeUptoRow.laidByTextAt .later Tryd.pinned [.funcs, .data, .data, .funcs, .data, .funcs] true :=
  OpenClaim.laidByTextAt_later rfl rfl tie noOwnUnsafe
theorem crossingManyUpto_row_tie : Rows.crossingManyUptoRow.laidByTextAt .later Tryd.pinned [.funcs, .data, .data, .funcs, .data, .funcs] true :=
  OpenClaim.laidByTextAt_later rfl rfl tie noOwnUnsafe
theorem crossingLateUpto_row_tie : Rows.crossingLateUptoRow.laidByTextAt .later Tryd.pinned [.funcs, .data, .data, .funcs, .data, .funcs] true :=
  OpenClaim.laidByTextAt_later rfl rfl tie noOwnUnsafe
theorem crossingShipUpto_row_tie : Rows.crossingShipUptoRow.laidByTextAt .later Tryd.pinned [.funcs, .data, .data, .funcs, .data, .funcs] true :=
  OpenClaim.laidByTextAt_later rfl rfl tie noOwnUnsafe
theorem crossingMoreUpto_row_tie : Rows.crossingMoreUptoRow.laidByTextAt .later Tryd.pinned [.funcs, .data, .data, .funcs, .data, .funcs] true :=
  OpenClaim.laidByTextAt_later rfl rfl tie noOwnUnsafe
theorem crossingKnownUpto_row_tie : Rows.crossingKnownUptoRow.laidByTextAt .later Tryd.pinned [.funcs, .data, .data, .funcs, .data, .funcs] true :=
  OpenClaim.laidByTextAt_later rfl rfl tie noOwnUnsafe
end Go.Proofs.YtpfglknbkpcfnaaDoor
