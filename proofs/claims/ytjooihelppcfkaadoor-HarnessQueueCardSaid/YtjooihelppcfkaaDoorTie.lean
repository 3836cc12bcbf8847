/-
  DERIVED. GIVEN WITH THE SEED: THE PROGRAM's TIES (one call each: nine closed facts by the kernel) AND EACH ROW's TIE, after the 31st guide's Derived/Test/Toyas{Tie, Card}.lean. No idea stands in it: it is a product of the set-up. Laid BY PROGRAM, IN A SANDBOX (cutbox-door.mjs). By AI agents, Wed Nov 11 2026. No macro, syntax, notation, axiom, sorry.
-/
import Derived.Test.YtjooihelppcfkaaDoorRows
import Derived.LaidByTextLater
import Derived.SevenTiedAt
import Derived.LaidSub
import Derived.LaidOnce
namespace Go.Proofs.YtjooihelppcfkaaDoor
open Go
set_option maxRecDepth 100000
theorem seatTie1 : Tryd.prog.laidByTextLater [("skewbald/hair.parts", Rows.laid_skewbald_hair_parts), ("skewbald/harness.nothing", Rows.laid_skewbald_harness_nothing), ("skewbald/harness.overs", Rows.laid_skewbald_harness_overs)] [.funcs, .data, .funcs] true :=
  Program.laidByTextLater_by_one 24 8 3 (by kernel_rfl) (by kernel_rfl) (by kernel_rfl) (by kernel_rfl) (by kernel_rfl) (by kernel_rfl) (fun _ _ => by kernel_rfl)
theorem noOwnUnsafe : Tryd.pinned.checked.prog.headLifts.contains "ownunsafe" = false := by kernel_rfl
theorem tie : Tryd.prog.laidByTextLater [("skewbald/hair.parts", Rows.laid_skewbald_hair_parts), ("skewbald/harness.nothing", Rows.laid_skewbald_harness_nothing), ("skewbald/harness.overs", Rows.laid_skewbald_harness_overs)] [.funcs, .data, .funcs] true :=
  Program.laidByTextLater.sub seatTie1 ["skewbald/hair.parts", "skewbald/harness.nothing", "skewbald/harness.overs"] (by kernel_rfl) (by kernel_rfl)
theorem harnessDays_row_tie : Rows.harnessDaysRow.laidByTextAt .later Tryd.pinned [.funcs, .data, .funcs] true :=
  OpenClaim.laidByTextAt_later rfl rfl tie noOwnUnsafe
theorem harnessOrders_row_tie : Rows.harnessOrdersRow.laidByTextAt .later Tryd.pinned [.funcs, .data, .funcs] true :=
  OpenClaim.laidByTextAt_later rfl rfl tie noOwnUnsafe
theorem harnessCounts_row_tie : Rows.harnessCountsRow.laidByTextAt .later Tryd.pinned [.funcs, .data, .funcs] true :=
  OpenClaim.laidByTextAt_later rfl rfl tie noOwnUnsafe
theorem harnessTrue_row_tie : Rows.harnessTrueRow.laidByTextAt .later Tryd.pinned [.funcs, .data, .funcs] true :=
  OpenClaim.laidByTextAt_later rfl rfl tie noOwnUnsafe
theorem harnessOrder_row_tie : Rows.harnessOrderRow.laidByTextAt .later Tryd.pinned [.funcs, .data, .funcs] true :=
  OpenClaim.laidByTextAt_later rfl rfl tie noOwnUnsafe
theorem harnessOver_row_tie : Rows.harnessOverRow.laidByTextAt .later Tryd.pinned [.funcs, .data, .funcs] true :=
  OpenClaim.laidByTextAt_later rfl rfl tie noOwnUnsafe
theorem harnessHair_row_tie : Rows.harnessHairRow.laidByTextAt .later Tryd.pinned [.funcs, .data, .funcs] true :=
  OpenClaim.laidByTextAt_later rfl rfl tie noOwnUnsafe
theorem harnessCounted_row_tie : Rows.harnessCountedRow.laidByTextAt .later Tryd.pinned [.funcs, .data, .funcs] true :=
  OpenClaim.laidByTextAt_later rfl rfl tie noOwnUnsafe
theorem harnessCount_row_tie : Rows.harnessCountRow.laidByTextAt .later Tryd.pinned [.funcs, .data, .funcs] true :=
  OpenClaim.laidByTextAt_later rfl rfl tie noOwnUnsafe
theorem harnessQueue_row_tie : Rows.harnessQueueRow.laidByTextAt .later Tryd.pinned [.funcs, .data, .funcs] true :=
  OpenClaim.laidByTextAt_later rfl rfl tie noOwnUnsafe
theorem harnessPack_row_tie : Rows.harnessPackRow.laidByTextAt .later Tryd.pinned [.funcs, .data, .funcs] true :=
  OpenClaim.laidByTextAt_later rfl rfl tie noOwnUnsafe
theorem harnessKnown_row_tie : Rows.harnessKnownRow.laidByTextAt .later Tryd.pinned [.funcs, .data, .funcs] true :=
  OpenClaim.laidByTextAt_later rfl rfl tie noOwnUnsafe
theorem harnessDaysUpto_row_tie : Rows.harnessDaysUptoRow.laidByTextAt .later Tryd.pinned [.funcs, .data, .funcs] true :=
  OpenClaim.laidByTextAt_later rfl rfl tie noOwnUnsafe
theorem harnessOrdersUpto_row_tie : Rows.harnessOrdersUptoRow.laidByTextAt .later Tryd.pinned [.funcs, .data, .funcs] true :=
  OpenClaim.laidByTextAt_later rfl rfl tie noOwnUnsafe
theorem harnessCountsUpto_row_tie : Rows.harnessCountsUptoRow.laidByTextAt .later Tryd.pinned [.funcs, .data, .funcs] true :=
  OpenClaim.laidByTextAt_later rfl rfl tie noOwnUnsafe
theorem harnessTrueUpto_row_tie : Rows.harnessTrueUptoRow.laidByTextAt .later Tryd.pinned [.funcs, .data, .funcs] true :=
  OpenClaim.laidByTextAt_later rfl rfl tie noOwnUnsafe
theorem harnessOrderUpto_row_tie : Rows.harnessOrderUptoRow.laidByTextAt .later Tryd.pinned [.funcs, .data, .funcs] true :=
  OpenClaim.laidByTextAt_later rfl rfl tie noOwnUnsafe
theorem harnessOverUpto_row_tie : Rows.harnessOverUptoRow.laidByTextAt .later Tryd.pinned [.funcs, .data, .funcs] true :=
  OpenClaim.laidByTextAt_later rfl rfl tie noOwnUnsafe
theorem harnessHairUpto_row_tie : Rows.harnessHairUptoRow.laidByTextAt .later Tryd.pinned [.funcs, .data, .funcs] true :=
  OpenClaim.laidByTextAt_later rfl rfl tie noOwnUnsafe
theorem harnessCountedUpto_row_tie : Rows.harnessCountedUptoRow.laidByTextAt .later Tryd.pinned [.funcs, .data, .funcs] true :=
  OpenClaim.laidByTextAt_later rfl rfl tie noOwnUnsafe
theorem harnessCountUpto_row_tie : Rows.harnessCountUptoRow.laidByTextAt .later Tryd.pinned [.funcs, .data, .funcs] true :=
  OpenClaim.laidByTextAt_later rfl rfl tie noOwnUnsafe
theorem harnessQueueUpto_row_tie : Rows.harnessQueueUptoRow.laidByTextAt .later Tryd.pinned [.funcs, .data, .funcs] true :=
  OpenClaim.laidByTextAt_later rfl rfl tie noOwnUnsafe
theorem harnessPackUpto_row_tie : Rows.harnessPackUptoRow.laidByTextAt .later Tryd.pinned [.funcs, .data, .funcs] true :=
  OpenClaim.laidByTextAt_later rfl rfl tie noOwnUnsafe
theorem harnessKnownUpto_row_tie : Rows.harnessKnownUptoRow.laidByTextAt .later Tryd.pinned [.funcs, .data, .funcs] true :=
  OpenClaim.laidByTextAt_later rfl rfl tie noOwnUnsafe
end Go.Proofs.YtjooihelppcfkaaDoor
