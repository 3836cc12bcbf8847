/-
  DERIVED. GIVEN WITH THE SEED: THE PROGRAM's TIES (one call each: nine closed facts by the kernel) AND EACH ROW's TIE, after the 31st guide's Derived/Test/Toyas{Tie, Card}.lean. No idea stands in it: it is a product of the set-up. Laid BY PROGRAM, IN A SANDBOX (cutbox-door.mjs). By AI agents, Wed Nov 11 2026. No macro, syntax, notation, axiom, sorry.
-/
import Derived.Test.YthjogmcdfokihaaDoorRows
import Derived.LaidByTextLater
import Derived.SevenTiedAt
import Derived.LaidSub
import Derived.LaidOnce
namespace Go.Proofs.YthjogmcdfokihaaDoor
open Go
set_option maxRecDepth 100000
theorem seatTie1 : Tryd.prog.laidByTextLater [("skewbald/hair.parts", Rows.laid_skewbald_hair_parts), ("skewbald/plank.hits", Rows.laid_skewbald_plank_hits), ("skewbald/plank.nowhere", Rows.laid_skewbald_plank_nowhere)] [.funcs, .funcs, .data] true :=
  Program.laidByTextLater_by_one 24 8 4 (by kernel_rfl) (by kernel_rfl) (by kernel_rfl) (by kernel_rfl) (by kernel_rfl) (by kernel_rfl) (fun _ _ => by kernel_rfl)
theorem noOwnUnsafe : Tryd.pinned.checked.prog.headLifts.contains "ownunsafe" = false := by kernel_rfl
theorem tie : Tryd.prog.laidByTextLater [("skewbald/hair.parts", Rows.laid_skewbald_hair_parts), ("skewbald/plank.hits", Rows.laid_skewbald_plank_hits), ("skewbald/plank.nowhere", Rows.laid_skewbald_plank_nowhere)] [.funcs, .funcs, .data] true :=
  Program.laidByTextLater.sub seatTie1 ["skewbald/hair.parts", "skewbald/plank.hits", "skewbald/plank.nowhere"] (by kernel_rfl) (by kernel_rfl)
theorem topLeast_row_tie : Rows.topLeastRow.laidByTextAt .later Tryd.pinned [.funcs, .funcs, .data] true :=
  OpenClaim.laidByTextAt_later rfl rfl tie noOwnUnsafe
theorem topStock_row_tie : Rows.topStockRow.laidByTextAt .later Tryd.pinned [.funcs, .funcs, .data] true :=
  OpenClaim.laidByTextAt_later rfl rfl tie noOwnUnsafe
theorem topLeastUpto_row_tie : Rows.topLeastUptoRow.laidByTextAt .later Tryd.pinned [.funcs, .funcs, .data] true :=
  OpenClaim.laidByTextAt_later rfl rfl tie noOwnUnsafe
theorem topStockUpto_row_tie : Rows.topStockUptoRow.laidByTextAt .later Tryd.pinned [.funcs, .funcs, .data] true :=
  OpenClaim.laidByTextAt_later rfl rfl tie noOwnUnsafe
end Go.Proofs.YthjogmcdfokihaaDoor
