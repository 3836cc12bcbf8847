/-
  DERIVED. GIVEN WITH THE SEED: THE PROGRAM's TIES (one call each: nine closed facts by the kernel) AND EACH ROW's TIE, after the 31st guide's Derived/Test/Toyas{Tie, Card}.lean. No idea stands in it: it is a product of the set-up. Laid BY PROGRAM, IN A SANDBOX (cutbox-door.mjs). By AI agents, Wed Nov 11 2026. No macro, syntax, notation, axiom, sorry.
-/
import Derived.Test.YthcpnbeikdhlkaaDoorRows
import Derived.LaidByTextLater
import Derived.SevenTiedAt
import Derived.LaidSub
import Derived.LaidOnce
namespace Go.Proofs.YthcpnbeikdhlkaaDoor
open Go
set_option maxRecDepth 100000
theorem seatTie1 : Tryd.prog.laidByTextLater [("skewbald/hair.parts", Rows.laid_skewbald_hair_parts), ("skewbald/harness.nothing", Rows.laid_skewbald_harness_nothing), ("skewbald/harness.overs", Rows.laid_skewbald_harness_overs)] [.funcs, .data, .funcs] true :=
  Program.laidByTextLater_by_one 24 8 3 (by kernel_rfl) (by kernel_rfl) (by kernel_rfl) (by kernel_rfl) (by kernel_rfl) (by kernel_rfl) (fun _ _ => by kernel_rfl)
theorem noOwnUnsafe : Tryd.pinned.checked.prog.headLifts.contains "ownunsafe" = false := by kernel_rfl
theorem tie : Tryd.prog.laidByTextLater [("skewbald/hair.parts", Rows.laid_skewbald_hair_parts), ("skewbald/harness.nothing", Rows.laid_skewbald_harness_nothing), ("skewbald/harness.overs", Rows.laid_skewbald_harness_overs)] [.funcs, .data, .funcs] true :=
  Program.laidByTextLater.sub seatTie1 ["skewbald/hair.parts", "skewbald/harness.nothing", "skewbald/harness.overs"] (by kernel_rfl) (by kernel_rfl)
theorem topStable_row_tie : Rows.topStableRow.laidByTextAt .later Tryd.pinned [.funcs, .data, .funcs] true :=
  OpenClaim.laidByTextAt_later rfl rfl tie noOwnUnsafe
theorem topBare_row_tie : Rows.topBareRow.laidByTextAt .later Tryd.pinned [.funcs, .data, .funcs] true :=
  OpenClaim.laidByTextAt_later rfl rfl tie noOwnUnsafe
theorem topStableUpto_row_tie : Rows.topStableUptoRow.laidByTextAt .later Tryd.pinned [.funcs, .data, .funcs] true :=
  OpenClaim.laidByTextAt_later rfl rfl tie noOwnUnsafe
theorem topBareUpto_row_tie : Rows.topBareUptoRow.laidByTextAt .later Tryd.pinned [.funcs, .data, .funcs] true :=
  OpenClaim.laidByTextAt_later rfl rfl tie noOwnUnsafe
end Go.Proofs.YthcpnbeikdhlkaaDoor
