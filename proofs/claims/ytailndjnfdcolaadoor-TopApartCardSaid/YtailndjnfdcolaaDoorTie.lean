/-
  DERIVED. GIVEN WITH THE SEED: THE PROGRAM's TIES (one call each: nine closed facts by the kernel) AND EACH ROW's TIE, after the 31st guide's Derived/Test/Toyas{Tie, Card}.lean. No idea stands in it: it is a product of the set-up. Laid BY PROGRAM, IN A SANDBOX (cutbox-door.mjs). By AI agents, Wed Nov 11 2026. No macro, syntax, notation, axiom, sorry.
-/
import Derived.Test.YtailndjnfdcolaaDoorRows
import Derived.LaidByTextLater
import Derived.SevenTiedAt
import Derived.LaidSub
import Derived.LaidOnce
namespace Go.Proofs.YtailndjnfdcolaaDoor
open Go
set_option maxRecDepth 100000
theorem seatTie1 : Tryd.prog.laidByTextLater [("skewbald/dapple.alikes", Rows.laid_skewbald_dapple_alikes), ("skewbald/dapple.never", Rows.laid_skewbald_dapple_never), ("skewbald/maker.anything", Rows.laid_skewbald_maker_anything)] [.funcs, .data, .data] true :=
  Program.laidByTextLater_by_one 24 8 7 (by kernel_rfl) (by kernel_rfl) (by kernel_rfl) (by kernel_rfl) (by kernel_rfl) (by kernel_rfl) (fun _ _ => by kernel_rfl)
theorem noOwnUnsafe : Tryd.pinned.checked.prog.headLifts.contains "ownunsafe" = false := by kernel_rfl
theorem tie : Tryd.prog.laidByTextLater [("skewbald/dapple.alikes", Rows.laid_skewbald_dapple_alikes), ("skewbald/dapple.never", Rows.laid_skewbald_dapple_never), ("skewbald/maker.anything", Rows.laid_skewbald_maker_anything)] [.funcs, .data, .data] true :=
  Program.laidByTextLater.sub seatTie1 ["skewbald/dapple.alikes", "skewbald/dapple.never", "skewbald/maker.anything"] (by kernel_rfl) (by kernel_rfl)
theorem topApart_row_tie : Rows.topApartRow.laidByTextAt .later Tryd.pinned [.funcs, .data, .data] true :=
  OpenClaim.laidByTextAt_later rfl rfl tie noOwnUnsafe
theorem topApartUpto_row_tie : Rows.topApartUptoRow.laidByTextAt .later Tryd.pinned [.funcs, .data, .data] true :=
  OpenClaim.laidByTextAt_later rfl rfl tie noOwnUnsafe
end Go.Proofs.YtailndjnfdcolaaDoor
