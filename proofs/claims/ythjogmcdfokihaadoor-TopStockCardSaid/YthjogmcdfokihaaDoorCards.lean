/-
  DERIVED. GIVEN WITH THE SEED: THE CARDS: each row of YthjogmcdfokihaaDoorRows.lean that lists a variable, with what it lists TIED to the program's text (the seventh form; the later family's looks); each row that meets fmt, with fmt's text TOLD by the authors' own Lean function (tested against real Go, not proved from fmt's source: count such statements apart). THE CARD IS WHAT COUNTS. Prove the row's statement (the work); the ties are given (YthjogmcdfokihaaDoorTie.lean); close each card by the builder's one call (the guide's Derived/Test/ToyasCard.lean, 'card_holds'). Laid BY PROGRAM, IN A SANDBOX (cutbox-door.mjs). By AI agents, Wed Nov 11 2026. No macro, syntax, notation, axiom, sorry.
-/
import Derived.Test.YthjogmcdfokihaaDoorRows
import GoSem.ClaimSeven
namespace Go.Proofs.YthjogmcdfokihaaDoor
namespace Rows

/-- THE TIED CARD OF 'skewbaldtop.TopLeast'. -/
def topLeastCard : Claim7 := { stood := { row := topLeastRow, standIns := [], harness := (true, "4b41b16630ecce2bad833871e7e4df9f4266d433e691c4fb389d35f54e5c7d6c"), looks := false }, kinds := [], alts := [], laidByText := true, laidKinds := [.funcs, .funcs, .data], laidTests := true, laidLooks := .later }
def TopLeastCardSaid : Prop := Claim7.holds Tryd.pinned (.plain (OpenSpec.ofChange topLeastSpec)) topLeastCard

/-- THE TIED CARD OF 'skewbaldtop.TopStock'. -/
def topStockCard : Claim7 := { stood := { row := topStockRow, standIns := [], harness := (true, "4b41b16630ecce2bad833871e7e4df9f4266d433e691c4fb389d35f54e5c7d6c"), looks := false }, kinds := [], alts := [], laidByText := true, laidKinds := [.funcs, .funcs, .data], laidTests := true, laidLooks := .later }
def TopStockCardSaid : Prop := Claim7.holds Tryd.pinned (.plain (OpenSpec.ofChange topStockSpec)) topStockCard

/-- THE SECOND FORM's CARD OF 'skewbaldtop.TopLeast'. -/
def topLeastUptoCard : Claim7 := { stood := { row := topLeastUptoRow, standIns := [], harness := (true, "4b41b16630ecce2bad833871e7e4df9f4266d433e691c4fb389d35f54e5c7d6c"), looks := false }, kinds := [], alts := [], laidByText := true, laidKinds := [.funcs, .funcs, .data], laidTests := true, laidLooks := .later }
def TopLeastUptoCardSaid : Prop := Claim7.holds Tryd.pinned (.plain (OpenSpec.upto topLeastSpec)) topLeastUptoCard

/-- THE SECOND FORM's CARD OF 'skewbaldtop.TopStock'. -/
def topStockUptoCard : Claim7 := { stood := { row := topStockUptoRow, standIns := [], harness := (true, "4b41b16630ecce2bad833871e7e4df9f4266d433e691c4fb389d35f54e5c7d6c"), looks := false }, kinds := [], alts := [], laidByText := true, laidKinds := [.funcs, .funcs, .data], laidTests := true, laidLooks := .later }
def TopStockUptoCardSaid : Prop := Claim7.holds Tryd.pinned (.plain (OpenSpec.upto topStockSpec)) topStockUptoCard
end Rows
end Go.Proofs.YthjogmcdfokihaaDoor
