/-
  DERIVED. GIVEN WITH THE SEED: THE CARDS: each row of YthcpnbeikdhlkaaDoorRows.lean that lists a variable, with what it lists TIED to the program's text (the seventh form; the later family's looks); each row that meets fmt, with fmt's text TOLD by the authors' own Lean function (tested against real Go, not proved from fmt's source: count such statements apart). THE CARD IS WHAT COUNTS. Prove the row's statement (the work); the ties are given (YthcpnbeikdhlkaaDoorTie.lean); close each card by the builder's one call (the guide's Derived/Test/ToyasCard.lean, 'card_holds'). Laid BY PROGRAM, IN A SANDBOX (cutbox-door.mjs). By AI agents, Wed Nov 11 2026. No macro, syntax, notation, axiom, sorry.
-/
import Derived.Test.YthcpnbeikdhlkaaDoorRows
import GoSem.ClaimSeven
namespace Go.Proofs.YthcpnbeikdhlkaaDoor
namespace Rows

/-- THE TIED CARD OF 'skewbaldtop.TopStable'. -/
def topStableCard : Claim7 := { stood := { row := topStableRow, standIns := [], harness := (true, "3a95cc82da8e8814249972dd6e3cf856c27cb9c703695a216afaae4c0b339687"), looks := false }, kinds := [], alts := [], laidByText := true, laidKinds := [.funcs, .data, .funcs], laidTests := true, laidLooks := .later }
def TopStableCardSaid : Prop := Claim7.holds Tryd.pinned (.plain (OpenSpec.ofChange topStableSpec)) topStableCard

/-- THE TIED CARD OF 'skewbaldtop.TopBare'. -/
def topBareCard : Claim7 := { stood := { row := topBareRow, standIns := [], harness := (true, "3a95cc82da8e8814249972dd6e3cf856c27cb9c703695a216afaae4c0b339687"), looks := false }, kinds := [], alts := [], laidByText := true, laidKinds := [.funcs, .data, .funcs], laidTests := true, laidLooks := .later }
def TopBareCardSaid : Prop := Claim7.holds Tryd.pinned (.plain (OpenSpec.ofChange topBareSpec)) topBareCard

/-- THE SECOND FORM's CARD OF 'skewbaldtop.TopStable'. -/
def topStableUptoCard : Claim7 := { stood := { row := topStableUptoRow, standIns := [], harness := (true, "3a95cc82da8e8814249972dd6e3cf856c27cb9c703695a216afaae4c0b339687"), looks := false }, kinds := [], alts := [], laidByText := true, laidKinds := [.funcs, .data, .funcs], laidTests := true, laidLooks := .later }
def TopStableUptoCardSaid : Prop := Claim7.holds Tryd.pinned (.plain (OpenSpec.upto topStableSpec)) topStableUptoCard

/-- THE SECOND FORM's CARD OF 'skewbaldtop.TopBare'. -/
def topBareUptoCard : Claim7 := { stood := { row := topBareUptoRow, standIns := [], harness := (true, "3a95cc82da8e8814249972dd6e3cf856c27cb9c703695a216afaae4c0b339687"), looks := false }, kinds := [], alts := [], laidByText := true, laidKinds := [.funcs, .data, .funcs], laidTests := true, laidLooks := .later }
def TopBareUptoCardSaid : Prop := Claim7.holds Tryd.pinned (.plain (OpenSpec.upto topBareSpec)) topBareUptoCard
end Rows
end Go.Proofs.YthcpnbeikdhlkaaDoor
