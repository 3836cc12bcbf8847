/-
  DERIVED. GIVEN WITH THE SEED: THE CARDS: each row of YtgdkhppmlfmacaaDoorRows.lean that lists a variable, with what it lists TIED to the program's text (the seventh form; the later family's looks); each row that meets fmt, with fmt's text TOLD by the authors' own Lean function (tested against real Go, not proved from fmt's source: count such statements apart). THE CARD IS WHAT COUNTS. Prove the row's statement (the work); the ties are given (YtgdkhppmlfmacaaDoorTie.lean); close each card by the builder's one call (the guide's Derived/Test/ToyasCard.lean, 'card_holds'). Laid BY PROGRAM, IN A SANDBOX (cutbox-door.mjs). By AI agents, Wed Nov 11 2026. No macro, syntax, notation, axiom, sorry.
-/
import Derived.Test.YtgdkhppmlfmacaaDoorRows
import GoSem.ClaimSeven
namespace Go.Proofs.YtgdkhppmlfmacaaDoor
namespace Rows

/-- THE TIED CARD OF 'skewbaldlaw02.StandKnown'. -/
def standKnownCard : Claim7 := { stood := { row := standKnownRow, standIns := [], harness := (true, "f5f3a951cf4e80481c5e40757205c06b32d25014bb58e749d3495f12b42635a1"), looks := false }, kinds := [], alts := [], laidByText := true, laidKinds := [.funcs], laidTests := true, laidLooks := .later }
def StandKnownCardSaid : Prop := Claim7.holds Tryd.pinned (.plain (OpenSpec.ofChange standKnownSpec)) standKnownCard

/-- THE TIED CARD OF 'skewbaldlaw06.HairKnown'. -/
def hairKnownCard : Claim7 := { stood := { row := hairKnownRow, standIns := [], harness := (true, "f5f3a951cf4e80481c5e40757205c06b32d25014bb58e749d3495f12b42635a1"), looks := false }, kinds := [], alts := [], laidByText := true, laidKinds := [.funcs], laidTests := true, laidLooks := .later }
def HairKnownCardSaid : Prop := Claim7.holds Tryd.pinned (.plain (OpenSpec.ofChange hairKnownSpec)) hairKnownCard

/-- THE TIED CARD OF 'skewbaldlaw10.HarnessKnown'. -/
def harnessKnownCard : Claim7 := { stood := { row := harnessKnownRow, standIns := [], harness := (true, "f5f3a951cf4e80481c5e40757205c06b32d25014bb58e749d3495f12b42635a1"), looks := false }, kinds := [], alts := [], laidByText := true, laidKinds := [.funcs, .data, .funcs], laidTests := true, laidLooks := .later }
def HarnessKnownCardSaid : Prop := Claim7.holds Tryd.pinned (.plain (OpenSpec.ofChange harnessKnownSpec)) harnessKnownCard

/-- THE SECOND FORM's CARD OF 'skewbaldlaw02.StandKnown'. -/
def standKnownUptoCard : Claim7 := { stood := { row := standKnownUptoRow, standIns := [], harness := (true, "f5f3a951cf4e80481c5e40757205c06b32d25014bb58e749d3495f12b42635a1"), looks := false }, kinds := [], alts := [], laidByText := true, laidKinds := [.funcs], laidTests := true, laidLooks := .later }
def StandKnownUptoCardSaid : Prop := Claim7.holds Tryd.pinned (.plain (OpenSpec.upto standKnownSpec)) standKnownUptoCard

/-- THE SECOND FORM's CARD OF 'skewbaldlaw06.HairKnown'. -/
def hairKnownUptoCard : Claim7 := { stood := { row := hairKnownUptoRow, standIns := [], harness := (true, "f5f3a951cf4e80481c5e40757205c06b32d25014bb58e749d3495f12b42635a1"), looks := false }, kinds := [], alts := [], laidByText := true, laidKinds := [.funcs], laidTests := true, laidLooks := .later }
def HairKnownUptoCardSaid : Prop := Claim7.holds Tryd.pinned (.plain (OpenSpec.upto hairKnownSpec)) hairKnownUptoCard

/-- THE SECOND FORM's CARD OF 'skewbaldlaw10.HarnessKnown'. -/
def harnessKnownUptoCard : Claim7 := { stood := { row := harnessKnownUptoRow, standIns := [], harness := (true, "f5f3a951cf4e80481c5e40757205c06b32d25014bb58e749d3495f12b42635a1"), looks := false }, kinds := [], alts := [], laidByText := true, laidKinds := [.funcs, .data, .funcs], laidTests := true, laidLooks := .later }
def HarnessKnownUptoCardSaid : Prop := Claim7.holds Tryd.pinned (.plain (OpenSpec.upto harnessKnownSpec)) harnessKnownUptoCard
end Rows
end Go.Proofs.YtgdkhppmlfmacaaDoor
