/-
  DERIVED. GIVEN WITH THE SEED: THE CARDS: each row of YtjooihelppcfkaaDoorRows.lean that lists a variable, with what it lists TIED to the program's text (the seventh form; the later family's looks); each row that meets fmt, with fmt's text TOLD by the authors' own Lean function (tested against real Go, not proved from fmt's source: count such statements apart). THE CARD IS WHAT COUNTS. Prove the row's statement (the work); the ties are given (YtjooihelppcfkaaDoorTie.lean); close each card by the builder's one call (the guide's Derived/Test/ToyasCard.lean, 'card_holds'). Laid BY PROGRAM, IN A SANDBOX (cutbox-door.mjs). By AI agents, Wed Nov 11 2026. No macro, syntax, notation, axiom, sorry.
-/
import Derived.Test.YtjooihelppcfkaaDoorRows
import GoSem.ClaimSeven
namespace Go.Proofs.YtjooihelppcfkaaDoor
namespace Rows

/-- THE TIED CARD OF 'skewbaldlaw10.HarnessDays'. -/
def harnessDaysCard : Claim7 := { stood := { row := harnessDaysRow, standIns := [], harness := (true, "37ed63dde1cec494fe0447245e6e639e9c195fb0d1a4975922d33755cf32f48a"), looks := false }, kinds := [], alts := [], laidByText := true, laidKinds := [.funcs, .data, .funcs], laidTests := true, laidLooks := .later }
def HarnessDaysCardSaid : Prop := Claim7.holds Tryd.pinned (.plain (OpenSpec.ofChange harnessDaysSpec)) harnessDaysCard

/-- THE TIED CARD OF 'skewbaldlaw10.HarnessOrders'. -/
def harnessOrdersCard : Claim7 := { stood := { row := harnessOrdersRow, standIns := [], harness := (true, "37ed63dde1cec494fe0447245e6e639e9c195fb0d1a4975922d33755cf32f48a"), looks := false }, kinds := [], alts := [], laidByText := true, laidKinds := [.funcs, .data, .funcs], laidTests := true, laidLooks := .later }
def HarnessOrdersCardSaid : Prop := Claim7.holds Tryd.pinned (.plain (OpenSpec.ofChange harnessOrdersSpec)) harnessOrdersCard

/-- THE TIED CARD OF 'skewbaldlaw10.HarnessCounts'. -/
def harnessCountsCard : Claim7 := { stood := { row := harnessCountsRow, standIns := [], harness := (true, "37ed63dde1cec494fe0447245e6e639e9c195fb0d1a4975922d33755cf32f48a"), looks := false }, kinds := [], alts := [], laidByText := true, laidKinds := [.funcs, .data, .funcs], laidTests := true, laidLooks := .later }
def HarnessCountsCardSaid : Prop := Claim7.holds Tryd.pinned (.plain (OpenSpec.ofChange harnessCountsSpec)) harnessCountsCard

/-- THE TIED CARD OF 'skewbaldlaw10.HarnessTrue'. -/
def harnessTrueCard : Claim7 := { stood := { row := harnessTrueRow, standIns := [], harness := (true, "37ed63dde1cec494fe0447245e6e639e9c195fb0d1a4975922d33755cf32f48a"), looks := false }, kinds := [], alts := [], laidByText := true, laidKinds := [.funcs, .data, .funcs], laidTests := true, laidLooks := .later }
def HarnessTrueCardSaid : Prop := Claim7.holds Tryd.pinned (.plain (OpenSpec.ofChange harnessTrueSpec)) harnessTrueCard

/-- THE TIED CARD OF 'skewbaldlaw10.HarnessOrder'. -/
def harnessOrderCard : Claim7 := { stood := { row := harnessOrderRow, standIns := [], harness := (true, "37ed63dde1cec494fe0447245e6e639e9c195fb0d1a4975922d33755cf32f48a"), looks := false }, kinds := [], alts := [], laidByText := true, laidKinds := [.funcs, .data, .funcs], laidTests := true, laidLooks := .later }
def HarnessOrderCardSaid : Prop := Claim7.holds Tryd.pinned (.plain (OpenSpec.ofChange harnessOrderSpec)) harnessOrderCard

/-- THE TIED CARD OF 'skewbaldlaw10.HarnessOver'. -/
def harnessOverCard : Claim7 := { stood := { row := harnessOverRow, standIns := [], harness := (true, "37ed63dde1cec494fe0447245e6e639e9c195fb0d1a4975922d33755cf32f48a"), looks := false }, kinds := [], alts := [], laidByText := true, laidKinds := [.funcs, .data, .funcs], laidTests := true, laidLooks := .later }
def HarnessOverCardSaid : Prop := Claim7.holds Tryd.pinned (.plain (OpenSpec.ofChange harnessOverSpec)) harnessOverCard

/-- THE TIED CARD OF 'skewbaldlaw10.HarnessHair'. -/
def harnessHairCard : Claim7 := { stood := { row := harnessHairRow, standIns := [], harness := (true, "37ed63dde1cec494fe0447245e6e639e9c195fb0d1a4975922d33755cf32f48a"), looks := false }, kinds := [], alts := [], laidByText := true, laidKinds := [.funcs, .data, .funcs], laidTests := true, laidLooks := .later }
def HarnessHairCardSaid : Prop := Claim7.holds Tryd.pinned (.plain (OpenSpec.ofChange harnessHairSpec)) harnessHairCard

/-- THE TIED CARD OF 'skewbaldlaw10.HarnessCounted'. -/
def harnessCountedCard : Claim7 := { stood := { row := harnessCountedRow, standIns := [], harness := (true, "37ed63dde1cec494fe0447245e6e639e9c195fb0d1a4975922d33755cf32f48a"), looks := false }, kinds := [], alts := [], laidByText := true, laidKinds := [.funcs, .data, .funcs], laidTests := true, laidLooks := .later }
def HarnessCountedCardSaid : Prop := Claim7.holds Tryd.pinned (.plain (OpenSpec.ofChange harnessCountedSpec)) harnessCountedCard

/-- THE TIED CARD OF 'skewbaldlaw10.HarnessCount'. -/
def harnessCountCard : Claim7 := { stood := { row := harnessCountRow, standIns := [], harness := (true, "37ed63dde1cec494fe0447245e6e639e9c195fb0d1a4975922d33755cf32f48a"), looks := false }, kinds := [], alts := [], laidByText := true, laidKinds := [.funcs, .data, .funcs], laidTests := true, laidLooks := .later }
def HarnessCountCardSaid : Prop := Claim7.holds Tryd.pinned (.plain (OpenSpec.ofChange harnessCountSpec)) harnessCountCard

/-- THE TIED CARD OF 'skewbaldlaw10.HarnessQueue'. -/
def harnessQueueCard : Claim7 := { stood := { row := harnessQueueRow, standIns := [], harness := (true, "37ed63dde1cec494fe0447245e6e639e9c195fb0d1a4975922d33755cf32f48a"), looks := false }, kinds := [], alts := [], laidByText := true, laidKinds := [.funcs, .data, .funcs], laidTests := true, laidLooks := .later }
def HarnessQueueCardSaid : Prop := Claim7.holds Tryd.pinned (.plain (OpenSpec.ofChange harnessQueueSpec)) harnessQueueCard

/-- THE TIED CARD OF 'skewbaldlaw10.HarnessPack'. -/
def harnessPackCard : Claim7 := { stood := { row := harnessPackRow, standIns := [], harness := (true, "37ed63dde1cec494fe0447245e6e639e9c195fb0d1a4975922d33755cf32f48a"), looks := false }, kinds := [], alts := [], laidByText := true, laidKinds := [.funcs, .data, .funcs], laidTests := true, laidLooks := .later }
def HarnessPackCardSaid : Prop := Claim7.holds Tryd.pinned (.plain (OpenSpec.ofChange harnessPackSpec)) harnessPackCard

/-- THE TIED CARD OF 'skewbaldlaw10.HarnessKnown'. -/
def harnessKnownCard : Claim7 := { stood := { row := harnessKnownRow, standIns := [], harness := (true, "37ed63dde1cec494fe0447245e6e639e9c195fb0d1a4975922d33755cf32f48a"), looks := false }, kinds := [], alts := [], laidByText := true, laidKinds := [.funcs, .data, .funcs], laidTests := true, laidLooks := .later }
def HarnessKnownCardSaid : Prop := Claim7.holds Tryd.pinned (.plain (OpenSpec.ofChange harnessKnownSpec)) harnessKnownCard

/-- THE SECOND FORM's CARD OF 'skewbaldlaw10.HarnessDays'. -/
def harnessDaysUptoCard : Claim7 := { stood := { row := harnessDaysUptoRow, standIns := [], harness := (true, "37ed63dde1cec494fe0447245e6e639e9c195fb0d1a4975922d33755cf32f48a"), looks := false }, kinds := [], alts := [], laidByText := true, laidKinds := [.funcs, .data, .funcs], laidTests := true, laidLooks := .later }
def HarnessDaysUptoCardSaid : Prop := Claim7.holds Tryd.pinned (.plain (OpenSpec.upto harnessDaysSpec)) harnessDaysUptoCard

/-- THE SECOND FORM's CARD OF 'skewbaldlaw10.HarnessOrders'. -/
def harnessOrdersUptoCard : Claim7 := { stood := { row := harnessOrdersUptoRow, standIns := [], harness := (true, "37ed63dde1cec494fe0447245e6e639e9c195fb0d1a4975922d33755cf32f48a"), looks := false }, kinds := [], alts := [], laidByText := true, laidKinds := [.funcs, .data, .funcs], laidTests := true, laidLooks := .later }
def HarnessOrdersUptoCardSaid : Prop := Claim7.holds Tryd.pinned (.plain (OpenSpec.upto harnessOrdersSpec)) harnessOrdersUptoCard

/-- THE SECOND FORM's CARD OF 'skewbaldlaw10.HarnessCounts'. -/
def harnessCountsUptoCard : Claim7 := { stood := { row := harnessCountsUptoRow, standIns := [], harness := (true, "37ed63dde1cec494fe0447245e6e639e9c195fb0d1a4975922d33755cf32f48a"), looks := false }, kinds := [], alts := [], laidByText := true, laidKinds := [.funcs, .data, .funcs], laidTests := true, laidLooks := .later }
def HarnessCountsUptoCardSaid : Prop := Claim7.holds Tryd.pinned (.plain (OpenSpec.upto harnessCountsSpec)) harnessCountsUptoCard

/-- THE SECOND FORM's CARD OF 'skewbaldlaw10.HarnessTrue'. -/
def harnessTrueUptoCard : Claim7 := { stood := { row := harnessTrueUptoRow, standIns := [], harness := (true, "37ed63dde1cec494fe0447245e6e639e9c195fb0d1a4975922d33755cf32f48a"), looks := false }, kinds := [], alts := [], laidByText := true, laidKinds := [.funcs, .data, .funcs], laidTests := true, laidLooks := .later }
def HarnessTrueUptoCardSaid : Prop := Claim7.holds Tryd.pinned (.plain (OpenSpec.upto harnessTrueSpec)) harnessTrueUptoCard

/-- THE SECOND FORM's CARD OF 'skewbaldlaw10.HarnessOrder'. -/
def harnessOrderUptoCard : Claim7 := { stood := { row := harnessOrderUptoRow, standIns := [], harness := (true, "37ed63dde1cec494fe0447245e6e639e9c195fb0d1a4975922d33755cf32f48a"), looks := false }, kinds := [], alts := [], laidByText := true, laidKinds := [.funcs, .data, .funcs], laidTests := true, laidLooks := .later }
def HarnessOrderUptoCardSaid : Prop := Claim7.holds Tryd.pinned (.plain (OpenSpec.upto harnessOrderSpec)) harnessOrderUptoCard

/-- THE SECOND FORM's CARD OF 'skewbaldlaw10.HarnessOver'. -/
def harnessOverUptoCard : Claim7 := { stood := { row := harnessOverUptoRow, standIns := [], harness := (true, "37ed63dde1cec494fe0447245e6e639e9c195fb0d1a4975922d33755cf32f48a"), looks := false }, kinds := [], alts := [], laidByText := true, laidKinds := [.funcs, .data, .funcs], laidTests := true, laidLooks := .later }
def HarnessOverUptoCardSaid : Prop := Claim7.holds Tryd.pinned (.plain (OpenSpec.upto harnessOverSpec)) harnessOverUptoCard

/-- THE SECOND FORM's CARD OF 'skewbaldlaw10.HarnessHair'. -/
def harnessHairUptoCard : Claim7 := { stood := { row := harnessHairUptoRow, standIns := [], harness := (true, "37ed63dde1cec494fe0447245e6e639e9c195fb0d1a4975922d33755cf32f48a"), looks := false }, kinds := [], alts := [], laidByText := true, laidKinds := [.funcs, .data, .funcs], laidTests := true, laidLooks := .later }
def HarnessHairUptoCardSaid : Prop := Claim7.holds Tryd.pinned (.plain (OpenSpec.upto harnessHairSpec)) harnessHairUptoCard

/-- THE SECOND FORM's CARD OF 'skewbaldlaw10.HarnessCounted'. -/
def harnessCountedUptoCard : Claim7 := { stood := { row := harnessCountedUptoRow, standIns := [], harness := (true, "37ed63dde1cec494fe0447245e6e639e9c195fb0d1a4975922d33755cf32f48a"), looks := false }, kinds := [], alts := [], laidByText := true, laidKinds := [.funcs, .data, .funcs], laidTests := true, laidLooks := .later }
def HarnessCountedUptoCardSaid : Prop := Claim7.holds Tryd.pinned (.plain (OpenSpec.upto harnessCountedSpec)) harnessCountedUptoCard

/-- THE SECOND FORM's CARD OF 'skewbaldlaw10.HarnessCount'. -/
def harnessCountUptoCard : Claim7 := { stood := { row := harnessCountUptoRow, standIns := [], harness := (true, "37ed63dde1cec494fe0447245e6e639e9c195fb0d1a4975922d33755cf32f48a"), looks := false }, kinds := [], alts := [], laidByText := true, laidKinds := [.funcs, .data, .funcs], laidTests := true, laidLooks := .later }
def HarnessCountUptoCardSaid : Prop := Claim7.holds Tryd.pinned (.plain (OpenSpec.upto harnessCountSpec)) harnessCountUptoCard

/-- THE SECOND FORM's CARD OF 'skewbaldlaw10.HarnessQueue'. -/
def harnessQueueUptoCard : Claim7 := { stood := { row := harnessQueueUptoRow, standIns := [], harness := (true, "37ed63dde1cec494fe0447245e6e639e9c195fb0d1a4975922d33755cf32f48a"), looks := false }, kinds := [], alts := [], laidByText := true, laidKinds := [.funcs, .data, .funcs], laidTests := true, laidLooks := .later }
def HarnessQueueUptoCardSaid : Prop := Claim7.holds Tryd.pinned (.plain (OpenSpec.upto harnessQueueSpec)) harnessQueueUptoCard

/-- THE SECOND FORM's CARD OF 'skewbaldlaw10.HarnessPack'. -/
def harnessPackUptoCard : Claim7 := { stood := { row := harnessPackUptoRow, standIns := [], harness := (true, "37ed63dde1cec494fe0447245e6e639e9c195fb0d1a4975922d33755cf32f48a"), looks := false }, kinds := [], alts := [], laidByText := true, laidKinds := [.funcs, .data, .funcs], laidTests := true, laidLooks := .later }
def HarnessPackUptoCardSaid : Prop := Claim7.holds Tryd.pinned (.plain (OpenSpec.upto harnessPackSpec)) harnessPackUptoCard

/-- THE SECOND FORM's CARD OF 'skewbaldlaw10.HarnessKnown'. -/
def harnessKnownUptoCard : Claim7 := { stood := { row := harnessKnownUptoRow, standIns := [], harness := (true, "37ed63dde1cec494fe0447245e6e639e9c195fb0d1a4975922d33755cf32f48a"), looks := false }, kinds := [], alts := [], laidByText := true, laidKinds := [.funcs, .data, .funcs], laidTests := true, laidLooks := .later }
def HarnessKnownUptoCardSaid : Prop := Claim7.holds Tryd.pinned (.plain (OpenSpec.upto harnessKnownSpec)) harnessKnownUptoCard
end Rows
end Go.Proofs.YtjooihelppcfkaaDoor
