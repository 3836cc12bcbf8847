/-
  DERIVED. GIVEN WITH THE SEED: THE CARDS: each row of YtibenpfnlajakaaDoorRows.lean that lists a variable, with what it lists TIED to the program's text (the seventh form; the later family's looks); each row that meets fmt, with fmt's text TOLD by the authors' own Lean function (tested against real Go, not proved from fmt's source: count such statements apart). THE CARD IS WHAT COUNTS. Prove the row's statement (the work); the ties are given (YtibenpfnlajakaaDoorTie.lean); close each card by the builder's one call (the guide's Derived/Test/ToyasCard.lean, 'card_holds'). Laid BY PROGRAM, IN A SANDBOX (cutbox-door.mjs). By AI agents, Wed Nov 11 2026. No macro, syntax, notation, axiom, sorry.
-/
import Derived.Test.YtibenpfnlajakaaDoorRows
import GoSem.ClaimSeven
namespace Go.Proofs.YtibenpfnlajakaaDoor
namespace Rows

/-- THE TIED CARD OF 'skewbaldlaw02.StandTips'. -/
def standTipsCard : Claim7 := { stood := { row := standTipsRow, standIns := [], harness := (true, "148e3555867fb134c3b78012a758e3d184341309d35a33e06f3ae5b2b2fc25ee"), looks := false }, kinds := [], alts := [], laidByText := true, laidKinds := [.funcs], laidTests := true, laidLooks := .later }
def StandTipsCardSaid : Prop := Claim7.holds Tryd.pinned (.plain (OpenSpec.ofChange standTipsSpec)) standTipsCard

/-- THE TIED CARD OF 'skewbaldlaw02.StandSafes'. -/
def standSafesCard : Claim7 := { stood := { row := standSafesRow, standIns := [], harness := (true, "148e3555867fb134c3b78012a758e3d184341309d35a33e06f3ae5b2b2fc25ee"), looks := false }, kinds := [], alts := [], laidByText := true, laidKinds := [.funcs], laidTests := true, laidLooks := .later }
def StandSafesCardSaid : Prop := Claim7.holds Tryd.pinned (.plain (OpenSpec.ofChange standSafesSpec)) standSafesCard

/-- THE TIED CARD OF 'skewbaldlaw02.StandWiders'. -/
def standWidersCard : Claim7 := { stood := { row := standWidersRow, standIns := [], harness := (true, "148e3555867fb134c3b78012a758e3d184341309d35a33e06f3ae5b2b2fc25ee"), looks := false }, kinds := [], alts := [], laidByText := true, laidKinds := [.funcs], laidTests := true, laidLooks := .later }
def StandWidersCardSaid : Prop := Claim7.holds Tryd.pinned (.plain (OpenSpec.ofChange standWidersSpec)) standWidersCard

/-- THE TIED CARD OF 'skewbaldlaw02.StandTrue'. -/
def standTrueCard : Claim7 := { stood := { row := standTrueRow, standIns := [], harness := (true, "148e3555867fb134c3b78012a758e3d184341309d35a33e06f3ae5b2b2fc25ee"), looks := false }, kinds := [], alts := [], laidByText := true, laidKinds := [.funcs], laidTests := true, laidLooks := .later }
def StandTrueCardSaid : Prop := Claim7.holds Tryd.pinned (.plain (OpenSpec.ofChange standTrueSpec)) standTrueCard

/-- THE TIED CARD OF 'skewbaldlaw02.StandLeast'. -/
def standLeastCard : Claim7 := { stood := { row := standLeastRow, standIns := [], harness := (true, "148e3555867fb134c3b78012a758e3d184341309d35a33e06f3ae5b2b2fc25ee"), looks := false }, kinds := [], alts := [], laidByText := true, laidKinds := [.funcs], laidTests := true, laidLooks := .later }
def StandLeastCardSaid : Prop := Claim7.holds Tryd.pinned (.plain (OpenSpec.ofChange standLeastSpec)) standLeastCard

/-- THE TIED CARD OF 'skewbaldlaw02.StandSign'. -/
def standSignCard : Claim7 := { stood := { row := standSignRow, standIns := [], harness := (true, "148e3555867fb134c3b78012a758e3d184341309d35a33e06f3ae5b2b2fc25ee"), looks := false }, kinds := [], alts := [], laidByText := true, laidKinds := [.funcs], laidTests := true, laidLooks := .later }
def StandSignCardSaid : Prop := Claim7.holds Tryd.pinned (.plain (OpenSpec.ofChange standSignSpec)) standSignCard

/-- THE TIED CARD OF 'skewbaldlaw02.StandTurned'. -/
def standTurnedCard : Claim7 := { stood := { row := standTurnedRow, standIns := [], harness := (true, "148e3555867fb134c3b78012a758e3d184341309d35a33e06f3ae5b2b2fc25ee"), looks := false }, kinds := [], alts := [], laidByText := true, laidKinds := [.funcs], laidTests := true, laidLooks := .later }
def StandTurnedCardSaid : Prop := Claim7.holds Tryd.pinned (.plain (OpenSpec.ofChange standTurnedSpec)) standTurnedCard

/-- THE TIED CARD OF 'skewbaldlaw02.StandMore'. -/
def standMoreCard : Claim7 := { stood := { row := standMoreRow, standIns := [], harness := (true, "148e3555867fb134c3b78012a758e3d184341309d35a33e06f3ae5b2b2fc25ee"), looks := false }, kinds := [], alts := [], laidByText := true, laidKinds := [.funcs], laidTests := true, laidLooks := .later }
def StandMoreCardSaid : Prop := Claim7.holds Tryd.pinned (.plain (OpenSpec.ofChange standMoreSpec)) standMoreCard

/-- THE TIED CARD OF 'skewbaldlaw02.StandLead'. -/
def standLeadCard : Claim7 := { stood := { row := standLeadRow, standIns := [], harness := (true, "148e3555867fb134c3b78012a758e3d184341309d35a33e06f3ae5b2b2fc25ee"), looks := false }, kinds := [], alts := [], laidByText := true, laidKinds := [.funcs], laidTests := true, laidLooks := .later }
def StandLeadCardSaid : Prop := Claim7.holds Tryd.pinned (.plain (OpenSpec.ofChange standLeadSpec)) standLeadCard

/-- THE TIED CARD OF 'skewbaldlaw02.StandWider'. -/
def standWiderCard : Claim7 := { stood := { row := standWiderRow, standIns := [], harness := (true, "148e3555867fb134c3b78012a758e3d184341309d35a33e06f3ae5b2b2fc25ee"), looks := false }, kinds := [], alts := [], laidByText := true, laidKinds := [.funcs], laidTests := true, laidLooks := .later }
def StandWiderCardSaid : Prop := Claim7.holds Tryd.pinned (.plain (OpenSpec.ofChange standWiderSpec)) standWiderCard

/-- THE TIED CARD OF 'skewbaldlaw02.StandRoom'. -/
def standRoomCard : Claim7 := { stood := { row := standRoomRow, standIns := [], harness := (true, "148e3555867fb134c3b78012a758e3d184341309d35a33e06f3ae5b2b2fc25ee"), looks := false }, kinds := [], alts := [], laidByText := true, laidKinds := [.funcs], laidTests := true, laidLooks := .later }
def StandRoomCardSaid : Prop := Claim7.holds Tryd.pinned (.plain (OpenSpec.ofChange standRoomSpec)) standRoomCard

/-- THE TIED CARD OF 'skewbaldlaw02.StandWrong'. -/
def standWrongCard : Claim7 := { stood := { row := standWrongRow, standIns := [], harness := (true, "148e3555867fb134c3b78012a758e3d184341309d35a33e06f3ae5b2b2fc25ee"), looks := false }, kinds := [], alts := [], laidByText := true, laidKinds := [.funcs], laidTests := true, laidLooks := .later }
def StandWrongCardSaid : Prop := Claim7.holds Tryd.pinned (.plain (OpenSpec.ofChange standWrongSpec)) standWrongCard

/-- THE TIED CARD OF 'skewbaldlaw02.StandKnown'. -/
def standKnownCard : Claim7 := { stood := { row := standKnownRow, standIns := [], harness := (true, "148e3555867fb134c3b78012a758e3d184341309d35a33e06f3ae5b2b2fc25ee"), looks := false }, kinds := [], alts := [], laidByText := true, laidKinds := [.funcs], laidTests := true, laidLooks := .later }
def StandKnownCardSaid : Prop := Claim7.holds Tryd.pinned (.plain (OpenSpec.ofChange standKnownSpec)) standKnownCard

/-- THE SECOND FORM's CARD OF 'skewbaldlaw02.StandTips'. -/
def standTipsUptoCard : Claim7 := { stood := { row := standTipsUptoRow, standIns := [], harness := (true, "148e3555867fb134c3b78012a758e3d184341309d35a33e06f3ae5b2b2fc25ee"), looks := false }, kinds := [], alts := [], laidByText := true, laidKinds := [.funcs], laidTests := true, laidLooks := .later }
def StandTipsUptoCardSaid : Prop := Claim7.holds Tryd.pinned (.plain (OpenSpec.upto standTipsSpec)) standTipsUptoCard

/-- THE SECOND FORM's CARD OF 'skewbaldlaw02.StandSafes'. -/
def standSafesUptoCard : Claim7 := { stood := { row := standSafesUptoRow, standIns := [], harness := (true, "148e3555867fb134c3b78012a758e3d184341309d35a33e06f3ae5b2b2fc25ee"), looks := false }, kinds := [], alts := [], laidByText := true, laidKinds := [.funcs], laidTests := true, laidLooks := .later }
def StandSafesUptoCardSaid : Prop := Claim7.holds Tryd.pinned (.plain (OpenSpec.upto standSafesSpec)) standSafesUptoCard

/-- THE SECOND FORM's CARD OF 'skewbaldlaw02.StandWiders'. -/
def standWidersUptoCard : Claim7 := { stood := { row := standWidersUptoRow, standIns := [], harness := (true, "148e3555867fb134c3b78012a758e3d184341309d35a33e06f3ae5b2b2fc25ee"), looks := false }, kinds := [], alts := [], laidByText := true, laidKinds := [.funcs], laidTests := true, laidLooks := .later }
def StandWidersUptoCardSaid : Prop := Claim7.holds Tryd.pinned (.plain (OpenSpec.upto standWidersSpec)) standWidersUptoCard

/-- THE SECOND FORM's CARD OF 'skewbaldlaw02.StandTrue'. -/
def standTrueUptoCard : Claim7 := { stood := { row := standTrueUptoRow, standIns := [], harness := (true, "148e3555867fb134c3b78012a758e3d184341309d35a33e06f3ae5b2b2fc25ee"), looks := false }, kinds := [], alts := [], laidByText := true, laidKinds := [.funcs], laidTests := true, laidLooks := .later }
def StandTrueUptoCardSaid : Prop := Claim7.holds Tryd.pinned (.plain (OpenSpec.upto standTrueSpec)) standTrueUptoCard

/-- THE SECOND FORM's CARD OF 'skewbaldlaw02.StandLeast'. -/
def standLeastUptoCard : Claim7 := { stood := { row := standLeastUptoRow, standIns := [], harness := (true, "148e3555867fb134c3b78012a758e3d184341309d35a33e06f3ae5b2b2fc25ee"), looks := false }, kinds := [], alts := [], laidByText := true, laidKinds := [.funcs], laidTests := true, laidLooks := .later }
def StandLeastUptoCardSaid : Prop := Claim7.holds Tryd.pinned (.plain (OpenSpec.upto standLeastSpec)) standLeastUptoCard

/-- THE SECOND FORM's CARD OF 'skewbaldlaw02.StandSign'. -/
def standSignUptoCard : Claim7 := { stood := { row := standSignUptoRow, standIns := [], harness := (true, "148e3555867fb134c3b78012a758e3d184341309d35a33e06f3ae5b2b2fc25ee"), looks := false }, kinds := [], alts := [], laidByText := true, laidKinds := [.funcs], laidTests := true, laidLooks := .later }
def StandSignUptoCardSaid : Prop := Claim7.holds Tryd.pinned (.plain (OpenSpec.upto standSignSpec)) standSignUptoCard

/-- THE SECOND FORM's CARD OF 'skewbaldlaw02.StandTurned'. -/
def standTurnedUptoCard : Claim7 := { stood := { row := standTurnedUptoRow, standIns := [], harness := (true, "148e3555867fb134c3b78012a758e3d184341309d35a33e06f3ae5b2b2fc25ee"), looks := false }, kinds := [], alts := [], laidByText := true, laidKinds := [.funcs], laidTests := true, laidLooks := .later }
def StandTurnedUptoCardSaid : Prop := Claim7.holds Tryd.pinned (.plain (OpenSpec.upto standTurnedSpec)) standTurnedUptoCard

/-- THE SECOND FORM's CARD OF 'skewbaldlaw02.StandMore'. -/
def standMoreUptoCard : Claim7 := { stood := { row := standMoreUptoRow, standIns := [], harness := (true, "148e3555867fb134c3b78012a758e3d184341309d35a33e06f3ae5b2b2fc25ee"), looks := false }, kinds := [], alts := [], laidByText := true, laidKinds := [.funcs], laidTests := true, laidLooks := .later }
def StandMoreUptoCardSaid : Prop := Claim7.holds Tryd.pinned (.plain (OpenSpec.upto standMoreSpec)) standMoreUptoCard

/-- THE SECOND FORM's CARD OF 'skewbaldlaw02.StandLead'. -/
def standLeadUptoCard : Claim7 := { stood := { row := standLeadUptoRow, standIns := [], harness := (true, "148e3555867fb134c3b78012a758e3d184341309d35a33e06f3ae5b2b2fc25ee"), looks := false }, kinds := [], alts := [], laidByText := true, laidKinds := [.funcs], laidTests := true, laidLooks := .later }
def StandLeadUptoCardSaid : Prop := Claim7.holds Tryd.pinned (.plain (OpenSpec.upto standLeadSpec)) standLeadUptoCard

/-- THE SECOND FORM's CARD OF 'skewbaldlaw02.StandWider'. -/
def standWiderUptoCard : Claim7 := { stood := { row := standWiderUptoRow, standIns := [], harness := (true, "148e3555867fb134c3b78012a758e3d184341309d35a33e06f3ae5b2b2fc25ee"), looks := false }, kinds := [], alts := [], laidByText := true, laidKinds := [.funcs], laidTests := true, laidLooks := .later }
def StandWiderUptoCardSaid : Prop := Claim7.holds Tryd.pinned (.plain (OpenSpec.upto standWiderSpec)) standWiderUptoCard

/-- THE SECOND FORM's CARD OF 'skewbaldlaw02.StandRoom'. -/
def standRoomUptoCard : Claim7 := { stood := { row := standRoomUptoRow, standIns := [], harness := (true, "148e3555867fb134c3b78012a758e3d184341309d35a33e06f3ae5b2b2fc25ee"), looks := false }, kinds := [], alts := [], laidByText := true, laidKinds := [.funcs], laidTests := true, laidLooks := .later }
def StandRoomUptoCardSaid : Prop := Claim7.holds Tryd.pinned (.plain (OpenSpec.upto standRoomSpec)) standRoomUptoCard

/-- THE SECOND FORM's CARD OF 'skewbaldlaw02.StandWrong'. -/
def standWrongUptoCard : Claim7 := { stood := { row := standWrongUptoRow, standIns := [], harness := (true, "148e3555867fb134c3b78012a758e3d184341309d35a33e06f3ae5b2b2fc25ee"), looks := false }, kinds := [], alts := [], laidByText := true, laidKinds := [.funcs], laidTests := true, laidLooks := .later }
def StandWrongUptoCardSaid : Prop := Claim7.holds Tryd.pinned (.plain (OpenSpec.upto standWrongSpec)) standWrongUptoCard

/-- THE SECOND FORM's CARD OF 'skewbaldlaw02.StandKnown'. -/
def standKnownUptoCard : Claim7 := { stood := { row := standKnownUptoRow, standIns := [], harness := (true, "148e3555867fb134c3b78012a758e3d184341309d35a33e06f3ae5b2b2fc25ee"), looks := false }, kinds := [], alts := [], laidByText := true, laidKinds := [.funcs], laidTests := true, laidLooks := .later }
def StandKnownUptoCardSaid : Prop := Claim7.holds Tryd.pinned (.plain (OpenSpec.upto standKnownSpec)) standKnownUptoCard
end Rows
end Go.Proofs.YtibenpfnlajakaaDoor
