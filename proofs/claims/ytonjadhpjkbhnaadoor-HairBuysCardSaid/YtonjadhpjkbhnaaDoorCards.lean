/-
  DERIVED. GIVEN WITH THE SEED: THE CARDS: each row of YtonjadhpjkbhnaaDoorRows.lean that lists a variable, with what it lists TIED to the program's text (the seventh form; the later family's looks); each row that meets fmt, with fmt's text TOLD by the authors' own Lean function (tested against real Go, not proved from fmt's source: count such statements apart). THE CARD IS WHAT COUNTS. Prove the row's statement (the work); the ties are given (YtonjadhpjkbhnaaDoorTie.lean); close each card by the builder's one call (the guide's Derived/Test/ToyasCard.lean, 'card_holds'). Laid BY PROGRAM, IN A SANDBOX (cutbox-door.mjs). By AI agents, Wed Nov 11 2026. No macro, syntax, notation, axiom, sorry.
-/
import Derived.Test.YtonjadhpjkbhnaaDoorRows
import GoSem.ClaimSeven
namespace Go.Proofs.YtonjadhpjkbhnaaDoor
namespace Rows

/-- THE TIED CARD OF 'skewbaldlaw06.HairPlans'. -/
def hairPlansCard : Claim7 := { stood := { row := hairPlansRow, standIns := [], harness := (true, "9c2dbabb07bb68e5d23d81747db69412ec56aa81426525fcc5b93dd5d6ddbe02"), looks := false }, kinds := [], alts := [], laidByText := true, laidKinds := [.funcs], laidTests := true, laidLooks := .later }
def HairPlansCardSaid : Prop := Claim7.holds Tryd.pinned (.plain (OpenSpec.ofChange hairPlansSpec)) hairPlansCard

/-- THE TIED CARD OF 'skewbaldlaw06.HairBests'. -/
def hairBestsCard : Claim7 := { stood := { row := hairBestsRow, standIns := [], harness := (true, "9c2dbabb07bb68e5d23d81747db69412ec56aa81426525fcc5b93dd5d6ddbe02"), looks := false }, kinds := [], alts := [], laidByText := true, laidKinds := [.funcs], laidTests := true, laidLooks := .later }
def HairBestsCardSaid : Prop := Claim7.holds Tryd.pinned (.plain (OpenSpec.ofChange hairBestsSpec)) hairBestsCard

/-- THE TIED CARD OF 'skewbaldlaw06.HairBuys'. -/
def hairBuysCard : Claim7 := { stood := { row := hairBuysRow, standIns := [], harness := (true, "9c2dbabb07bb68e5d23d81747db69412ec56aa81426525fcc5b93dd5d6ddbe02"), looks := false }, kinds := [], alts := [], laidByText := true, laidKinds := [.funcs], laidTests := true, laidLooks := .later }
def HairBuysCardSaid : Prop := Claim7.holds Tryd.pinned (.plain (OpenSpec.ofChange hairBuysSpec)) hairBuysCard

/-- THE TIED CARD OF 'skewbaldlaw06.HairTrue'. -/
def hairTrueCard : Claim7 := { stood := { row := hairTrueRow, standIns := [], harness := (true, "9c2dbabb07bb68e5d23d81747db69412ec56aa81426525fcc5b93dd5d6ddbe02"), looks := false }, kinds := [], alts := [], laidByText := true, laidKinds := [.funcs], laidTests := true, laidLooks := .later }
def HairTrueCardSaid : Prop := Claim7.holds Tryd.pinned (.plain (OpenSpec.ofChange hairTrueSpec)) hairTrueCard

/-- THE TIED CARD OF 'skewbaldlaw06.HairOff'. -/
def hairOffCard : Claim7 := { stood := { row := hairOffRow, standIns := [], harness := (true, "9c2dbabb07bb68e5d23d81747db69412ec56aa81426525fcc5b93dd5d6ddbe02"), looks := false }, kinds := [], alts := [], laidByText := true, laidKinds := [.funcs], laidTests := true, laidLooks := .later }
def HairOffCardSaid : Prop := Claim7.holds Tryd.pinned (.plain (OpenSpec.ofChange hairOffSpec)) hairOffCard

/-- THE TIED CARD OF 'skewbaldlaw06.HairBest'. -/
def hairBestCard : Claim7 := { stood := { row := hairBestRow, standIns := [], harness := (true, "9c2dbabb07bb68e5d23d81747db69412ec56aa81426525fcc5b93dd5d6ddbe02"), looks := false }, kinds := [], alts := [], laidByText := true, laidKinds := [.funcs], laidTests := true, laidLooks := .later }
def HairBestCardSaid : Prop := Claim7.holds Tryd.pinned (.plain (OpenSpec.ofChange hairBestSpec)) hairBestCard

/-- THE TIED CARD OF 'skewbaldlaw06.HairLacks'. -/
def hairLacksCard : Claim7 := { stood := { row := hairLacksRow, standIns := [], harness := (true, "9c2dbabb07bb68e5d23d81747db69412ec56aa81426525fcc5b93dd5d6ddbe02"), looks := false }, kinds := [], alts := [], laidByText := true, laidKinds := [.funcs], laidTests := true, laidLooks := .later }
def HairLacksCardSaid : Prop := Claim7.holds Tryd.pinned (.plain (OpenSpec.ofChange hairLacksSpec)) hairLacksCard

/-- THE TIED CARD OF 'skewbaldlaw06.HairBuy'. -/
def hairBuyCard : Claim7 := { stood := { row := hairBuyRow, standIns := [], harness := (true, "9c2dbabb07bb68e5d23d81747db69412ec56aa81426525fcc5b93dd5d6ddbe02"), looks := false }, kinds := [], alts := [], laidByText := true, laidKinds := [.funcs], laidTests := true, laidLooks := .later }
def HairBuyCardSaid : Prop := Claim7.holds Tryd.pinned (.plain (OpenSpec.ofChange hairBuySpec)) hairBuyCard

/-- THE TIED CARD OF 'skewbaldlaw06.HairMore'. -/
def hairMoreCard : Claim7 := { stood := { row := hairMoreRow, standIns := [], harness := (true, "9c2dbabb07bb68e5d23d81747db69412ec56aa81426525fcc5b93dd5d6ddbe02"), looks := false }, kinds := [], alts := [], laidByText := true, laidKinds := [.funcs], laidTests := true, laidLooks := .later }
def HairMoreCardSaid : Prop := Claim7.holds Tryd.pinned (.plain (OpenSpec.ofChange hairMoreSpec)) hairMoreCard

/-- THE TIED CARD OF 'skewbaldlaw06.HairSame'. -/
def hairSameCard : Claim7 := { stood := { row := hairSameRow, standIns := [], harness := (true, "9c2dbabb07bb68e5d23d81747db69412ec56aa81426525fcc5b93dd5d6ddbe02"), looks := false }, kinds := [], alts := [], laidByText := true, laidKinds := [.funcs], laidTests := true, laidLooks := .later }
def HairSameCardSaid : Prop := Claim7.holds Tryd.pinned (.plain (OpenSpec.ofChange hairSameSpec)) hairSameCard

/-- THE TIED CARD OF 'skewbaldlaw06.HairEither'. -/
def hairEitherCard : Claim7 := { stood := { row := hairEitherRow, standIns := [], harness := (true, "9c2dbabb07bb68e5d23d81747db69412ec56aa81426525fcc5b93dd5d6ddbe02"), looks := false }, kinds := [], alts := [], laidByText := true, laidKinds := [.funcs], laidTests := true, laidLooks := .later }
def HairEitherCardSaid : Prop := Claim7.holds Tryd.pinned (.plain (OpenSpec.ofChange hairEitherSpec)) hairEitherCard

/-- THE TIED CARD OF 'skewbaldlaw06.HairKnown'. -/
def hairKnownCard : Claim7 := { stood := { row := hairKnownRow, standIns := [], harness := (true, "9c2dbabb07bb68e5d23d81747db69412ec56aa81426525fcc5b93dd5d6ddbe02"), looks := false }, kinds := [], alts := [], laidByText := true, laidKinds := [.funcs], laidTests := true, laidLooks := .later }
def HairKnownCardSaid : Prop := Claim7.holds Tryd.pinned (.plain (OpenSpec.ofChange hairKnownSpec)) hairKnownCard

/-- THE SECOND FORM's CARD OF 'skewbaldlaw06.HairPlans'. -/
def hairPlansUptoCard : Claim7 := { stood := { row := hairPlansUptoRow, standIns := [], harness := (true, "9c2dbabb07bb68e5d23d81747db69412ec56aa81426525fcc5b93dd5d6ddbe02"), looks := false }, kinds := [], alts := [], laidByText := true, laidKinds := [.funcs], laidTests := true, laidLooks := .later }
def HairPlansUptoCardSaid : Prop := Claim7.holds Tryd.pinned (.plain (OpenSpec.upto hairPlansSpec)) hairPlansUptoCard

/-- THE SECOND FORM's CARD OF 'skewbaldlaw06.HairBests'. -/
def hairBestsUptoCard : Claim7 := { stood := { row := hairBestsUptoRow, standIns := [], harness := (true, "9c2dbabb07bb68e5d23d81747db69412ec56aa81426525fcc5b93dd5d6ddbe02"), looks := false }, kinds := [], alts := [], laidByText := true, laidKinds := [.funcs], laidTests := true, laidLooks := .later }
def HairBestsUptoCardSaid : Prop := Claim7.holds Tryd.pinned (.plain (OpenSpec.upto hairBestsSpec)) hairBestsUptoCard

/-- THE SECOND FORM's CARD OF 'skewbaldlaw06.HairBuys'. -/
def hairBuysUptoCard : Claim7 := { stood := { row := hairBuysUptoRow, standIns := [], harness := (true, "9c2dbabb07bb68e5d23d81747db69412ec56aa81426525fcc5b93dd5d6ddbe02"), looks := false }, kinds := [], alts := [], laidByText := true, laidKinds := [.funcs], laidTests := true, laidLooks := .later }
def HairBuysUptoCardSaid : Prop := Claim7.holds Tryd.pinned (.plain (OpenSpec.upto hairBuysSpec)) hairBuysUptoCard

/-- THE SECOND FORM's CARD OF 'skewbaldlaw06.HairTrue'. -/
def hairTrueUptoCard : Claim7 := { stood := { row := hairTrueUptoRow, standIns := [], harness := (true, "9c2dbabb07bb68e5d23d81747db69412ec56aa81426525fcc5b93dd5d6ddbe02"), looks := false }, kinds := [], alts := [], laidByText := true, laidKinds := [.funcs], laidTests := true, laidLooks := .later }
def HairTrueUptoCardSaid : Prop := Claim7.holds Tryd.pinned (.plain (OpenSpec.upto hairTrueSpec)) hairTrueUptoCard

/-- THE SECOND FORM's CARD OF 'skewbaldlaw06.HairOff'. -/
def hairOffUptoCard : Claim7 := { stood := { row := hairOffUptoRow, standIns := [], harness := (true, "9c2dbabb07bb68e5d23d81747db69412ec56aa81426525fcc5b93dd5d6ddbe02"), looks := false }, kinds := [], alts := [], laidByText := true, laidKinds := [.funcs], laidTests := true, laidLooks := .later }
def HairOffUptoCardSaid : Prop := Claim7.holds Tryd.pinned (.plain (OpenSpec.upto hairOffSpec)) hairOffUptoCard

/-- THE SECOND FORM's CARD OF 'skewbaldlaw06.HairBest'. -/
def hairBestUptoCard : Claim7 := { stood := { row := hairBestUptoRow, standIns := [], harness := (true, "9c2dbabb07bb68e5d23d81747db69412ec56aa81426525fcc5b93dd5d6ddbe02"), looks := false }, kinds := [], alts := [], laidByText := true, laidKinds := [.funcs], laidTests := true, laidLooks := .later }
def HairBestUptoCardSaid : Prop := Claim7.holds Tryd.pinned (.plain (OpenSpec.upto hairBestSpec)) hairBestUptoCard

/-- THE SECOND FORM's CARD OF 'skewbaldlaw06.HairLacks'. -/
def hairLacksUptoCard : Claim7 := { stood := { row := hairLacksUptoRow, standIns := [], harness := (true, "9c2dbabb07bb68e5d23d81747db69412ec56aa81426525fcc5b93dd5d6ddbe02"), looks := false }, kinds := [], alts := [], laidByText := true, laidKinds := [.funcs], laidTests := true, laidLooks := .later }
def HairLacksUptoCardSaid : Prop := Claim7.holds Tryd.pinned (.plain (OpenSpec.upto hairLacksSpec)) hairLacksUptoCard

/-- THE SECOND FORM's CARD OF 'skewbaldlaw06.HairBuy'. -/
def hairBuyUptoCard : Claim7 := { stood := { row := hairBuyUptoRow, standIns := [], harness := (true, "9c2dbabb07bb68e5d23d81747db69412ec56aa81426525fcc5b93dd5d6ddbe02"), looks := false }, kinds := [], alts := [], laidByText := true, laidKinds := [.funcs], laidTests := true, laidLooks := .later }
def HairBuyUptoCardSaid : Prop := Claim7.holds Tryd.pinned (.plain (OpenSpec.upto hairBuySpec)) hairBuyUptoCard

/-- THE SECOND FORM's CARD OF 'skewbaldlaw06.HairMore'. -/
def hairMoreUptoCard : Claim7 := { stood := { row := hairMoreUptoRow, standIns := [], harness := (true, "9c2dbabb07bb68e5d23d81747db69412ec56aa81426525fcc5b93dd5d6ddbe02"), looks := false }, kinds := [], alts := [], laidByText := true, laidKinds := [.funcs], laidTests := true, laidLooks := .later }
def HairMoreUptoCardSaid : Prop := Claim7.holds Tryd.pinned (.plain (OpenSpec.upto hairMoreSpec)) hairMoreUptoCard

/-- THE SECOND FORM's CARD OF 'skewbaldlaw06.HairSame'. -/
def hairSameUptoCard : Claim7 := { stood := { row := hairSameUptoRow, standIns := [], harness := (true, "9c2dbabb07bb68e5d23d81747db69412ec56aa81426525fcc5b93dd5d6ddbe02"), looks := false }, kinds := [], alts := [], laidByText := true, laidKinds := [.funcs], laidTests := true, laidLooks := .later }
def HairSameUptoCardSaid : Prop := Claim7.holds Tryd.pinned (.plain (OpenSpec.upto hairSameSpec)) hairSameUptoCard

/-- THE SECOND FORM's CARD OF 'skewbaldlaw06.HairEither'. -/
def hairEitherUptoCard : Claim7 := { stood := { row := hairEitherUptoRow, standIns := [], harness := (true, "9c2dbabb07bb68e5d23d81747db69412ec56aa81426525fcc5b93dd5d6ddbe02"), looks := false }, kinds := [], alts := [], laidByText := true, laidKinds := [.funcs], laidTests := true, laidLooks := .later }
def HairEitherUptoCardSaid : Prop := Claim7.holds Tryd.pinned (.plain (OpenSpec.upto hairEitherSpec)) hairEitherUptoCard

/-- THE SECOND FORM's CARD OF 'skewbaldlaw06.HairKnown'. -/
def hairKnownUptoCard : Claim7 := { stood := { row := hairKnownUptoRow, standIns := [], harness := (true, "9c2dbabb07bb68e5d23d81747db69412ec56aa81426525fcc5b93dd5d6ddbe02"), looks := false }, kinds := [], alts := [], laidByText := true, laidKinds := [.funcs], laidTests := true, laidLooks := .later }
def HairKnownUptoCardSaid : Prop := Claim7.holds Tryd.pinned (.plain (OpenSpec.upto hairKnownSpec)) hairKnownUptoCard
end Rows
end Go.Proofs.YtonjadhpjkbhnaaDoor
