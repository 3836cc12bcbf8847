/-
  NARROWER THAN 'FOR EVERY INPUT', by the rows' own cells (each row's printed sentence says how): HairPlans: laid · HairBests: laid · HairBuys: laid · HairTrue: laid · HairOff: laid · HairBest: laid · HairLacks: laid · HairBuy: laid · HairMore: laid · HairSame: laid · HairEither: laid · HairKnown: laid.
  DERIVED. THE GIVEN ROWS OF THIS SEAT. 12 by the template 'for every input the law returns true; each argument reads behind the call as it read before'; 0 by the template 'total and deterministic' (their statements: YtonjadhpjkbhnaaDoorTotals.lean).
  GIVEN WITH THE SEED: the statements are not yours to turn. If you find one false, say at which input.
  Laid BY PROGRAM, IN A SANDBOX (cutbox-rows.mjs): the forced cells as the released guide's own fill.sh prints them over the translation c0a151de148c2516… (all of the seat's roots in one cut). By AI agents, Wed Nov 11 2026. No macro, syntax, notation, axiom, sorry.
-/
import Derived.Test.YtonjadhpjkbhnaaDoorChecked
import GoSem.Claim
import GoSem.ClaimJoined
import GoSem.ClaimMapViews
import Derived.JoinedTies
import Derived.KernelRfl
namespace Go.Proofs.YtonjadhpjkbhnaaDoor
/- THE CELL 'sum', in the pinned program and in every row, IS THE sha256 OF THE DUMP (.gsa) THAT YtonjadhpjkbhnaaDoorProg.lean LOADS. Nothing in Lean hashes anything: it is a label: what it is worth is what the hold of that sum in a sandbox is worth. -/
noncomputable def Tryd.pinned : Pinned := { name := "ytonjadhpjkbhnaadoor", sum := "c0a151de148c2516de822fe17e7f219eb1319f5cf2037e70ea77ab9207616db8", checked := Tryd.checked }
namespace Rows
def none {H : Type} : Left H := { results := [], args := [] }

/- WHAT THE LISTED PACKAGE-LEVEL VARIABLES READ AS WHEN THE CALL BEGINS. Each datum BY PROGRAM (the guide's laid-datum.mjs) off the statement by which the dump's own 'gosem.cut.vars' lays the variable. In a bare row this is a premise. The card (YtonjadhpjkbhnaaDoorCards.lean) ties it to the program's text. -/
def laid_skewbald_hair_parts {H : Type} : DataW H := .iface "func table" (.agg [.iface "func" (.lit (.string [40, 115, 107, 101, 119, 98, 97, 108, 100, 47, 104, 97, 105, 114, 46, 104, 111, 114, 115, 101, 41, 46, 109, 97, 110, 101])), .iface "func" (.lit (.string [40, 115, 107, 101, 119, 98, 97, 108, 100, 47, 104, 97, 105, 114, 46, 104, 111, 114, 115, 101, 41, 46, 116, 97, 105, 108]))])

/-- 'skewbaldlaw06.HairPlans': WHATEVER THE INPUT: true; the input reads as it did. -/
def hairPlansSpec : ChangeSpec := { name := "hairPlans", fn := fun _ => fun
  | [d1, d2, d3] => { results := [.lit (.bool true)], args := [d1, d2, d3] }
  | _ => none }
def hairPlansRow : OpenClaim := { program := "ytonjadhpjkbhnaadoor", sum := "c0a151de148c2516de822fe17e7f219eb1319f5cf2037e70ea77ab9207616db8", func := "skewbald/skewbaldlaw06.HairPlans", spec := "hairPlans", unfollowed := true, recurses := true, named := ["skewbald/hair.parts"], plainKeys := false, apart := false, laid := [("skewbald/hair.parts", laid_skewbald_hair_parts)] }
def HairPlansSaid : Prop := hairPlansRow.holds Tryd.pinned (OpenSpec.ofChange hairPlansSpec)

/-- ITS FALSE NEIGHBOUR: 'it returns false'. Refute it at one input. -/
def hairPlansWrong : ChangeSpec := { name := "hairPlans", fn := fun _ => fun
  | [d1, d2, d3] => { results := [.lit (.bool false)], args := [d1, d2, d3] }
  | _ => none }
def HairPlansWrongFalsely : Prop := hairPlansRow.holds Tryd.pinned (OpenSpec.ofChange hairPlansWrong)

/-- 'skewbaldlaw06.HairBests': WHATEVER THE INPUT: true; the input reads as it did. -/
def hairBestsSpec : ChangeSpec := { name := "hairBests", fn := fun _ => fun
  | [d] => { results := [.lit (.bool true)], args := [d] }
  | _ => none }
def hairBestsRow : OpenClaim := { program := "ytonjadhpjkbhnaadoor", sum := "c0a151de148c2516de822fe17e7f219eb1319f5cf2037e70ea77ab9207616db8", func := "skewbald/skewbaldlaw06.HairBests", spec := "hairBests", unfollowed := true, recurses := true, named := ["skewbald/hair.parts"], plainKeys := false, apart := false, laid := [("skewbald/hair.parts", laid_skewbald_hair_parts)] }
def HairBestsSaid : Prop := hairBestsRow.holds Tryd.pinned (OpenSpec.ofChange hairBestsSpec)

/-- ITS FALSE NEIGHBOUR: 'it returns false'. Refute it at one input. -/
def hairBestsWrong : ChangeSpec := { name := "hairBests", fn := fun _ => fun
  | [d] => { results := [.lit (.bool false)], args := [d] }
  | _ => none }
def HairBestsWrongFalsely : Prop := hairBestsRow.holds Tryd.pinned (OpenSpec.ofChange hairBestsWrong)

/-- 'skewbaldlaw06.HairBuys': WHATEVER THE INPUT: true; the input reads as it did. -/
def hairBuysSpec : ChangeSpec := { name := "hairBuys", fn := fun _ => fun
  | [d1, d2] => { results := [.lit (.bool true)], args := [d1, d2] }
  | _ => none }
def hairBuysRow : OpenClaim := { program := "ytonjadhpjkbhnaadoor", sum := "c0a151de148c2516de822fe17e7f219eb1319f5cf2037e70ea77ab9207616db8", func := "skewbald/skewbaldlaw06.HairBuys", spec := "hairBuys", unfollowed := true, recurses := true, named := ["skewbald/hair.parts"], plainKeys := false, apart := false, laid := [("skewbald/hair.parts", laid_skewbald_hair_parts)] }
def HairBuysSaid : Prop := hairBuysRow.holds Tryd.pinned (OpenSpec.ofChange hairBuysSpec)

/-- ITS FALSE NEIGHBOUR: 'it returns false'. Refute it at one input. -/
def hairBuysWrong : ChangeSpec := { name := "hairBuys", fn := fun _ => fun
  | [d1, d2] => { results := [.lit (.bool false)], args := [d1, d2] }
  | _ => none }
def HairBuysWrongFalsely : Prop := hairBuysRow.holds Tryd.pinned (OpenSpec.ofChange hairBuysWrong)

/-- 'skewbaldlaw06.HairTrue': WHATEVER THE INPUT: true; the input reads as it did. -/
def hairTrueSpec : ChangeSpec := { name := "hairTrue", fn := fun _ => fun
  | [d1, d2, d3] => { results := [.lit (.bool true)], args := [d1, d2, d3] }
  | _ => none }
def hairTrueRow : OpenClaim := { program := "ytonjadhpjkbhnaadoor", sum := "c0a151de148c2516de822fe17e7f219eb1319f5cf2037e70ea77ab9207616db8", func := "skewbald/skewbaldlaw06.HairTrue", spec := "hairTrue", unfollowed := true, recurses := true, named := ["skewbald/hair.parts"], plainKeys := false, apart := false, laid := [("skewbald/hair.parts", laid_skewbald_hair_parts)] }
def HairTrueSaid : Prop := hairTrueRow.holds Tryd.pinned (OpenSpec.ofChange hairTrueSpec)

/-- ITS FALSE NEIGHBOUR: 'it returns false'. Refute it at one input. -/
def hairTrueWrong : ChangeSpec := { name := "hairTrue", fn := fun _ => fun
  | [d1, d2, d3] => { results := [.lit (.bool false)], args := [d1, d2, d3] }
  | _ => none }
def HairTrueWrongFalsely : Prop := hairTrueRow.holds Tryd.pinned (OpenSpec.ofChange hairTrueWrong)

/-- 'skewbaldlaw06.HairOff': WHATEVER THE INPUT: true; the input reads as it did. -/
def hairOffSpec : ChangeSpec := { name := "hairOff", fn := fun _ => fun
  | [d1, d2, d3] => { results := [.lit (.bool true)], args := [d1, d2, d3] }
  | _ => none }
def hairOffRow : OpenClaim := { program := "ytonjadhpjkbhnaadoor", sum := "c0a151de148c2516de822fe17e7f219eb1319f5cf2037e70ea77ab9207616db8", func := "skewbald/skewbaldlaw06.HairOff", spec := "hairOff", unfollowed := true, recurses := true, named := ["skewbald/hair.parts"], plainKeys := false, apart := false, laid := [("skewbald/hair.parts", laid_skewbald_hair_parts)] }
def HairOffSaid : Prop := hairOffRow.holds Tryd.pinned (OpenSpec.ofChange hairOffSpec)

/-- ITS FALSE NEIGHBOUR: 'it returns false'. Refute it at one input. -/
def hairOffWrong : ChangeSpec := { name := "hairOff", fn := fun _ => fun
  | [d1, d2, d3] => { results := [.lit (.bool false)], args := [d1, d2, d3] }
  | _ => none }
def HairOffWrongFalsely : Prop := hairOffRow.holds Tryd.pinned (OpenSpec.ofChange hairOffWrong)

/-- 'skewbaldlaw06.HairBest': WHATEVER THE INPUT: true; the input reads as it did. -/
def hairBestSpec : ChangeSpec := { name := "hairBest", fn := fun _ => fun
  | [d1, d2] => { results := [.lit (.bool true)], args := [d1, d2] }
  | _ => none }
def hairBestRow : OpenClaim := { program := "ytonjadhpjkbhnaadoor", sum := "c0a151de148c2516de822fe17e7f219eb1319f5cf2037e70ea77ab9207616db8", func := "skewbald/skewbaldlaw06.HairBest", spec := "hairBest", unfollowed := true, recurses := true, named := ["skewbald/hair.parts"], plainKeys := false, apart := false, laid := [("skewbald/hair.parts", laid_skewbald_hair_parts)] }
def HairBestSaid : Prop := hairBestRow.holds Tryd.pinned (OpenSpec.ofChange hairBestSpec)

/-- ITS FALSE NEIGHBOUR: 'it returns false'. Refute it at one input. -/
def hairBestWrong : ChangeSpec := { name := "hairBest", fn := fun _ => fun
  | [d1, d2] => { results := [.lit (.bool false)], args := [d1, d2] }
  | _ => none }
def HairBestWrongFalsely : Prop := hairBestRow.holds Tryd.pinned (OpenSpec.ofChange hairBestWrong)

/-- 'skewbaldlaw06.HairLacks': WHATEVER THE INPUT: true; the input reads as it did. -/
def hairLacksSpec : ChangeSpec := { name := "hairLacks", fn := fun _ => fun
  | [d1, d2] => { results := [.lit (.bool true)], args := [d1, d2] }
  | _ => none }
def hairLacksRow : OpenClaim := { program := "ytonjadhpjkbhnaadoor", sum := "c0a151de148c2516de822fe17e7f219eb1319f5cf2037e70ea77ab9207616db8", func := "skewbald/skewbaldlaw06.HairLacks", spec := "hairLacks", unfollowed := true, recurses := true, named := ["skewbald/hair.parts"], plainKeys := false, apart := false, laid := [("skewbald/hair.parts", laid_skewbald_hair_parts)] }
def HairLacksSaid : Prop := hairLacksRow.holds Tryd.pinned (OpenSpec.ofChange hairLacksSpec)

/-- ITS FALSE NEIGHBOUR: 'it returns false'. Refute it at one input. -/
def hairLacksWrong : ChangeSpec := { name := "hairLacks", fn := fun _ => fun
  | [d1, d2] => { results := [.lit (.bool false)], args := [d1, d2] }
  | _ => none }
def HairLacksWrongFalsely : Prop := hairLacksRow.holds Tryd.pinned (OpenSpec.ofChange hairLacksWrong)

/-- 'skewbaldlaw06.HairBuy': WHATEVER THE INPUT: true; the input reads as it did. -/
def hairBuySpec : ChangeSpec := { name := "hairBuy", fn := fun _ => fun
  | [d1, d2] => { results := [.lit (.bool true)], args := [d1, d2] }
  | _ => none }
def hairBuyRow : OpenClaim := { program := "ytonjadhpjkbhnaadoor", sum := "c0a151de148c2516de822fe17e7f219eb1319f5cf2037e70ea77ab9207616db8", func := "skewbald/skewbaldlaw06.HairBuy", spec := "hairBuy", unfollowed := true, recurses := true, named := ["skewbald/hair.parts"], plainKeys := false, apart := false, laid := [("skewbald/hair.parts", laid_skewbald_hair_parts)] }
def HairBuySaid : Prop := hairBuyRow.holds Tryd.pinned (OpenSpec.ofChange hairBuySpec)

/-- ITS FALSE NEIGHBOUR: 'it returns false'. Refute it at one input. -/
def hairBuyWrong : ChangeSpec := { name := "hairBuy", fn := fun _ => fun
  | [d1, d2] => { results := [.lit (.bool false)], args := [d1, d2] }
  | _ => none }
def HairBuyWrongFalsely : Prop := hairBuyRow.holds Tryd.pinned (OpenSpec.ofChange hairBuyWrong)

/-- 'skewbaldlaw06.HairMore': WHATEVER THE INPUT: true; the input reads as it did. -/
def hairMoreSpec : ChangeSpec := { name := "hairMore", fn := fun _ => fun
  | [d1, d2] => { results := [.lit (.bool true)], args := [d1, d2] }
  | _ => none }
def hairMoreRow : OpenClaim := { program := "ytonjadhpjkbhnaadoor", sum := "c0a151de148c2516de822fe17e7f219eb1319f5cf2037e70ea77ab9207616db8", func := "skewbald/skewbaldlaw06.HairMore", spec := "hairMore", unfollowed := true, recurses := true, named := ["skewbald/hair.parts"], plainKeys := false, apart := false, laid := [("skewbald/hair.parts", laid_skewbald_hair_parts)] }
def HairMoreSaid : Prop := hairMoreRow.holds Tryd.pinned (OpenSpec.ofChange hairMoreSpec)

/-- ITS FALSE NEIGHBOUR: 'it returns false'. Refute it at one input. -/
def hairMoreWrong : ChangeSpec := { name := "hairMore", fn := fun _ => fun
  | [d1, d2] => { results := [.lit (.bool false)], args := [d1, d2] }
  | _ => none }
def HairMoreWrongFalsely : Prop := hairMoreRow.holds Tryd.pinned (OpenSpec.ofChange hairMoreWrong)

/-- 'skewbaldlaw06.HairSame': WHATEVER THE INPUT: true; the input reads as it did. -/
def hairSameSpec : ChangeSpec := { name := "hairSame", fn := fun _ => fun
  | [d1, d2] => { results := [.lit (.bool true)], args := [d1, d2] }
  | _ => none }
def hairSameRow : OpenClaim := { program := "ytonjadhpjkbhnaadoor", sum := "c0a151de148c2516de822fe17e7f219eb1319f5cf2037e70ea77ab9207616db8", func := "skewbald/skewbaldlaw06.HairSame", spec := "hairSame", unfollowed := true, recurses := true, named := ["skewbald/hair.parts"], plainKeys := false, apart := false, laid := [("skewbald/hair.parts", laid_skewbald_hair_parts)] }
def HairSameSaid : Prop := hairSameRow.holds Tryd.pinned (OpenSpec.ofChange hairSameSpec)

/-- ITS FALSE NEIGHBOUR: 'it returns false'. Refute it at one input. -/
def hairSameWrong : ChangeSpec := { name := "hairSame", fn := fun _ => fun
  | [d1, d2] => { results := [.lit (.bool false)], args := [d1, d2] }
  | _ => none }
def HairSameWrongFalsely : Prop := hairSameRow.holds Tryd.pinned (OpenSpec.ofChange hairSameWrong)

/-- 'skewbaldlaw06.HairEither': WHATEVER THE INPUT: true; the input reads as it did. -/
def hairEitherSpec : ChangeSpec := { name := "hairEither", fn := fun _ => fun
  | [d1, d2] => { results := [.lit (.bool true)], args := [d1, d2] }
  | _ => none }
def hairEitherRow : OpenClaim := { program := "ytonjadhpjkbhnaadoor", sum := "c0a151de148c2516de822fe17e7f219eb1319f5cf2037e70ea77ab9207616db8", func := "skewbald/skewbaldlaw06.HairEither", spec := "hairEither", unfollowed := true, recurses := true, named := ["skewbald/hair.parts"], plainKeys := false, apart := false, laid := [("skewbald/hair.parts", laid_skewbald_hair_parts)] }
def HairEitherSaid : Prop := hairEitherRow.holds Tryd.pinned (OpenSpec.ofChange hairEitherSpec)

/-- ITS FALSE NEIGHBOUR: 'it returns false'. Refute it at one input. -/
def hairEitherWrong : ChangeSpec := { name := "hairEither", fn := fun _ => fun
  | [d1, d2] => { results := [.lit (.bool false)], args := [d1, d2] }
  | _ => none }
def HairEitherWrongFalsely : Prop := hairEitherRow.holds Tryd.pinned (OpenSpec.ofChange hairEitherWrong)

/-- 'skewbaldlaw06.HairKnown': WHATEVER THE INPUT: true; the input reads as it did. -/
def hairKnownSpec : ChangeSpec := { name := "hairKnown", fn := fun _ => fun
  | [] => { results := [.lit (.bool true)], args := [] }
  | _ => none }
def hairKnownRow : OpenClaim := { program := "ytonjadhpjkbhnaadoor", sum := "c0a151de148c2516de822fe17e7f219eb1319f5cf2037e70ea77ab9207616db8", func := "skewbald/skewbaldlaw06.HairKnown", spec := "hairKnown", unfollowed := true, recurses := true, named := ["skewbald/hair.parts"], plainKeys := false, apart := false, laid := [("skewbald/hair.parts", laid_skewbald_hair_parts)] }
def HairKnownSaid : Prop := hairKnownRow.holds Tryd.pinned (OpenSpec.ofChange hairKnownSpec)

/-- ITS FALSE NEIGHBOUR: 'it returns false'. Refute it at one input. -/
def hairKnownWrong : ChangeSpec := { name := "hairKnown", fn := fun _ => fun
  | [] => { results := [.lit (.bool false)], args := [] }
  | _ => none }
def HairKnownWrongFalsely : Prop := hairKnownRow.holds Tryd.pinned (OpenSpec.ofChange hairKnownWrong)

/- THE SECOND FORM. 'bulk': how many values and letters a reading holds, each counted each time it is reached (what is shared counts as often as it is met; a slice's spare places count too). A statement '..UptoSaid' is the law's where the arguments, and the package variables that the reading takes, are together of bulk at most 1048576: NARROWER than '..Said'. Prove '..Said' where nothing that the law and all that it calls make is longer than what came in: it says more and counts as full. Else prove '..UptoSaid'. A law counts once. -/
mutual
def uptoBulk {H : Type} : DataW H → Nat
  | .lit (.string bytes) => bytes.length + 1
  | .lit _ => 1
  | .nil => 1
  | .ptr d => uptoBulk d + 1
  | .slice elems spare => uptoBulkAll elems + uptoBulkAll spare + 1
  | .agg parts => uptoBulkAll parts + 1
  | .iface _ d => uptoBulk d + 1
  | .map entries => uptoBulkEntries entries + 1
  | .held _ => 1
def uptoBulkAll {H : Type} : List (DataW H) → Nat
  | [] => 0
  | d :: r => uptoBulk d + uptoBulkAll r
def uptoBulkEntries {H : Type} : List (Lit × DataW H) → Nat
  | [] => 0
  | x :: r => uptoBulkEntry x + uptoBulkEntries r
def uptoBulkEntry {H : Type} : Lit × DataW H → Nat
  | (.string bytes, d) => bytes.length + uptoBulk d + 1
  | (_, d) => uptoBulk d + 1
 end
def uptoSmall : (H : Type) → List (DataW H) → Bool := fun _ ds => decide (uptoBulkAll ds ≤ 1048576)
def OpenSpec.upto (s : _root_.Go.ChangeSpec) : _root_.Go.OpenSpec := { _root_.Go.OpenSpec.ofChange s with cond := some uptoSmall }

/-- 'skewbaldlaw06.HairPlans', WHERE WHAT IT READS IS OF BULK AT MOST 1048576: true; the input reads as it did. -/
def hairPlansUptoRow : OpenClaim := { program := "ytonjadhpjkbhnaadoor", sum := "c0a151de148c2516de822fe17e7f219eb1319f5cf2037e70ea77ab9207616db8", func := "skewbald/skewbaldlaw06.HairPlans", spec := "hairPlans", unfollowed := true, recurses := true, named := ["skewbald/hair.parts"], plainKeys := false, apart := false, laid := [("skewbald/hair.parts", laid_skewbald_hair_parts)], narrowed := true }
def HairPlansUptoSaid : Prop := hairPlansUptoRow.holds Tryd.pinned (OpenSpec.upto hairPlansSpec)

/-- 'skewbaldlaw06.HairBests', WHERE WHAT IT READS IS OF BULK AT MOST 1048576: true; the input reads as it did. -/
def hairBestsUptoRow : OpenClaim := { program := "ytonjadhpjkbhnaadoor", sum := "c0a151de148c2516de822fe17e7f219eb1319f5cf2037e70ea77ab9207616db8", func := "skewbald/skewbaldlaw06.HairBests", spec := "hairBests", unfollowed := true, recurses := true, named := ["skewbald/hair.parts"], plainKeys := false, apart := false, laid := [("skewbald/hair.parts", laid_skewbald_hair_parts)], narrowed := true }
def HairBestsUptoSaid : Prop := hairBestsUptoRow.holds Tryd.pinned (OpenSpec.upto hairBestsSpec)

/-- 'skewbaldlaw06.HairBuys', WHERE WHAT IT READS IS OF BULK AT MOST 1048576: true; the input reads as it did. -/
def hairBuysUptoRow : OpenClaim := { program := "ytonjadhpjkbhnaadoor", sum := "c0a151de148c2516de822fe17e7f219eb1319f5cf2037e70ea77ab9207616db8", func := "skewbald/skewbaldlaw06.HairBuys", spec := "hairBuys", unfollowed := true, recurses := true, named := ["skewbald/hair.parts"], plainKeys := false, apart := false, laid := [("skewbald/hair.parts", laid_skewbald_hair_parts)], narrowed := true }
def HairBuysUptoSaid : Prop := hairBuysUptoRow.holds Tryd.pinned (OpenSpec.upto hairBuysSpec)

/-- 'skewbaldlaw06.HairTrue', WHERE WHAT IT READS IS OF BULK AT MOST 1048576: true; the input reads as it did. -/
def hairTrueUptoRow : OpenClaim := { program := "ytonjadhpjkbhnaadoor", sum := "c0a151de148c2516de822fe17e7f219eb1319f5cf2037e70ea77ab9207616db8", func := "skewbald/skewbaldlaw06.HairTrue", spec := "hairTrue", unfollowed := true, recurses := true, named := ["skewbald/hair.parts"], plainKeys := false, apart := false, laid := [("skewbald/hair.parts", laid_skewbald_hair_parts)], narrowed := true }
def HairTrueUptoSaid : Prop := hairTrueUptoRow.holds Tryd.pinned (OpenSpec.upto hairTrueSpec)

/-- 'skewbaldlaw06.HairOff', WHERE WHAT IT READS IS OF BULK AT MOST 1048576: true; the input reads as it did. -/
def hairOffUptoRow : OpenClaim := { program := "ytonjadhpjkbhnaadoor", sum := "c0a151de148c2516de822fe17e7f219eb1319f5cf2037e70ea77ab9207616db8", func := "skewbald/skewbaldlaw06.HairOff", spec := "hairOff", unfollowed := true, recurses := true, named := ["skewbald/hair.parts"], plainKeys := false, apart := false, laid := [("skewbald/hair.parts", laid_skewbald_hair_parts)], narrowed := true }
def HairOffUptoSaid : Prop := hairOffUptoRow.holds Tryd.pinned (OpenSpec.upto hairOffSpec)

/-- 'skewbaldlaw06.HairBest', WHERE WHAT IT READS IS OF BULK AT MOST 1048576: true; the input reads as it did. -/
def hairBestUptoRow : OpenClaim := { program := "ytonjadhpjkbhnaadoor", sum := "c0a151de148c2516de822fe17e7f219eb1319f5cf2037e70ea77ab9207616db8", func := "skewbald/skewbaldlaw06.HairBest", spec := "hairBest", unfollowed := true, recurses := true, named := ["skewbald/hair.parts"], plainKeys := false, apart := false, laid := [("skewbald/hair.parts", laid_skewbald_hair_parts)], narrowed := true }
def HairBestUptoSaid : Prop := hairBestUptoRow.holds Tryd.pinned (OpenSpec.upto hairBestSpec)

/-- 'skewbaldlaw06.HairLacks', WHERE WHAT IT READS IS OF BULK AT MOST 1048576: true; the input reads as it did. -/
def hairLacksUptoRow : OpenClaim := { program := "ytonjadhpjkbhnaadoor", sum := "c0a151de148c2516de822fe17e7f219eb1319f5cf2037e70ea77ab9207616db8", func := "skewbald/skewbaldlaw06.HairLacks", spec := "hairLacks", unfollowed := true, recurses := true, named := ["skewbald/hair.parts"], plainKeys := false, apart := false, laid := [("skewbald/hair.parts", laid_skewbald_hair_parts)], narrowed := true }
def HairLacksUptoSaid : Prop := hairLacksUptoRow.holds Tryd.pinned (OpenSpec.upto hairLacksSpec)

/-- 'skewbaldlaw06.HairBuy', WHERE WHAT IT READS IS OF BULK AT MOST 1048576: true; the input reads as it did. -/
def hairBuyUptoRow : OpenClaim := { program := "ytonjadhpjkbhnaadoor", sum := "c0a151de148c2516de822fe17e7f219eb1319f5cf2037e70ea77ab9207616db8", func := "skewbald/skewbaldlaw06.HairBuy", spec := "hairBuy", unfollowed := true, recurses := true, named := ["skewbald/hair.parts"], plainKeys := false, apart := false, laid := [("skewbald/hair.parts", laid_skewbald_hair_parts)], narrowed := true }
def HairBuyUptoSaid : Prop := hairBuyUptoRow.holds Tryd.pinned (OpenSpec.upto hairBuySpec)

/-- 'skewbaldlaw06.HairMore', WHERE WHAT IT READS IS OF BULK AT MOST 1048576: true; the input reads as it did. -/
def hairMoreUptoRow : OpenClaim := { program := "ytonjadhpjkbhnaadoor", sum := "c0a151de148c2516de822fe17e7f219eb1319f5cf2037e70ea77ab9207616db8", func := "skewbald/skewbaldlaw06.HairMore", spec := "hairMore", unfollowed := true, recurses := true, named := ["skewbald/hair.parts"], plainKeys := false, apart := false, laid := [("skewbald/hair.parts", laid_skewbald_hair_parts)], narrowed := true }
def HairMoreUptoSaid : Prop := hairMoreUptoRow.holds Tryd.pinned (OpenSpec.upto hairMoreSpec)

/-- 'skewbaldlaw06.HairSame', WHERE WHAT IT READS IS OF BULK AT MOST 1048576: true; the input reads as it did. -/
def hairSameUptoRow : OpenClaim := { program := "ytonjadhpjkbhnaadoor", sum := "c0a151de148c2516de822fe17e7f219eb1319f5cf2037e70ea77ab9207616db8", func := "skewbald/skewbaldlaw06.HairSame", spec := "hairSame", unfollowed := true, recurses := true, named := ["skewbald/hair.parts"], plainKeys := false, apart := false, laid := [("skewbald/hair.parts", laid_skewbald_hair_parts)], narrowed := true }
def HairSameUptoSaid : Prop := hairSameUptoRow.holds Tryd.pinned (OpenSpec.upto hairSameSpec)

/-- 'skewbaldlaw06.HairEither', WHERE WHAT IT READS IS OF BULK AT MOST 1048576: true; the input reads as it did. -/
def hairEitherUptoRow : OpenClaim := { program := "ytonjadhpjkbhnaadoor", sum := "c0a151de148c2516de822fe17e7f219eb1319f5cf2037e70ea77ab9207616db8", func := "skewbald/skewbaldlaw06.HairEither", spec := "hairEither", unfollowed := true, recurses := true, named := ["skewbald/hair.parts"], plainKeys := false, apart := false, laid := [("skewbald/hair.parts", laid_skewbald_hair_parts)], narrowed := true }
def HairEitherUptoSaid : Prop := hairEitherUptoRow.holds Tryd.pinned (OpenSpec.upto hairEitherSpec)

/-- 'skewbaldlaw06.HairKnown', WHERE WHAT IT READS IS OF BULK AT MOST 1048576: true; the input reads as it did. -/
def hairKnownUptoRow : OpenClaim := { program := "ytonjadhpjkbhnaadoor", sum := "c0a151de148c2516de822fe17e7f219eb1319f5cf2037e70ea77ab9207616db8", func := "skewbald/skewbaldlaw06.HairKnown", spec := "hairKnown", unfollowed := true, recurses := true, named := ["skewbald/hair.parts"], plainKeys := false, apart := false, laid := [("skewbald/hair.parts", laid_skewbald_hair_parts)], narrowed := true }
def HairKnownUptoSaid : Prop := hairKnownUptoRow.holds Tryd.pinned (OpenSpec.upto hairKnownSpec)

end Rows
end Go.Proofs.YtonjadhpjkbhnaaDoor
