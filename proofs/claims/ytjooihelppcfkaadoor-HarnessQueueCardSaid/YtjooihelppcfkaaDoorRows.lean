/-
  NARROWER THAN 'FOR EVERY INPUT', by the rows' own cells (each row's printed sentence says how): HarnessDays: laid · HarnessOrders: laid · HarnessCounts: laid · HarnessTrue: laid · HarnessOrder: laid · HarnessOver: laid · HarnessHair: laid · HarnessCounted: laid · HarnessCount: laid · HarnessQueue: laid · HarnessPack: laid · HarnessKnown: laid.
  DERIVED. THE GIVEN ROWS OF THIS SEAT. 12 by the template 'for every input the law returns true; each argument reads behind the call as it read before'; 0 by the template 'total and deterministic' (their statements: YtjooihelppcfkaaDoorTotals.lean).
  GIVEN WITH THE SEED: the statements are not yours to turn. If you find one false, say at which input.
  Laid BY PROGRAM, IN A SANDBOX (cutbox-rows.mjs): the forced cells as the released guide's own fill.sh prints them over the translation 222b2a0f5f8d4150… (all of the seat's roots in one cut). By AI agents, Wed Nov 11 2026. No macro, syntax, notation, axiom, sorry.
-/
import Derived.Test.YtjooihelppcfkaaDoorChecked
import GoSem.Claim
import GoSem.ClaimJoined
import GoSem.ClaimMapViews
import Derived.JoinedTies
import Derived.KernelRfl
namespace Go.Proofs.YtjooihelppcfkaaDoor
/- THE CELL 'sum', in the pinned program and in every row, IS THE sha256 OF THE DUMP (.gsa) THAT YtjooihelppcfkaaDoorProg.lean LOADS. Nothing in Lean hashes anything: it is a label: what it is worth is what the hold of that sum in a sandbox is worth. -/
noncomputable def Tryd.pinned : Pinned := { name := "ytjooihelppcfkaadoor", sum := "222b2a0f5f8d4150dfb7bd448f08a86f9665695219ecbe85c98a214a50582b03", checked := Tryd.checked }
namespace Rows
def none {H : Type} : Left H := { results := [], args := [] }

/- WHAT THE LISTED PACKAGE-LEVEL VARIABLES READ AS WHEN THE CALL BEGINS. Each datum BY PROGRAM (the guide's laid-datum.mjs) off the statement by which the dump's own 'gosem.cut.vars' lays the variable. In a bare row this is a premise. The card (YtjooihelppcfkaaDoorCards.lean) ties it to the program's text. -/
def laid_skewbald_hair_parts {H : Type} : DataW H := .iface "func table" (.agg [.iface "func" (.lit (.string [40, 115, 107, 101, 119, 98, 97, 108, 100, 47, 104, 97, 105, 114, 46, 104, 111, 114, 115, 101, 41, 46, 109, 97, 110, 101])), .iface "func" (.lit (.string [40, 115, 107, 101, 119, 98, 97, 108, 100, 47, 104, 97, 105, 114, 46, 104, 111, 114, 115, 101, 41, 46, 116, 97, 105, 108]))])
def laid_skewbald_harness_nothing {H : Type} : DataW H := .agg [.lit (.int .i64 (-1)), .lit (.int .i64 (-1))]
def laid_skewbald_harness_overs {H : Type} : DataW H := .iface "func table" (.agg [.iface "func" (.lit (.string [40, 115, 107, 101, 119, 98, 97, 108, 100, 47, 104, 97, 114, 110, 101, 115, 115, 46, 98, 111, 111, 107, 41, 46, 108, 101, 97, 115, 116])), .iface "func" (.lit (.string [40, 115, 107, 101, 119, 98, 97, 108, 100, 47, 104, 97, 114, 110, 101, 115, 115, 46, 98, 111, 111, 107, 41, 46, 109, 111, 115, 116]))])

/-- 'skewbaldlaw10.HarnessDays': WHATEVER THE INPUT: true; the input reads as it did. -/
def harnessDaysSpec : ChangeSpec := { name := "harnessDays", fn := fun _ => fun
  | [d] => { results := [.lit (.bool true)], args := [d] }
  | _ => none }
def harnessDaysRow : OpenClaim := { program := "ytjooihelppcfkaadoor", sum := "222b2a0f5f8d4150dfb7bd448f08a86f9665695219ecbe85c98a214a50582b03", func := "skewbald/skewbaldlaw10.HarnessDays", spec := "harnessDays", unfollowed := true, recurses := true, named := ["skewbald/harness.nothing", "skewbald/hair.parts", "skewbald/harness.overs"], plainKeys := false, apart := false, laid := [("skewbald/hair.parts", laid_skewbald_hair_parts), ("skewbald/harness.nothing", laid_skewbald_harness_nothing), ("skewbald/harness.overs", laid_skewbald_harness_overs)] }
def HarnessDaysSaid : Prop := harnessDaysRow.holds Tryd.pinned (OpenSpec.ofChange harnessDaysSpec)

/-- ITS FALSE NEIGHBOUR: 'it returns false'. Refute it at one input. -/
def harnessDaysWrong : ChangeSpec := { name := "harnessDays", fn := fun _ => fun
  | [d] => { results := [.lit (.bool false)], args := [d] }
  | _ => none }
def HarnessDaysWrongFalsely : Prop := harnessDaysRow.holds Tryd.pinned (OpenSpec.ofChange harnessDaysWrong)

/-- 'skewbaldlaw10.HarnessOrders': WHATEVER THE INPUT: true; the input reads as it did. -/
def harnessOrdersSpec : ChangeSpec := { name := "harnessOrders", fn := fun _ => fun
  | [d1, d2] => { results := [.lit (.bool true)], args := [d1, d2] }
  | _ => none }
def harnessOrdersRow : OpenClaim := { program := "ytjooihelppcfkaadoor", sum := "222b2a0f5f8d4150dfb7bd448f08a86f9665695219ecbe85c98a214a50582b03", func := "skewbald/skewbaldlaw10.HarnessOrders", spec := "harnessOrders", unfollowed := true, recurses := true, named := ["skewbald/harness.nothing", "skewbald/hair.parts", "skewbald/harness.overs"], plainKeys := false, apart := false, laid := [("skewbald/hair.parts", laid_skewbald_hair_parts), ("skewbald/harness.nothing", laid_skewbald_harness_nothing), ("skewbald/harness.overs", laid_skewbald_harness_overs)] }
def HarnessOrdersSaid : Prop := harnessOrdersRow.holds Tryd.pinned (OpenSpec.ofChange harnessOrdersSpec)

/-- ITS FALSE NEIGHBOUR: 'it returns false'. Refute it at one input. -/
def harnessOrdersWrong : ChangeSpec := { name := "harnessOrders", fn := fun _ => fun
  | [d1, d2] => { results := [.lit (.bool false)], args := [d1, d2] }
  | _ => none }
def HarnessOrdersWrongFalsely : Prop := harnessOrdersRow.holds Tryd.pinned (OpenSpec.ofChange harnessOrdersWrong)

/-- 'skewbaldlaw10.HarnessCounts': WHATEVER THE INPUT: true; the input reads as it did. -/
def harnessCountsSpec : ChangeSpec := { name := "harnessCounts", fn := fun _ => fun
  | [d] => { results := [.lit (.bool true)], args := [d] }
  | _ => none }
def harnessCountsRow : OpenClaim := { program := "ytjooihelppcfkaadoor", sum := "222b2a0f5f8d4150dfb7bd448f08a86f9665695219ecbe85c98a214a50582b03", func := "skewbald/skewbaldlaw10.HarnessCounts", spec := "harnessCounts", unfollowed := true, recurses := true, named := ["skewbald/harness.nothing", "skewbald/hair.parts", "skewbald/harness.overs"], plainKeys := false, apart := false, laid := [("skewbald/hair.parts", laid_skewbald_hair_parts), ("skewbald/harness.nothing", laid_skewbald_harness_nothing), ("skewbald/harness.overs", laid_skewbald_harness_overs)] }
def HarnessCountsSaid : Prop := harnessCountsRow.holds Tryd.pinned (OpenSpec.ofChange harnessCountsSpec)

/-- ITS FALSE NEIGHBOUR: 'it returns false'. Refute it at one input. -/
def harnessCountsWrong : ChangeSpec := { name := "harnessCounts", fn := fun _ => fun
  | [d] => { results := [.lit (.bool false)], args := [d] }
  | _ => none }
def HarnessCountsWrongFalsely : Prop := harnessCountsRow.holds Tryd.pinned (OpenSpec.ofChange harnessCountsWrong)

/-- 'skewbaldlaw10.HarnessTrue': WHATEVER THE INPUT: true; the input reads as it did. -/
def harnessTrueSpec : ChangeSpec := { name := "harnessTrue", fn := fun _ => fun
  | [d1, d2] => { results := [.lit (.bool true)], args := [d1, d2] }
  | _ => none }
def harnessTrueRow : OpenClaim := { program := "ytjooihelppcfkaadoor", sum := "222b2a0f5f8d4150dfb7bd448f08a86f9665695219ecbe85c98a214a50582b03", func := "skewbald/skewbaldlaw10.HarnessTrue", spec := "harnessTrue", unfollowed := true, recurses := true, named := ["skewbald/harness.nothing", "skewbald/hair.parts", "skewbald/harness.overs"], plainKeys := false, apart := false, laid := [("skewbald/hair.parts", laid_skewbald_hair_parts), ("skewbald/harness.nothing", laid_skewbald_harness_nothing), ("skewbald/harness.overs", laid_skewbald_harness_overs)] }
def HarnessTrueSaid : Prop := harnessTrueRow.holds Tryd.pinned (OpenSpec.ofChange harnessTrueSpec)

/-- ITS FALSE NEIGHBOUR: 'it returns false'. Refute it at one input. -/
def harnessTrueWrong : ChangeSpec := { name := "harnessTrue", fn := fun _ => fun
  | [d1, d2] => { results := [.lit (.bool false)], args := [d1, d2] }
  | _ => none }
def HarnessTrueWrongFalsely : Prop := harnessTrueRow.holds Tryd.pinned (OpenSpec.ofChange harnessTrueWrong)

/-- 'skewbaldlaw10.HarnessOrder': WHATEVER THE INPUT: true; the input reads as it did. -/
def harnessOrderSpec : ChangeSpec := { name := "harnessOrder", fn := fun _ => fun
  | [d1, d2, d3] => { results := [.lit (.bool true)], args := [d1, d2, d3] }
  | _ => none }
def harnessOrderRow : OpenClaim := { program := "ytjooihelppcfkaadoor", sum := "222b2a0f5f8d4150dfb7bd448f08a86f9665695219ecbe85c98a214a50582b03", func := "skewbald/skewbaldlaw10.HarnessOrder", spec := "harnessOrder", unfollowed := true, recurses := true, named := ["skewbald/harness.nothing", "skewbald/hair.parts", "skewbald/harness.overs"], plainKeys := false, apart := false, laid := [("skewbald/hair.parts", laid_skewbald_hair_parts), ("skewbald/harness.nothing", laid_skewbald_harness_nothing), ("skewbald/harness.overs", laid_skewbald_harness_overs)] }
def HarnessOrderSaid : Prop := harnessOrderRow.holds Tryd.pinned (OpenSpec.ofChange harnessOrderSpec)

/-- ITS FALSE NEIGHBOUR: 'it returns false'. Refute it at one input. -/
def harnessOrderWrong : ChangeSpec := { name := "harnessOrder", fn := fun _ => fun
  | [d1, d2, d3] => { results := [.lit (.bool false)], args := [d1, d2, d3] }
  | _ => none }
def HarnessOrderWrongFalsely : Prop := harnessOrderRow.holds Tryd.pinned (OpenSpec.ofChange harnessOrderWrong)

/-- 'skewbaldlaw10.HarnessOver': WHATEVER THE INPUT: true; the input reads as it did. -/
def harnessOverSpec : ChangeSpec := { name := "harnessOver", fn := fun _ => fun
  | [d1, d2] => { results := [.lit (.bool true)], args := [d1, d2] }
  | _ => none }
def harnessOverRow : OpenClaim := { program := "ytjooihelppcfkaadoor", sum := "222b2a0f5f8d4150dfb7bd448f08a86f9665695219ecbe85c98a214a50582b03", func := "skewbald/skewbaldlaw10.HarnessOver", spec := "harnessOver", unfollowed := true, recurses := true, named := ["skewbald/harness.nothing", "skewbald/hair.parts", "skewbald/harness.overs"], plainKeys := false, apart := false, laid := [("skewbald/hair.parts", laid_skewbald_hair_parts), ("skewbald/harness.nothing", laid_skewbald_harness_nothing), ("skewbald/harness.overs", laid_skewbald_harness_overs)] }
def HarnessOverSaid : Prop := harnessOverRow.holds Tryd.pinned (OpenSpec.ofChange harnessOverSpec)

/-- ITS FALSE NEIGHBOUR: 'it returns false'. Refute it at one input. -/
def harnessOverWrong : ChangeSpec := { name := "harnessOver", fn := fun _ => fun
  | [d1, d2] => { results := [.lit (.bool false)], args := [d1, d2] }
  | _ => none }
def HarnessOverWrongFalsely : Prop := harnessOverRow.holds Tryd.pinned (OpenSpec.ofChange harnessOverWrong)

/-- 'skewbaldlaw10.HarnessHair': WHATEVER THE INPUT: true; the input reads as it did. -/
def harnessHairSpec : ChangeSpec := { name := "harnessHair", fn := fun _ => fun
  | [d] => { results := [.lit (.bool true)], args := [d] }
  | _ => none }
def harnessHairRow : OpenClaim := { program := "ytjooihelppcfkaadoor", sum := "222b2a0f5f8d4150dfb7bd448f08a86f9665695219ecbe85c98a214a50582b03", func := "skewbald/skewbaldlaw10.HarnessHair", spec := "harnessHair", unfollowed := true, recurses := true, named := ["skewbald/harness.nothing", "skewbald/hair.parts", "skewbald/harness.overs"], plainKeys := false, apart := false, laid := [("skewbald/hair.parts", laid_skewbald_hair_parts), ("skewbald/harness.nothing", laid_skewbald_harness_nothing), ("skewbald/harness.overs", laid_skewbald_harness_overs)] }
def HarnessHairSaid : Prop := harnessHairRow.holds Tryd.pinned (OpenSpec.ofChange harnessHairSpec)

/-- ITS FALSE NEIGHBOUR: 'it returns false'. Refute it at one input. -/
def harnessHairWrong : ChangeSpec := { name := "harnessHair", fn := fun _ => fun
  | [d] => { results := [.lit (.bool false)], args := [d] }
  | _ => none }
def HarnessHairWrongFalsely : Prop := harnessHairRow.holds Tryd.pinned (OpenSpec.ofChange harnessHairWrong)

/-- 'skewbaldlaw10.HarnessCounted': WHATEVER THE INPUT: true; the input reads as it did. -/
def harnessCountedSpec : ChangeSpec := { name := "harnessCounted", fn := fun _ => fun
  | [d1, d2] => { results := [.lit (.bool true)], args := [d1, d2] }
  | _ => none }
def harnessCountedRow : OpenClaim := { program := "ytjooihelppcfkaadoor", sum := "222b2a0f5f8d4150dfb7bd448f08a86f9665695219ecbe85c98a214a50582b03", func := "skewbald/skewbaldlaw10.HarnessCounted", spec := "harnessCounted", unfollowed := true, recurses := true, named := ["skewbald/harness.nothing", "skewbald/hair.parts", "skewbald/harness.overs"], plainKeys := false, apart := false, laid := [("skewbald/hair.parts", laid_skewbald_hair_parts), ("skewbald/harness.nothing", laid_skewbald_harness_nothing), ("skewbald/harness.overs", laid_skewbald_harness_overs)] }
def HarnessCountedSaid : Prop := harnessCountedRow.holds Tryd.pinned (OpenSpec.ofChange harnessCountedSpec)

/-- ITS FALSE NEIGHBOUR: 'it returns false'. Refute it at one input. -/
def harnessCountedWrong : ChangeSpec := { name := "harnessCounted", fn := fun _ => fun
  | [d1, d2] => { results := [.lit (.bool false)], args := [d1, d2] }
  | _ => none }
def HarnessCountedWrongFalsely : Prop := harnessCountedRow.holds Tryd.pinned (OpenSpec.ofChange harnessCountedWrong)

/-- 'skewbaldlaw10.HarnessCount': WHATEVER THE INPUT: true; the input reads as it did. -/
def harnessCountSpec : ChangeSpec := { name := "harnessCount", fn := fun _ => fun
  | [d1, d2] => { results := [.lit (.bool true)], args := [d1, d2] }
  | _ => none }
def harnessCountRow : OpenClaim := { program := "ytjooihelppcfkaadoor", sum := "222b2a0f5f8d4150dfb7bd448f08a86f9665695219ecbe85c98a214a50582b03", func := "skewbald/skewbaldlaw10.HarnessCount", spec := "harnessCount", unfollowed := true, recurses := true, named := ["skewbald/harness.nothing", "skewbald/hair.parts", "skewbald/harness.overs"], plainKeys := false, apart := false, laid := [("skewbald/hair.parts", laid_skewbald_hair_parts), ("skewbald/harness.nothing", laid_skewbald_harness_nothing), ("skewbald/harness.overs", laid_skewbald_harness_overs)] }
def HarnessCountSaid : Prop := harnessCountRow.holds Tryd.pinned (OpenSpec.ofChange harnessCountSpec)

/-- ITS FALSE NEIGHBOUR: 'it returns false'. Refute it at one input. -/
def harnessCountWrong : ChangeSpec := { name := "harnessCount", fn := fun _ => fun
  | [d1, d2] => { results := [.lit (.bool false)], args := [d1, d2] }
  | _ => none }
def HarnessCountWrongFalsely : Prop := harnessCountRow.holds Tryd.pinned (OpenSpec.ofChange harnessCountWrong)

/-- 'skewbaldlaw10.HarnessQueue': WHATEVER THE INPUT: true; the input reads as it did. -/
def harnessQueueSpec : ChangeSpec := { name := "harnessQueue", fn := fun _ => fun
  | [d1, d2] => { results := [.lit (.bool true)], args := [d1, d2] }
  | _ => none }
def harnessQueueRow : OpenClaim := { program := "ytjooihelppcfkaadoor", sum := "222b2a0f5f8d4150dfb7bd448f08a86f9665695219ecbe85c98a214a50582b03", func := "skewbald/skewbaldlaw10.HarnessQueue", spec := "harnessQueue", unfollowed := true, recurses := true, named := ["skewbald/harness.nothing", "skewbald/hair.parts", "skewbald/harness.overs"], plainKeys := false, apart := false, laid := [("skewbald/hair.parts", laid_skewbald_hair_parts), ("skewbald/harness.nothing", laid_skewbald_harness_nothing), ("skewbald/harness.overs", laid_skewbald_harness_overs)] }
def HarnessQueueSaid : Prop := harnessQueueRow.holds Tryd.pinned (OpenSpec.ofChange harnessQueueSpec)

/-- ITS FALSE NEIGHBOUR: 'it returns false'. Refute it at one input. -/
def harnessQueueWrong : ChangeSpec := { name := "harnessQueue", fn := fun _ => fun
  | [d1, d2] => { results := [.lit (.bool false)], args := [d1, d2] }
  | _ => none }
def HarnessQueueWrongFalsely : Prop := harnessQueueRow.holds Tryd.pinned (OpenSpec.ofChange harnessQueueWrong)

/-- 'skewbaldlaw10.HarnessPack': WHATEVER THE INPUT: true; the input reads as it did. -/
def harnessPackSpec : ChangeSpec := { name := "harnessPack", fn := fun _ => fun
  | [d1, d2] => { results := [.lit (.bool true)], args := [d1, d2] }
  | _ => none }
def harnessPackRow : OpenClaim := { program := "ytjooihelppcfkaadoor", sum := "222b2a0f5f8d4150dfb7bd448f08a86f9665695219ecbe85c98a214a50582b03", func := "skewbald/skewbaldlaw10.HarnessPack", spec := "harnessPack", unfollowed := true, recurses := true, named := ["skewbald/harness.nothing", "skewbald/hair.parts", "skewbald/harness.overs"], plainKeys := false, apart := false, laid := [("skewbald/hair.parts", laid_skewbald_hair_parts), ("skewbald/harness.nothing", laid_skewbald_harness_nothing), ("skewbald/harness.overs", laid_skewbald_harness_overs)] }
def HarnessPackSaid : Prop := harnessPackRow.holds Tryd.pinned (OpenSpec.ofChange harnessPackSpec)

/-- ITS FALSE NEIGHBOUR: 'it returns false'. Refute it at one input. -/
def harnessPackWrong : ChangeSpec := { name := "harnessPack", fn := fun _ => fun
  | [d1, d2] => { results := [.lit (.bool false)], args := [d1, d2] }
  | _ => none }
def HarnessPackWrongFalsely : Prop := harnessPackRow.holds Tryd.pinned (OpenSpec.ofChange harnessPackWrong)

/-- 'skewbaldlaw10.HarnessKnown': WHATEVER THE INPUT: true; the input reads as it did. -/
def harnessKnownSpec : ChangeSpec := { name := "harnessKnown", fn := fun _ => fun
  | [] => { results := [.lit (.bool true)], args := [] }
  | _ => none }
def harnessKnownRow : OpenClaim := { program := "ytjooihelppcfkaadoor", sum := "222b2a0f5f8d4150dfb7bd448f08a86f9665695219ecbe85c98a214a50582b03", func := "skewbald/skewbaldlaw10.HarnessKnown", spec := "harnessKnown", unfollowed := true, recurses := true, named := ["skewbald/harness.nothing", "skewbald/hair.parts", "skewbald/harness.overs"], plainKeys := false, apart := false, laid := [("skewbald/hair.parts", laid_skewbald_hair_parts), ("skewbald/harness.nothing", laid_skewbald_harness_nothing), ("skewbald/harness.overs", laid_skewbald_harness_overs)] }
def HarnessKnownSaid : Prop := harnessKnownRow.holds Tryd.pinned (OpenSpec.ofChange harnessKnownSpec)

/-- ITS FALSE NEIGHBOUR: 'it returns false'. Refute it at one input. -/
def harnessKnownWrong : ChangeSpec := { name := "harnessKnown", fn := fun _ => fun
  | [] => { results := [.lit (.bool false)], args := [] }
  | _ => none }
def HarnessKnownWrongFalsely : Prop := harnessKnownRow.holds Tryd.pinned (OpenSpec.ofChange harnessKnownWrong)

/- THE SECOND FORM. 'bulk': how many values and letters a reading holds, each counted each time it is reached (what is shared counts as often as it is met; a slice's spare places count too). A statement '..UptoSaid' is the law's where the arguments, and the package variables that the reading takes, are together of bulk at most 1048576: NARROWER than '..Said'. Prove '..Said' where nothing that the law and all that it calls make is longer than what came in: it says more and counts as full. Else prove '..UptoSaid'. A law counts once. -/
mutual
def uptoBulk {H : Type} : DataW H → Nat
  | .lit (.string bytes) => bytes.length + 1
  | .lit _ => 1
  | .nil => 1
  | .ptr d => uptoBulk d + 1
  | .slice elems spare => uptoBulkAll elems + uptoBulkAll spare + 1
  | .agg parts => uptoBulkAll parts + 1
  | .iface _ d => uptoBulk d + 1
  | .map entries => uptoBulkEntries entries + 1
  | .held _ => 1
def uptoBulkAll {H : Type} : List (DataW H) → Nat
  | [] => 0
  | d :: r => uptoBulk d + uptoBulkAll r
def uptoBulkEntries {H : Type} : List (Lit × DataW H) → Nat
  | [] => 0
  | x :: r => uptoBulkEntry x + uptoBulkEntries r
def uptoBulkEntry {H : Type} : Lit × DataW H → Nat
  | (.string bytes, d) => bytes.length + uptoBulk d + 1
  | (_, d) => uptoBulk d + 1
 end
def uptoSmall : (H : Type) → List (DataW H) → Bool := fun _ ds => decide (uptoBulkAll ds ≤ 1048576)
def OpenSpec.upto (s : _root_.Go.ChangeSpec) : _root_.Go.OpenSpec := { _root_.Go.OpenSpec.ofChange s with cond := some uptoSmall }

/-- 'skewbaldlaw10.HarnessDays', WHERE WHAT IT READS IS OF BULK AT MOST 1048576: true; the input reads as it did. -/
def harnessDaysUptoRow : OpenClaim := { program := "ytjooihelppcfkaadoor", sum := "222b2a0f5f8d4150dfb7bd448f08a86f9665695219ecbe85c98a214a50582b03", func := "skewbald/skewbaldlaw10.HarnessDays", spec := "harnessDays", unfollowed := true, recurses := true, named := ["skewbald/harness.nothing", "skewbald/hair.parts", "skewbald/harness.overs"], plainKeys := false, apart := false, laid := [("skewbald/hair.parts", laid_skewbald_hair_parts), ("skewbald/harness.nothing", laid_skewbald_harness_nothing), ("skewbald/harness.overs", laid_skewbald_harness_overs)], narrowed := true }
def HarnessDaysUptoSaid : Prop := harnessDaysUptoRow.holds Tryd.pinned (OpenSpec.upto harnessDaysSpec)

/-- 'skewbaldlaw10.HarnessOrders', WHERE WHAT IT READS IS OF BULK AT MOST 1048576: true; the input reads as it did. -/
def harnessOrdersUptoRow : OpenClaim := { program := "ytjooihelppcfkaadoor", sum := "222b2a0f5f8d4150dfb7bd448f08a86f9665695219ecbe85c98a214a50582b03", func := "skewbald/skewbaldlaw10.HarnessOrders", spec := "harnessOrders", unfollowed := true, recurses := true, named := ["skewbald/harness.nothing", "skewbald/hair.parts", "skewbald/harness.overs"], plainKeys := false, apart := false, laid := [("skewbald/hair.parts", laid_skewbald_hair_parts), ("skewbald/harness.nothing", laid_skewbald_harness_nothing), ("skewbald/harness.overs", laid_skewbald_harness_overs)], narrowed := true }
def HarnessOrdersUptoSaid : Prop := harnessOrdersUptoRow.holds Tryd.pinned (OpenSpec.upto harnessOrdersSpec)

/-- 'skewbaldlaw10.HarnessCounts', WHERE WHAT IT READS IS OF BULK AT MOST 1048576: true; the input reads as it did. -/
def harnessCountsUptoRow : OpenClaim := { program := "ytjooihelppcfkaadoor", sum := "222b2a0f5f8d4150dfb7bd448f08a86f9665695219ecbe85c98a214a50582b03", func := "skewbald/skewbaldlaw10.HarnessCounts", spec := "harnessCounts", unfollowed := true, recurses := true, named := ["skewbald/harness.nothing", "skewbald/hair.parts", "skewbald/harness.overs"], plainKeys := false, apart := false, laid := [("skewbald/hair.parts", laid_skewbald_hair_parts), ("skewbald/harness.nothing", laid_skewbald_harness_nothing), ("skewbald/harness.overs", laid_skewbald_harness_overs)], narrowed := true }
def HarnessCountsUptoSaid : Prop := harnessCountsUptoRow.holds Tryd.pinned (OpenSpec.upto harnessCountsSpec)

/-- 'skewbaldlaw10.HarnessTrue', WHERE WHAT IT READS IS OF BULK AT MOST 1048576: true; the input reads as it did. -/
def harnessTrueUptoRow : OpenClaim := { program := "ytjooihelppcfkaadoor", sum := "222b2a0f5f8d4150dfb7bd448f08a86f9665695219ecbe85c98a214a50582b03", func := "skewbald/skewbaldlaw10.HarnessTrue", spec := "harnessTrue", unfollowed := true, recurses := true, named := ["skewbald/harness.nothing", "skewbald/hair.parts", "skewbald/harness.overs"], plainKeys := false, apart := false, laid := [("skewbald/hair.parts", laid_skewbald_hair_parts), ("skewbald/harness.nothing", laid_skewbald_harness_nothing), ("skewbald/harness.overs", laid_skewbald_harness_overs)], narrowed := true }
def HarnessTrueUptoSaid : Prop := harnessTrueUptoRow.holds Tryd.pinned (OpenSpec.upto harnessTrueSpec)

/-- 'skewbaldlaw10.HarnessOrder', WHERE WHAT IT READS IS OF BULK AT MOST 1048576: true; the input reads as it did. -/
def harnessOrderUptoRow : OpenClaim := { program := "ytjooihelppcfkaadoor", sum := "222b2a0f5f8d4150dfb7bd448f08a86f9665695219ecbe85c98a214a50582b03", func := "skewbald/skewbaldlaw10.HarnessOrder", spec := "harnessOrder", unfollowed := true, recurses := true, named := ["skewbald/harness.nothing", "skewbald/hair.parts", "skewbald/harness.overs"], plainKeys := false, apart := false, laid := [("skewbald/hair.parts", laid_skewbald_hair_parts), ("skewbald/harness.nothing", laid_skewbald_harness_nothing), ("skewbald/harness.overs", laid_skewbald_harness_overs)], narrowed := true }
def HarnessOrderUptoSaid : Prop := harnessOrderUptoRow.holds Tryd.pinned (OpenSpec.upto harnessOrderSpec)

/-- 'skewbaldlaw10.HarnessOver', WHERE WHAT IT READS IS OF BULK AT MOST 1048576: true; the input reads as it did. -/
def harnessOverUptoRow : OpenClaim := { program := "ytjooihelppcfkaadoor", sum := "222b2a0f5f8d4150dfb7bd448f08a86f9665695219ecbe85c98a214a50582b03", func := "skewbald/skewbaldlaw10.HarnessOver", spec := "harnessOver", unfollowed := true, recurses := true, named := ["skewbald/harness.nothing", "skewbald/hair.parts", "skewbald/harness.overs"], plainKeys := false, apart := false, laid := [("skewbald/hair.parts", laid_skewbald_hair_parts), ("skewbald/harness.nothing", laid_skewbald_harness_nothing), ("skewbald/harness.overs", laid_skewbald_harness_overs)], narrowed := true }
def HarnessOverUptoSaid : Prop := harnessOverUptoRow.holds Tryd.pinned (OpenSpec.upto harnessOverSpec)

/-- 'skewbaldlaw10.HarnessHair', WHERE WHAT IT READS IS OF BULK AT MOST 1048576: true; the input reads as it did. -/
def harnessHairUptoRow : OpenClaim := { program := "ytjooihelppcfkaadoor", sum := "222b2a0f5f8d4150dfb7bd448f08a86f9665695219ecbe85c98a214a50582b03", func := "skewbald/skewbaldlaw10.HarnessHair", spec := "harnessHair", unfollowed := true, recurses := true, named := ["skewbald/harness.nothing", "skewbald/hair.parts", "skewbald/harness.overs"], plainKeys := false, apart := false, laid := [("skewbald/hair.parts", laid_skewbald_hair_parts), ("skewbald/harness.nothing", laid_skewbald_harness_nothing), ("skewbald/harness.overs", laid_skewbald_harness_overs)], narrowed := true }
def HarnessHairUptoSaid : Prop := harnessHairUptoRow.holds Tryd.pinned (OpenSpec.upto harnessHairSpec)

/-- 'skewbaldlaw10.HarnessCounted', WHERE WHAT IT READS IS OF BULK AT MOST 1048576: true; the input reads as it did. -/
def harnessCountedUptoRow : OpenClaim := { program := "ytjooihelppcfkaadoor", sum := "222b2a0f5f8d4150dfb7bd448f08a86f9665695219ecbe85c98a214a50582b03", func := "skewbald/skewbaldlaw10.HarnessCounted", spec := "harnessCounted", unfollowed := true, recurses := true, named := ["skewbald/harness.nothing", "skewbald/hair.parts", "skewbald/harness.overs"], plainKeys := false, apart := false, laid := [("skewbald/hair.parts", laid_skewbald_hair_parts), ("skewbald/harness.nothing", laid_skewbald_harness_nothing), ("skewbald/harness.overs", laid_skewbald_harness_overs)], narrowed := true }
def HarnessCountedUptoSaid : Prop := harnessCountedUptoRow.holds Tryd.pinned (OpenSpec.upto harnessCountedSpec)

/-- 'skewbaldlaw10.HarnessCount', WHERE WHAT IT READS IS OF BULK AT MOST 1048576: true; the input reads as it did. -/
def harnessCountUptoRow : OpenClaim := { program := "ytjooihelppcfkaadoor", sum := "222b2a0f5f8d4150dfb7bd448f08a86f9665695219ecbe85c98a214a50582b03", func := "skewbald/skewbaldlaw10.HarnessCount", spec := "harnessCount", unfollowed := true, recurses := true, named := ["skewbald/harness.nothing", "skewbald/hair.parts", "skewbald/harness.overs"], plainKeys := false, apart := false, laid := [("skewbald/hair.parts", laid_skewbald_hair_parts), ("skewbald/harness.nothing", laid_skewbald_harness_nothing), ("skewbald/harness.overs", laid_skewbald_harness_overs)], narrowed := true }
def HarnessCountUptoSaid : Prop := harnessCountUptoRow.holds Tryd.pinned (OpenSpec.upto harnessCountSpec)

/-- 'skewbaldlaw10.HarnessQueue', WHERE WHAT IT READS IS OF BULK AT MOST 1048576: true; the input reads as it did. -/
def harnessQueueUptoRow : OpenClaim := { program := "ytjooihelppcfkaadoor", sum := "222b2a0f5f8d4150dfb7bd448f08a86f9665695219ecbe85c98a214a50582b03", func := "skewbald/skewbaldlaw10.HarnessQueue", spec := "harnessQueue", unfollowed := true, recurses := true, named := ["skewbald/harness.nothing", "skewbald/hair.parts", "skewbald/harness.overs"], plainKeys := false, apart := false, laid := [("skewbald/hair.parts", laid_skewbald_hair_parts), ("skewbald/harness.nothing", laid_skewbald_harness_nothing), ("skewbald/harness.overs", laid_skewbald_harness_overs)], narrowed := true }
def HarnessQueueUptoSaid : Prop := harnessQueueUptoRow.holds Tryd.pinned (OpenSpec.upto harnessQueueSpec)

/-- 'skewbaldlaw10.HarnessPack', WHERE WHAT IT READS IS OF BULK AT MOST 1048576: true; the input reads as it did. -/
def harnessPackUptoRow : OpenClaim := { program := "ytjooihelppcfkaadoor", sum := "222b2a0f5f8d4150dfb7bd448f08a86f9665695219ecbe85c98a214a50582b03", func := "skewbald/skewbaldlaw10.HarnessPack", spec := "harnessPack", unfollowed := true, recurses := true, named := ["skewbald/harness.nothing", "skewbald/hair.parts", "skewbald/harness.overs"], plainKeys := false, apart := false, laid := [("skewbald/hair.parts", laid_skewbald_hair_parts), ("skewbald/harness.nothing", laid_skewbald_harness_nothing), ("skewbald/harness.overs", laid_skewbald_harness_overs)], narrowed := true }
def HarnessPackUptoSaid : Prop := harnessPackUptoRow.holds Tryd.pinned (OpenSpec.upto harnessPackSpec)

/-- 'skewbaldlaw10.HarnessKnown', WHERE WHAT IT READS IS OF BULK AT MOST 1048576: true; the input reads as it did. -/
def harnessKnownUptoRow : OpenClaim := { program := "ytjooihelppcfkaadoor", sum := "222b2a0f5f8d4150dfb7bd448f08a86f9665695219ecbe85c98a214a50582b03", func := "skewbald/skewbaldlaw10.HarnessKnown", spec := "harnessKnown", unfollowed := true, recurses := true, named := ["skewbald/harness.nothing", "skewbald/hair.parts", "skewbald/harness.overs"], plainKeys := false, apart := false, laid := [("skewbald/hair.parts", laid_skewbald_hair_parts), ("skewbald/harness.nothing", laid_skewbald_harness_nothing), ("skewbald/harness.overs", laid_skewbald_harness_overs)], narrowed := true }
def HarnessKnownUptoSaid : Prop := harnessKnownUptoRow.holds Tryd.pinned (OpenSpec.upto harnessKnownSpec)

end Rows
end Go.Proofs.YtjooihelppcfkaaDoor
