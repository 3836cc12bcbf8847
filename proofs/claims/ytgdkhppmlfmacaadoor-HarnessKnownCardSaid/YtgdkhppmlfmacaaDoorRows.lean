/-
  NARROWER THAN 'FOR EVERY INPUT', by the rows' own cells (each row's printed sentence says how): StandKnown: laid · HairKnown: laid · HarnessKnown: laid.
  DERIVED. THE GIVEN ROWS OF THIS SEAT. 3 by the template 'for every input the law returns true; each argument reads behind the call as it read before'; 0 by the template 'total and deterministic' (their statements: YtgdkhppmlfmacaaDoorTotals.lean).
  GIVEN WITH THE SEED: the statements are not yours to turn. If you find one false, say at which input.
  Laid BY PROGRAM, IN A SANDBOX (cutbox-rows.mjs): the forced cells as the released guide's own fill.sh prints them over the translation 60659bc45ebf8c16… (all of the seat's roots in one cut). By AI agents, Wed Nov 11 2026. No macro, syntax, notation, axiom, sorry.
-/
import Derived.Test.YtgdkhppmlfmacaaDoorChecked
import GoSem.Claim
import GoSem.ClaimJoined
import GoSem.ClaimMapViews
import Derived.JoinedTies
import Derived.KernelRfl
namespace Go.Proofs.YtgdkhppmlfmacaaDoor
/- THE CELL 'sum', in the pinned program and in every row, IS THE sha256 OF THE DUMP (.gsa) THAT YtgdkhppmlfmacaaDoorProg.lean LOADS. Nothing in Lean hashes anything: it is a label: what it is worth is what the hold of that sum in a sandbox is worth. -/
noncomputable def Tryd.pinned : Pinned := { name := "ytgdkhppmlfmacaadoor", sum := "60659bc45ebf8c164a9dd8cb94ccf498ff64d1d235277c3831a4fb94e5f11009", checked := Tryd.checked }
namespace Rows
def none {H : Type} : Left H := { results := [], args := [] }

/- WHAT THE LISTED PACKAGE-LEVEL VARIABLES READ AS WHEN THE CALL BEGINS. Each datum BY PROGRAM (the guide's laid-datum.mjs) off the statement by which the dump's own 'gosem.cut.vars' lays the variable. In a bare row this is a premise. The card (YtgdkhppmlfmacaaDoorCards.lean) ties it to the program's text. -/
def laid_skewbald_stand_kinds {H : Type} : DataW H := .iface "func table" (.agg [.iface "func" (.lit (.string [40, 115, 107, 101, 119, 98, 97, 108, 100, 47, 115, 116, 97, 110, 100, 46, 98, 111, 111, 107, 41, 46, 102, 101, 101, 116])), .iface "func" (.lit (.string [40, 115, 107, 101, 119, 98, 97, 108, 100, 47, 115, 116, 97, 110, 100, 46, 98, 111, 111, 107, 41, 46, 98, 111, 119]))])
def laid_skewbald_hair_parts {H : Type} : DataW H := .iface "func table" (.agg [.iface "func" (.lit (.string [40, 115, 107, 101, 119, 98, 97, 108, 100, 47, 104, 97, 105, 114, 46, 104, 111, 114, 115, 101, 41, 46, 109, 97, 110, 101])), .iface "func" (.lit (.string [40, 115, 107, 101, 119, 98, 97, 108, 100, 47, 104, 97, 105, 114, 46, 104, 111, 114, 115, 101, 41, 46, 116, 97, 105, 108]))])
def laid_skewbald_harness_nothing {H : Type} : DataW H := .agg [.lit (.int .i64 (-1)), .lit (.int .i64 (-1))]
def laid_skewbald_harness_overs {H : Type} : DataW H := .iface "func table" (.agg [.iface "func" (.lit (.string [40, 115, 107, 101, 119, 98, 97, 108, 100, 47, 104, 97, 114, 110, 101, 115, 115, 46, 98, 111, 111, 107, 41, 46, 108, 101, 97, 115, 116])), .iface "func" (.lit (.string [40, 115, 107, 101, 119, 98, 97, 108, 100, 47, 104, 97, 114, 110, 101, 115, 115, 46, 98, 111, 111, 107, 41, 46, 109, 111, 115, 116]))])

/-- 'skewbaldlaw02.StandKnown': WHATEVER THE INPUT: true; the input reads as it did. -/
def standKnownSpec : ChangeSpec := { name := "standKnown", fn := fun _ => fun
  | [] => { results := [.lit (.bool true)], args := [] }
  | _ => none }
def standKnownRow : OpenClaim := { program := "ytgdkhppmlfmacaadoor", sum := "60659bc45ebf8c164a9dd8cb94ccf498ff64d1d235277c3831a4fb94e5f11009", func := "skewbald/skewbaldlaw02.StandKnown", spec := "standKnown", unfollowed := true, recurses := true, named := ["skewbald/stand.kinds"], plainKeys := false, apart := false, laid := [("skewbald/stand.kinds", laid_skewbald_stand_kinds)] }
def StandKnownSaid : Prop := standKnownRow.holds Tryd.pinned (OpenSpec.ofChange standKnownSpec)

/-- ITS FALSE NEIGHBOUR: 'it returns false'. Refute it at one input. -/
def standKnownWrong : ChangeSpec := { name := "standKnown", fn := fun _ => fun
  | [] => { results := [.lit (.bool false)], args := [] }
  | _ => none }
def StandKnownWrongFalsely : Prop := standKnownRow.holds Tryd.pinned (OpenSpec.ofChange standKnownWrong)

/-- 'skewbaldlaw06.HairKnown': WHATEVER THE INPUT: true; the input reads as it did. -/
def hairKnownSpec : ChangeSpec := { name := "hairKnown", fn := fun _ => fun
  | [] => { results := [.lit (.bool true)], args := [] }
  | _ => none }
def hairKnownRow : OpenClaim := { program := "ytgdkhppmlfmacaadoor", sum := "60659bc45ebf8c164a9dd8cb94ccf498ff64d1d235277c3831a4fb94e5f11009", func := "skewbald/skewbaldlaw06.HairKnown", spec := "hairKnown", unfollowed := true, recurses := true, named := ["skewbald/hair.parts"], plainKeys := false, apart := false, laid := [("skewbald/hair.parts", laid_skewbald_hair_parts)] }
def HairKnownSaid : Prop := hairKnownRow.holds Tryd.pinned (OpenSpec.ofChange hairKnownSpec)

/-- ITS FALSE NEIGHBOUR: 'it returns false'. Refute it at one input. -/
def hairKnownWrong : ChangeSpec := { name := "hairKnown", fn := fun _ => fun
  | [] => { results := [.lit (.bool false)], args := [] }
  | _ => none }
def HairKnownWrongFalsely : Prop := hairKnownRow.holds Tryd.pinned (OpenSpec.ofChange hairKnownWrong)

/-- 'skewbaldlaw10.HarnessKnown': WHATEVER THE INPUT: true; the input reads as it did. -/
def harnessKnownSpec : ChangeSpec := { name := "harnessKnown", fn := fun _ => fun
  | [] => { results := [.lit (.bool true)], args := [] }
  | _ => none }
def harnessKnownRow : OpenClaim := { program := "ytgdkhppmlfmacaadoor", sum := "60659bc45ebf8c164a9dd8cb94ccf498ff64d1d235277c3831a4fb94e5f11009", func := "skewbald/skewbaldlaw10.HarnessKnown", spec := "harnessKnown", unfollowed := true, recurses := true, named := ["skewbald/harness.nothing", "skewbald/hair.parts", "skewbald/harness.overs"], plainKeys := false, apart := false, laid := [("skewbald/hair.parts", laid_skewbald_hair_parts), ("skewbald/harness.nothing", laid_skewbald_harness_nothing), ("skewbald/harness.overs", laid_skewbald_harness_overs)] }
def HarnessKnownSaid : Prop := harnessKnownRow.holds Tryd.pinned (OpenSpec.ofChange harnessKnownSpec)

/-- ITS FALSE NEIGHBOUR: 'it returns false'. Refute it at one input. -/
def harnessKnownWrong : ChangeSpec := { name := "harnessKnown", fn := fun _ => fun
  | [] => { results := [.lit (.bool false)], args := [] }
  | _ => none }
def HarnessKnownWrongFalsely : Prop := harnessKnownRow.holds Tryd.pinned (OpenSpec.ofChange harnessKnownWrong)

/- THE SECOND FORM. 'bulk': how many values and letters a reading holds, each counted each time it is reached (what is shared counts as often as it is met; a slice's spare places count too). A statement '..UptoSaid' is the law's where the arguments, and the package variables that the reading takes, are together of bulk at most 1048576: NARROWER than '..Said'. Prove '..Said' where nothing that the law and all that it calls make is longer than what came in: it says more and counts as full. Else prove '..UptoSaid'. A law counts once. -/
mutual
def uptoBulk {H : Type} : DataW H → Nat
  | .lit (.string bytes) => bytes.length + 1
  | .lit _ => 1
  | .nil => 1
  | .ptr d => uptoBulk d + 1
  | .slice elems spare => uptoBulkAll elems + uptoBulkAll spare + 1
  | .agg parts => uptoBulkAll parts + 1
  | .iface _ d => uptoBulk d + 1
  | .map entries => uptoBulkEntries entries + 1
  | .held _ => 1
def uptoBulkAll {H : Type} : List (DataW H) → Nat
  | [] => 0
  | d :: r => uptoBulk d + uptoBulkAll r
def uptoBulkEntries {H : Type} : List (Lit × DataW H) → Nat
  | [] => 0
  | x :: r => uptoBulkEntry x + uptoBulkEntries r
def uptoBulkEntry {H : Type} : Lit × DataW H → Nat
  | (.string bytes, d) => bytes.length + uptoBulk d + 1
  | (_, d) => uptoBulk d + 1
 end
def uptoSmall : (H : Type) → List (DataW H) → Bool := fun _ ds => decide (uptoBulkAll ds ≤ 1048576)
def OpenSpec.upto (s : _root_.Go.ChangeSpec) : _root_.Go.OpenSpec := { _root_.Go.OpenSpec.ofChange s with cond := some uptoSmall }

/-- 'skewbaldlaw02.StandKnown', WHERE WHAT IT READS IS OF BULK AT MOST 1048576: true; the input reads as it did. -/
def standKnownUptoRow : OpenClaim := { program := "ytgdkhppmlfmacaadoor", sum := "60659bc45ebf8c164a9dd8cb94ccf498ff64d1d235277c3831a4fb94e5f11009", func := "skewbald/skewbaldlaw02.StandKnown", spec := "standKnown", unfollowed := true, recurses := true, named := ["skewbald/stand.kinds"], plainKeys := false, apart := false, laid := [("skewbald/stand.kinds", laid_skewbald_stand_kinds)], narrowed := true }
def StandKnownUptoSaid : Prop := standKnownUptoRow.holds Tryd.pinned (OpenSpec.upto standKnownSpec)

/-- 'skewbaldlaw06.HairKnown', WHERE WHAT IT READS IS OF BULK AT MOST 1048576: true; the input reads as it did. -/
def hairKnownUptoRow : OpenClaim := { program := "ytgdkhppmlfmacaadoor", sum := "60659bc45ebf8c164a9dd8cb94ccf498ff64d1d235277c3831a4fb94e5f11009", func := "skewbald/skewbaldlaw06.HairKnown", spec := "hairKnown", unfollowed := true, recurses := true, named := ["skewbald/hair.parts"], plainKeys := false, apart := false, laid := [("skewbald/hair.parts", laid_skewbald_hair_parts)], narrowed := true }
def HairKnownUptoSaid : Prop := hairKnownUptoRow.holds Tryd.pinned (OpenSpec.upto hairKnownSpec)

/-- 'skewbaldlaw10.HarnessKnown', WHERE WHAT IT READS IS OF BULK AT MOST 1048576: true; the input reads as it did. -/
def harnessKnownUptoRow : OpenClaim := { program := "ytgdkhppmlfmacaadoor", sum := "60659bc45ebf8c164a9dd8cb94ccf498ff64d1d235277c3831a4fb94e5f11009", func := "skewbald/skewbaldlaw10.HarnessKnown", spec := "harnessKnown", unfollowed := true, recurses := true, named := ["skewbald/harness.nothing", "skewbald/hair.parts", "skewbald/harness.overs"], plainKeys := false, apart := false, laid := [("skewbald/hair.parts", laid_skewbald_hair_parts), ("skewbald/harness.nothing", laid_skewbald_harness_nothing), ("skewbald/harness.overs", laid_skewbald_harness_overs)], narrowed := true }
def HarnessKnownUptoSaid : Prop := harnessKnownUptoRow.holds Tryd.pinned (OpenSpec.upto harnessKnownSpec)

end Rows
end Go.Proofs.YtgdkhppmlfmacaaDoor
