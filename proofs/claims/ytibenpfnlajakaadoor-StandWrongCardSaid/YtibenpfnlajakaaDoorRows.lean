/-
  NARROWER THAN 'FOR EVERY INPUT', by the rows' own cells (each row's printed sentence says how): StandTips: laid · StandSafes: laid · StandWiders: laid · StandTrue: laid · StandLeast: laid · StandSign: laid · StandTurned: laid · StandMore: laid · StandLead: laid · StandWider: laid · StandRoom: laid · StandWrong: laid · StandKnown: laid.
  DERIVED. THE GIVEN ROWS OF THIS SEAT. 13 by the template 'for every input the law returns true; each argument reads behind the call as it read before'; 0 by the template 'total and deterministic' (their statements: YtibenpfnlajakaaDoorTotals.lean).
  GIVEN WITH THE SEED: the statements are not yours to turn. If you find one false, say at which input.
  Laid BY PROGRAM, IN A SANDBOX (cutbox-rows.mjs): the forced cells as the released guide's own fill.sh prints them over the translation fbb31cba5b3d53cc… (all of the seat's roots in one cut). By AI agents, Wed Nov 11 2026. No macro, syntax, notation, axiom, sorry.
-/
import Derived.Test.YtibenpfnlajakaaDoorChecked
import GoSem.Claim
import GoSem.ClaimJoined
import GoSem.ClaimMapViews
import Derived.JoinedTies
import Derived.KernelRfl
namespace Go.Proofs.YtibenpfnlajakaaDoor
/- THE CELL 'sum', in the pinned program and in every row, IS THE sha256 OF THE DUMP (.gsa) THAT YtibenpfnlajakaaDoorProg.lean LOADS. Nothing in Lean hashes anything: it is a label: what it is worth is what the hold of that sum in a sandbox is worth. -/
noncomputable def Tryd.pinned : Pinned := { name := "ytibenpfnlajakaadoor", sum := "fbb31cba5b3d53cc212c4b5395b45dc08931a59b7d7db0fad846f06fd74b1298", checked := Tryd.checked }
namespace Rows
def none {H : Type} : Left H := { results := [], args := [] }

/- WHAT THE LISTED PACKAGE-LEVEL VARIABLES READ AS WHEN THE CALL BEGINS. Each datum BY PROGRAM (the guide's laid-datum.mjs) off the statement by which the dump's own 'gosem.cut.vars' lays the variable. In a bare row this is a premise. The card (YtibenpfnlajakaaDoorCards.lean) ties it to the program's text. -/
def laid_skewbald_stand_kinds {H : Type} : DataW H := .iface "func table" (.agg [.iface "func" (.lit (.string [40, 115, 107, 101, 119, 98, 97, 108, 100, 47, 115, 116, 97, 110, 100, 46, 98, 111, 111, 107, 41, 46, 102, 101, 101, 116])), .iface "func" (.lit (.string [40, 115, 107, 101, 119, 98, 97, 108, 100, 47, 115, 116, 97, 110, 100, 46, 98, 111, 111, 107, 41, 46, 98, 111, 119]))])

/-- 'skewbaldlaw02.StandTips': WHATEVER THE INPUT: true; the input reads as it did. -/
def standTipsSpec : ChangeSpec := { name := "standTips", fn := fun _ => fun
  | [d1, d2] => { results := [.lit (.bool true)], args := [d1, d2] }
  | _ => none }
def standTipsRow : OpenClaim := { program := "ytibenpfnlajakaadoor", sum := "fbb31cba5b3d53cc212c4b5395b45dc08931a59b7d7db0fad846f06fd74b1298", func := "skewbald/skewbaldlaw02.StandTips", spec := "standTips", unfollowed := true, recurses := true, named := ["skewbald/stand.kinds"], plainKeys := false, apart := false, laid := [("skewbald/stand.kinds", laid_skewbald_stand_kinds)] }
def StandTipsSaid : Prop := standTipsRow.holds Tryd.pinned (OpenSpec.ofChange standTipsSpec)

/-- ITS FALSE NEIGHBOUR: 'it returns false'. Refute it at one input. -/
def standTipsWrong : ChangeSpec := { name := "standTips", fn := fun _ => fun
  | [d1, d2] => { results := [.lit (.bool false)], args := [d1, d2] }
  | _ => none }
def StandTipsWrongFalsely : Prop := standTipsRow.holds Tryd.pinned (OpenSpec.ofChange standTipsWrong)

/-- 'skewbaldlaw02.StandSafes': WHATEVER THE INPUT: true; the input reads as it did. -/
def standSafesSpec : ChangeSpec := { name := "standSafes", fn := fun _ => fun
  | [d1, d2] => { results := [.lit (.bool true)], args := [d1, d2] }
  | _ => none }
def standSafesRow : OpenClaim := { program := "ytibenpfnlajakaadoor", sum := "fbb31cba5b3d53cc212c4b5395b45dc08931a59b7d7db0fad846f06fd74b1298", func := "skewbald/skewbaldlaw02.StandSafes", spec := "standSafes", unfollowed := true, recurses := true, named := ["skewbald/stand.kinds"], plainKeys := false, apart := false, laid := [("skewbald/stand.kinds", laid_skewbald_stand_kinds)] }
def StandSafesSaid : Prop := standSafesRow.holds Tryd.pinned (OpenSpec.ofChange standSafesSpec)

/-- ITS FALSE NEIGHBOUR: 'it returns false'. Refute it at one input. -/
def standSafesWrong : ChangeSpec := { name := "standSafes", fn := fun _ => fun
  | [d1, d2] => { results := [.lit (.bool false)], args := [d1, d2] }
  | _ => none }
def StandSafesWrongFalsely : Prop := standSafesRow.holds Tryd.pinned (OpenSpec.ofChange standSafesWrong)

/-- 'skewbaldlaw02.StandWiders': WHATEVER THE INPUT: true; the input reads as it did. -/
def standWidersSpec : ChangeSpec := { name := "standWiders", fn := fun _ => fun
  | [d1, d2] => { results := [.lit (.bool true)], args := [d1, d2] }
  | _ => none }
def standWidersRow : OpenClaim := { program := "ytibenpfnlajakaadoor", sum := "fbb31cba5b3d53cc212c4b5395b45dc08931a59b7d7db0fad846f06fd74b1298", func := "skewbald/skewbaldlaw02.StandWiders", spec := "standWiders", unfollowed := true, recurses := true, named := ["skewbald/stand.kinds"], plainKeys := false, apart := false, laid := [("skewbald/stand.kinds", laid_skewbald_stand_kinds)] }
def StandWidersSaid : Prop := standWidersRow.holds Tryd.pinned (OpenSpec.ofChange standWidersSpec)

/-- ITS FALSE NEIGHBOUR: 'it returns false'. Refute it at one input. -/
def standWidersWrong : ChangeSpec := { name := "standWiders", fn := fun _ => fun
  | [d1, d2] => { results := [.lit (.bool false)], args := [d1, d2] }
  | _ => none }
def StandWidersWrongFalsely : Prop := standWidersRow.holds Tryd.pinned (OpenSpec.ofChange standWidersWrong)

/-- 'skewbaldlaw02.StandTrue': WHATEVER THE INPUT: true; the input reads as it did. -/
def standTrueSpec : ChangeSpec := { name := "standTrue", fn := fun _ => fun
  | [d1, d2, d3] => { results := [.lit (.bool true)], args := [d1, d2, d3] }
  | _ => none }
def standTrueRow : OpenClaim := { program := "ytibenpfnlajakaadoor", sum := "fbb31cba5b3d53cc212c4b5395b45dc08931a59b7d7db0fad846f06fd74b1298", func := "skewbald/skewbaldlaw02.StandTrue", spec := "standTrue", unfollowed := true, recurses := true, named := ["skewbald/stand.kinds"], plainKeys := false, apart := false, laid := [("skewbald/stand.kinds", laid_skewbald_stand_kinds)] }
def StandTrueSaid : Prop := standTrueRow.holds Tryd.pinned (OpenSpec.ofChange standTrueSpec)

/-- ITS FALSE NEIGHBOUR: 'it returns false'. Refute it at one input. -/
def standTrueWrong : ChangeSpec := { name := "standTrue", fn := fun _ => fun
  | [d1, d2, d3] => { results := [.lit (.bool false)], args := [d1, d2, d3] }
  | _ => none }
def StandTrueWrongFalsely : Prop := standTrueRow.holds Tryd.pinned (OpenSpec.ofChange standTrueWrong)

/-- 'skewbaldlaw02.StandLeast': WHATEVER THE INPUT: true; the input reads as it did. -/
def standLeastSpec : ChangeSpec := { name := "standLeast", fn := fun _ => fun
  | [d1, d2] => { results := [.lit (.bool true)], args := [d1, d2] }
  | _ => none }
def standLeastRow : OpenClaim := { program := "ytibenpfnlajakaadoor", sum := "fbb31cba5b3d53cc212c4b5395b45dc08931a59b7d7db0fad846f06fd74b1298", func := "skewbald/skewbaldlaw02.StandLeast", spec := "standLeast", unfollowed := true, recurses := true, named := ["skewbald/stand.kinds"], plainKeys := false, apart := false, laid := [("skewbald/stand.kinds", laid_skewbald_stand_kinds)] }
def StandLeastSaid : Prop := standLeastRow.holds Tryd.pinned (OpenSpec.ofChange standLeastSpec)

/-- ITS FALSE NEIGHBOUR: 'it returns false'. Refute it at one input. -/
def standLeastWrong : ChangeSpec := { name := "standLeast", fn := fun _ => fun
  | [d1, d2] => { results := [.lit (.bool false)], args := [d1, d2] }
  | _ => none }
def StandLeastWrongFalsely : Prop := standLeastRow.holds Tryd.pinned (OpenSpec.ofChange standLeastWrong)

/-- 'skewbaldlaw02.StandSign': WHATEVER THE INPUT: true; the input reads as it did. -/
def standSignSpec : ChangeSpec := { name := "standSign", fn := fun _ => fun
  | [d1, d2] => { results := [.lit (.bool true)], args := [d1, d2] }
  | _ => none }
def standSignRow : OpenClaim := { program := "ytibenpfnlajakaadoor", sum := "fbb31cba5b3d53cc212c4b5395b45dc08931a59b7d7db0fad846f06fd74b1298", func := "skewbald/skewbaldlaw02.StandSign", spec := "standSign", unfollowed := true, recurses := true, named := ["skewbald/stand.kinds"], plainKeys := false, apart := false, laid := [("skewbald/stand.kinds", laid_skewbald_stand_kinds)] }
def StandSignSaid : Prop := standSignRow.holds Tryd.pinned (OpenSpec.ofChange standSignSpec)

/-- ITS FALSE NEIGHBOUR: 'it returns false'. Refute it at one input. -/
def standSignWrong : ChangeSpec := { name := "standSign", fn := fun _ => fun
  | [d1, d2] => { results := [.lit (.bool false)], args := [d1, d2] }
  | _ => none }
def StandSignWrongFalsely : Prop := standSignRow.holds Tryd.pinned (OpenSpec.ofChange standSignWrong)

/-- 'skewbaldlaw02.StandTurned': WHATEVER THE INPUT: true; the input reads as it did. -/
def standTurnedSpec : ChangeSpec := { name := "standTurned", fn := fun _ => fun
  | [d1, d2] => { results := [.lit (.bool true)], args := [d1, d2] }
  | _ => none }
def standTurnedRow : OpenClaim := { program := "ytibenpfnlajakaadoor", sum := "fbb31cba5b3d53cc212c4b5395b45dc08931a59b7d7db0fad846f06fd74b1298", func := "skewbald/skewbaldlaw02.StandTurned", spec := "standTurned", unfollowed := true, recurses := true, named := ["skewbald/stand.kinds"], plainKeys := false, apart := false, laid := [("skewbald/stand.kinds", laid_skewbald_stand_kinds)] }
def StandTurnedSaid : Prop := standTurnedRow.holds Tryd.pinned (OpenSpec.ofChange standTurnedSpec)

/-- ITS FALSE NEIGHBOUR: 'it returns false'. Refute it at one input. -/
def standTurnedWrong : ChangeSpec := { name := "standTurned", fn := fun _ => fun
  | [d1, d2] => { results := [.lit (.bool false)], args := [d1, d2] }
  | _ => none }
def StandTurnedWrongFalsely : Prop := standTurnedRow.holds Tryd.pinned (OpenSpec.ofChange standTurnedWrong)

/-- 'skewbaldlaw02.StandMore': WHATEVER THE INPUT: true; the input reads as it did. -/
def standMoreSpec : ChangeSpec := { name := "standMore", fn := fun _ => fun
  | [d1, d2, d3] => { results := [.lit (.bool true)], args := [d1, d2, d3] }
  | _ => none }
def standMoreRow : OpenClaim := { program := "ytibenpfnlajakaadoor", sum := "fbb31cba5b3d53cc212c4b5395b45dc08931a59b7d7db0fad846f06fd74b1298", func := "skewbald/skewbaldlaw02.StandMore", spec := "standMore", unfollowed := true, recurses := true, named := ["skewbald/stand.kinds"], plainKeys := false, apart := false, laid := [("skewbald/stand.kinds", laid_skewbald_stand_kinds)] }
def StandMoreSaid : Prop := standMoreRow.holds Tryd.pinned (OpenSpec.ofChange standMoreSpec)

/-- ITS FALSE NEIGHBOUR: 'it returns false'. Refute it at one input. -/
def standMoreWrong : ChangeSpec := { name := "standMore", fn := fun _ => fun
  | [d1, d2, d3] => { results := [.lit (.bool false)], args := [d1, d2, d3] }
  | _ => none }
def StandMoreWrongFalsely : Prop := standMoreRow.holds Tryd.pinned (OpenSpec.ofChange standMoreWrong)

/-- 'skewbaldlaw02.StandLead': WHATEVER THE INPUT: true; the input reads as it did. -/
def standLeadSpec : ChangeSpec := { name := "standLead", fn := fun _ => fun
  | [d1, d2] => { results := [.lit (.bool true)], args := [d1, d2] }
  | _ => none }
def standLeadRow : OpenClaim := { program := "ytibenpfnlajakaadoor", sum := "fbb31cba5b3d53cc212c4b5395b45dc08931a59b7d7db0fad846f06fd74b1298", func := "skewbald/skewbaldlaw02.StandLead", spec := "standLead", unfollowed := true, recurses := true, named := ["skewbald/stand.kinds"], plainKeys := false, apart := false, laid := [("skewbald/stand.kinds", laid_skewbald_stand_kinds)] }
def StandLeadSaid : Prop := standLeadRow.holds Tryd.pinned (OpenSpec.ofChange standLeadSpec)

/-- ITS FALSE NEIGHBOUR: 'it returns false'. Refute it at one input. -/
def standLeadWrong : ChangeSpec := { name := "standLead", fn := fun _ => fun
  | [d1, d2] => { results := [.lit (.bool false)], args := [d1, d2] }
  | _ => none }
def StandLeadWrongFalsely : Prop := standLeadRow.holds Tryd.pinned (OpenSpec.ofChange standLeadWrong)

/-- 'skewbaldlaw02.StandWider': WHATEVER THE INPUT: true; the input reads as it did. -/
def standWiderSpec : ChangeSpec := { name := "standWider", fn := fun _ => fun
  | [d1, d2] => { results := [.lit (.bool true)], args := [d1, d2] }
  | _ => none }
def standWiderRow : OpenClaim := { program := "ytibenpfnlajakaadoor", sum := "fbb31cba5b3d53cc212c4b5395b45dc08931a59b7d7db0fad846f06fd74b1298", func := "skewbald/skewbaldlaw02.StandWider", spec := "standWider", unfollowed := true, recurses := true, named := ["skewbald/stand.kinds"], plainKeys := false, apart := false, laid := [("skewbald/stand.kinds", laid_skewbald_stand_kinds)] }
def StandWiderSaid : Prop := standWiderRow.holds Tryd.pinned (OpenSpec.ofChange standWiderSpec)

/-- ITS FALSE NEIGHBOUR: 'it returns false'. Refute it at one input. -/
def standWiderWrong : ChangeSpec := { name := "standWider", fn := fun _ => fun
  | [d1, d2] => { results := [.lit (.bool false)], args := [d1, d2] }
  | _ => none }
def StandWiderWrongFalsely : Prop := standWiderRow.holds Tryd.pinned (OpenSpec.ofChange standWiderWrong)

/-- 'skewbaldlaw02.StandRoom': WHATEVER THE INPUT: true; the input reads as it did. -/
def standRoomSpec : ChangeSpec := { name := "standRoom", fn := fun _ => fun
  | [d1, d2] => { results := [.lit (.bool true)], args := [d1, d2] }
  | _ => none }
def standRoomRow : OpenClaim := { program := "ytibenpfnlajakaadoor", sum := "fbb31cba5b3d53cc212c4b5395b45dc08931a59b7d7db0fad846f06fd74b1298", func := "skewbald/skewbaldlaw02.StandRoom", spec := "standRoom", unfollowed := true, recurses := true, named := ["skewbald/stand.kinds"], plainKeys := false, apart := false, laid := [("skewbald/stand.kinds", laid_skewbald_stand_kinds)] }
def StandRoomSaid : Prop := standRoomRow.holds Tryd.pinned (OpenSpec.ofChange standRoomSpec)

/-- ITS FALSE NEIGHBOUR: 'it returns false'. Refute it at one input. -/
def standRoomWrong : ChangeSpec := { name := "standRoom", fn := fun _ => fun
  | [d1, d2] => { results := [.lit (.bool false)], args := [d1, d2] }
  | _ => none }
def StandRoomWrongFalsely : Prop := standRoomRow.holds Tryd.pinned (OpenSpec.ofChange standRoomWrong)

/-- 'skewbaldlaw02.StandWrong': WHATEVER THE INPUT: true; the input reads as it did. -/
def standWrongSpec : ChangeSpec := { name := "standWrong", fn := fun _ => fun
  | [d1, d2] => { results := [.lit (.bool true)], args := [d1, d2] }
  | _ => none }
def standWrongRow : OpenClaim := { program := "ytibenpfnlajakaadoor", sum := "fbb31cba5b3d53cc212c4b5395b45dc08931a59b7d7db0fad846f06fd74b1298", func := "skewbald/skewbaldlaw02.StandWrong", spec := "standWrong", unfollowed := true, recurses := true, named := ["skewbald/stand.kinds"], plainKeys := false, apart := false, laid := [("skewbald/stand.kinds", laid_skewbald_stand_kinds)] }
def StandWrongSaid : Prop := standWrongRow.holds Tryd.pinned (OpenSpec.ofChange standWrongSpec)

/-- ITS FALSE NEIGHBOUR: 'it returns false'. Refute it at one input. -/
def standWrongWrong : ChangeSpec := { name := "standWrong", fn := fun _ => fun
  | [d1, d2] => { results := [.lit (.bool false)], args := [d1, d2] }
  | _ => none }
def StandWrongWrongFalsely : Prop := standWrongRow.holds Tryd.pinned (OpenSpec.ofChange standWrongWrong)

/-- 'skewbaldlaw02.StandKnown': WHATEVER THE INPUT: true; the input reads as it did. -/
def standKnownSpec : ChangeSpec := { name := "standKnown", fn := fun _ => fun
  | [] => { results := [.lit (.bool true)], args := [] }
  | _ => none }
def standKnownRow : OpenClaim := { program := "ytibenpfnlajakaadoor", sum := "fbb31cba5b3d53cc212c4b5395b45dc08931a59b7d7db0fad846f06fd74b1298", func := "skewbald/skewbaldlaw02.StandKnown", spec := "standKnown", unfollowed := true, recurses := true, named := ["skewbald/stand.kinds"], plainKeys := false, apart := false, laid := [("skewbald/stand.kinds", laid_skewbald_stand_kinds)] }
def StandKnownSaid : Prop := standKnownRow.holds Tryd.pinned (OpenSpec.ofChange standKnownSpec)

/-- ITS FALSE NEIGHBOUR: 'it returns false'. Refute it at one input. -/
def standKnownWrong : ChangeSpec := { name := "standKnown", fn := fun _ => fun
  | [] => { results := [.lit (.bool false)], args := [] }
  | _ => none }
def StandKnownWrongFalsely : Prop := standKnownRow.holds Tryd.pinned (OpenSpec.ofChange standKnownWrong)

/- THE SECOND FORM. 'bulk': how many values and letters a reading holds, each counted each time it is reached (what is shared counts as often as it is met; a slice's spare places count too). A statement '..UptoSaid' is the law's where the arguments, and the package variables that the reading takes, are together of bulk at most 1048576: NARROWER than '..Said'. Prove '..Said' where nothing that the law and all that it calls make is longer than what came in: it says more and counts as full. Else prove '..UptoSaid'. A law counts once. -/
mutual
def uptoBulk {H : Type} : DataW H → Nat
  | .lit (.string bytes) => bytes.length + 1
  | .lit _ => 1
  | .nil => 1
  | .ptr d => uptoBulk d + 1
  | .slice elems spare => uptoBulkAll elems + uptoBulkAll spare + 1
  | .agg parts => uptoBulkAll parts + 1
  | .iface _ d => uptoBulk d + 1
  | .map entries => uptoBulkEntries entries + 1
  | .held _ => 1
def uptoBulkAll {H : Type} : List (DataW H) → Nat
  | [] => 0
  | d :: r => uptoBulk d + uptoBulkAll r
def uptoBulkEntries {H : Type} : List (Lit × DataW H) → Nat
  | [] => 0
  | x :: r => uptoBulkEntry x + uptoBulkEntries r
def uptoBulkEntry {H : Type} : Lit × DataW H → Nat
  | (.string bytes, d) => bytes.length + uptoBulk d + 1
  | (_, d) => uptoBulk d + 1
 end
def uptoSmall : (H : Type) → List (DataW H) → Bool := fun _ ds => decide (uptoBulkAll ds ≤ 1048576)
def OpenSpec.upto (s : _root_.Go.ChangeSpec) : _root_.Go.OpenSpec := { _root_.Go.OpenSpec.ofChange s with cond := some uptoSmall }

/-- 'skewbaldlaw02.StandTips', WHERE WHAT IT READS IS OF BULK AT MOST 1048576: true; the input reads as it did. -/
def standTipsUptoRow : OpenClaim := { program := "ytibenpfnlajakaadoor", sum := "fbb31cba5b3d53cc212c4b5395b45dc08931a59b7d7db0fad846f06fd74b1298", func := "skewbald/skewbaldlaw02.StandTips", spec := "standTips", unfollowed := true, recurses := true, named := ["skewbald/stand.kinds"], plainKeys := false, apart := false, laid := [("skewbald/stand.kinds", laid_skewbald_stand_kinds)], narrowed := true }
def StandTipsUptoSaid : Prop := standTipsUptoRow.holds Tryd.pinned (OpenSpec.upto standTipsSpec)

/-- 'skewbaldlaw02.StandSafes', WHERE WHAT IT READS IS OF BULK AT MOST 1048576: true; the input reads as it did. -/
def standSafesUptoRow : OpenClaim := { program := "ytibenpfnlajakaadoor", sum := "fbb31cba5b3d53cc212c4b5395b45dc08931a59b7d7db0fad846f06fd74b1298", func := "skewbald/skewbaldlaw02.StandSafes", spec := "standSafes", unfollowed := true, recurses := true, named := ["skewbald/stand.kinds"], plainKeys := false, apart := false, laid := [("skewbald/stand.kinds", laid_skewbald_stand_kinds)], narrowed := true }
def StandSafesUptoSaid : Prop := standSafesUptoRow.holds Tryd.pinned (OpenSpec.upto standSafesSpec)

/-- 'skewbaldlaw02.StandWiders', WHERE WHAT IT READS IS OF BULK AT MOST 1048576: true; the input reads as it did. -/
def standWidersUptoRow : OpenClaim := { program := "ytibenpfnlajakaadoor", sum := "fbb31cba5b3d53cc212c4b5395b45dc08931a59b7d7db0fad846f06fd74b1298", func := "skewbald/skewbaldlaw02.StandWiders", spec := "standWiders", unfollowed := true, recurses := true, named := ["skewbald/stand.kinds"], plainKeys := false, apart := false, laid := [("skewbald/stand.kinds", laid_skewbald_stand_kinds)], narrowed := true }
def StandWidersUptoSaid : Prop := standWidersUptoRow.holds Tryd.pinned (OpenSpec.upto standWidersSpec)

/-- 'skewbaldlaw02.StandTrue', WHERE WHAT IT READS IS OF BULK AT MOST 1048576: true; the input reads as it did. -/
def standTrueUptoRow : OpenClaim := { program := "ytibenpfnlajakaadoor", sum := "fbb31cba5b3d53cc212c4b5395b45dc08931a59b7d7db0fad846f06fd74b1298", func := "skewbald/skewbaldlaw02.StandTrue", spec := "standTrue", unfollowed := true, recurses := true, named := ["skewbald/stand.kinds"], plainKeys := false, apart := false, laid := [("skewbald/stand.kinds", laid_skewbald_stand_kinds)], narrowed := true }
def StandTrueUptoSaid : Prop := standTrueUptoRow.holds Tryd.pinned (OpenSpec.upto standTrueSpec)

/-- 'skewbaldlaw02.StandLeast', WHERE WHAT IT READS IS OF BULK AT MOST 1048576: true; the input reads as it did. -/
def standLeastUptoRow : OpenClaim := { program := "ytibenpfnlajakaadoor", sum := "fbb31cba5b3d53cc212c4b5395b45dc08931a59b7d7db0fad846f06fd74b1298", func := "skewbald/skewbaldlaw02.StandLeast", spec := "standLeast", unfollowed := true, recurses := true, named := ["skewbald/stand.kinds"], plainKeys := false, apart := false, laid := [("skewbald/stand.kinds", laid_skewbald_stand_kinds)], narrowed := true }
def StandLeastUptoSaid : Prop := standLeastUptoRow.holds Tryd.pinned (OpenSpec.upto standLeastSpec)

/-- 'skewbaldlaw02.StandSign', WHERE WHAT IT READS IS OF BULK AT MOST 1048576: true; the input reads as it did. -/
def standSignUptoRow : OpenClaim := { program := "ytibenpfnlajakaadoor", sum := "fbb31cba5b3d53cc212c4b5395b45dc08931a59b7d7db0fad846f06fd74b1298", func := "skewbald/skewbaldlaw02.StandSign", spec := "standSign", unfollowed := true, recurses := true, named := ["skewbald/stand.kinds"], plainKeys := false, apart := false, laid := [("skewbald/stand.kinds", laid_skewbald_stand_kinds)], narrowed := true }
def StandSignUptoSaid : Prop := standSignUptoRow.holds Tryd.pinned (OpenSpec.upto standSignSpec)

/-- 'skewbaldlaw02.StandTurned', WHERE WHAT IT READS IS OF BULK AT MOST 1048576: true; the input reads as it did. -/
def standTurnedUptoRow : OpenClaim := { program := "ytibenpfnlajakaadoor", sum := "fbb31cba5b3d53cc212c4b5395b45dc08931a59b7d7db0fad846f06fd74b1298", func := "skewbald/skewbaldlaw02.StandTurned", spec := "standTurned", unfollowed := true, recurses := true, named := ["skewbald/stand.kinds"], plainKeys := false, apart := false, laid := [("skewbald/stand.kinds", laid_skewbald_stand_kinds)], narrowed := true }
def StandTurnedUptoSaid : Prop := standTurnedUptoRow.holds Tryd.pinned (OpenSpec.upto standTurnedSpec)

/-- 'skewbaldlaw02.StandMore', WHERE WHAT IT READS IS OF BULK AT MOST 1048576: true; the input reads as it did. -/
def standMoreUptoRow : OpenClaim := { program := "ytibenpfnlajakaadoor", sum := "fbb31cba5b3d53cc212c4b5395b45dc08931a59b7d7db0fad846f06fd74b1298", func := "skewbald/skewbaldlaw02.StandMore", spec := "standMore", unfollowed := true, recurses := true, named := ["skewbald/stand.kinds"], plainKeys := false, apart := false, laid := [("skewbald/stand.kinds", laid_skewbald_stand_kinds)], narrowed := true }
def StandMoreUptoSaid : Prop := standMoreUptoRow.holds Tryd.pinned (OpenSpec.upto standMoreSpec)

/-- 'skewbaldlaw02.StandLead', WHERE WHAT IT READS IS OF BULK AT MOST 1048576: true; the input reads as it did. -/
def standLeadUptoRow : OpenClaim := { program := "ytibenpfnlajakaadoor", sum := "fbb31cba5b3d53cc212c4b5395b45dc08931a59b7d7db0fad846f06fd74b1298", func := "skewbald/skewbaldlaw02.StandLead", spec := "standLead", unfollowed := true, recurses := true, named := ["skewbald/stand.kinds"], plainKeys := false, apart := false, laid := [("skewbald/stand.kinds", laid_skewbald_stand_kinds)], narrowed := true }
def StandLeadUptoSaid : Prop := standLeadUptoRow.holds Tryd.pinned (OpenSpec.upto standLeadSpec)

/-- 'skewbaldlaw02.StandWider', WHERE WHAT IT READS IS OF BULK AT MOST 1048576: true; the input reads as it did. -/
def standWiderUptoRow : OpenClaim := { program := "ytibenpfnlajakaadoor", sum := "fbb31cba5b3d53cc212c4b5395b45dc08931a59b7d7db0fad846f06fd74b1298", func := "skewbald/skewbaldlaw02.StandWider", spec := "standWider", unfollowed := true, recurses := true, named := ["skewbald/stand.kinds"], plainKeys := false, apart := false, laid := [("skewbald/stand.kinds", laid_skewbald_stand_kinds)], narrowed := true }
def StandWiderUptoSaid : Prop := standWiderUptoRow.holds Tryd.pinned (OpenSpec.upto standWiderSpec)

/-- 'skewbaldlaw02.StandRoom', WHERE WHAT IT READS IS OF BULK AT MOST 1048576: true; the input reads as it did. -/
def standRoomUptoRow : OpenClaim := { program := "ytibenpfnlajakaadoor", sum := "fbb31cba5b3d53cc212c4b5395b45dc08931a59b7d7db0fad846f06fd74b1298", func := "skewbald/skewbaldlaw02.StandRoom", spec := "standRoom", unfollowed := true, recurses := true, named := ["skewbald/stand.kinds"], plainKeys := false, apart := false, laid := [("skewbald/stand.kinds", laid_skewbald_stand_kinds)], narrowed := true }
def StandRoomUptoSaid : Prop := standRoomUptoRow.holds Tryd.pinned (OpenSpec.upto standRoomSpec)

/-- 'skewbaldlaw02.StandWrong', WHERE WHAT IT READS IS OF BULK AT MOST 1048576: true; the input reads as it did. -/
def standWrongUptoRow : OpenClaim := { program := "ytibenpfnlajakaadoor", sum := "fbb31cba5b3d53cc212c4b5395b45dc08931a59b7d7db0fad846f06fd74b1298", func := "skewbald/skewbaldlaw02.StandWrong", spec := "standWrong", unfollowed := true, recurses := true, named := ["skewbald/stand.kinds"], plainKeys := false, apart := false, laid := [("skewbald/stand.kinds", laid_skewbald_stand_kinds)], narrowed := true }
def StandWrongUptoSaid : Prop := standWrongUptoRow.holds Tryd.pinned (OpenSpec.upto standWrongSpec)

/-- 'skewbaldlaw02.StandKnown', WHERE WHAT IT READS IS OF BULK AT MOST 1048576: true; the input reads as it did. -/
def standKnownUptoRow : OpenClaim := { program := "ytibenpfnlajakaadoor", sum := "fbb31cba5b3d53cc212c4b5395b45dc08931a59b7d7db0fad846f06fd74b1298", func := "skewbald/skewbaldlaw02.StandKnown", spec := "standKnown", unfollowed := true, recurses := true, named := ["skewbald/stand.kinds"], plainKeys := false, apart := false, laid := [("skewbald/stand.kinds", laid_skewbald_stand_kinds)], narrowed := true }
def StandKnownUptoSaid : Prop := standKnownUptoRow.holds Tryd.pinned (OpenSpec.upto standKnownSpec)

end Rows
end Go.Proofs.YtibenpfnlajakaaDoor
