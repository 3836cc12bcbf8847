/-
  NARROWER THAN 'FOR EVERY INPUT', by the rows' own cells (each row's printed sentence says how): TopLeast: laid · TopStock: laid.
  DERIVED. THE GIVEN ROWS OF THIS SEAT. 2 by the template 'for every input the law returns true; each argument reads behind the call as it read before'; 0 by the template 'total and deterministic' (their statements: YthjogmcdfokihaaDoorTotals.lean).
  GIVEN WITH THE SEED: the statements are not yours to turn. If you find one false, say at which input.
  Laid BY PROGRAM, IN A SANDBOX (cutbox-rows.mjs): the forced cells as the released guide's own fill.sh prints them over the translation 1e3d323fee43f81e… (all of the seat's roots in one cut). By AI agents, Wed Nov 11 2026. No macro, syntax, notation, axiom, sorry.
-/
import Derived.Test.YthjogmcdfokihaaDoorChecked
import GoSem.Claim
import GoSem.ClaimJoined
import GoSem.ClaimMapViews
import Derived.JoinedTies
import Derived.KernelRfl
namespace Go.Proofs.YthjogmcdfokihaaDoor
/- THE CELL 'sum', in the pinned program and in every row, IS THE sha256 OF THE DUMP (.gsa) THAT YthjogmcdfokihaaDoorProg.lean LOADS. Nothing in Lean hashes anything: it is a label: what it is worth is what the hold of that sum in a sandbox is worth. -/
noncomputable def Tryd.pinned : Pinned := { name := "ythjogmcdfokihaadoor", sum := "1e3d323fee43f81e0f1e2d2918e129a7959eddd0bba37088fc527c693c70cdd7", checked := Tryd.checked }
namespace Rows
def none {H : Type} : Left H := { results := [], args := [] }

/- WHAT THE LISTED PACKAGE-LEVEL VARIABLES READ AS WHEN THE CALL BEGINS. Each datum BY PROGRAM (the guide's laid-datum.mjs) off the statement by which the dump's own 'gosem.cut.vars' lays the variable. In a bare row this is a premise. The card (YthjogmcdfokihaaDoorCards.lean) ties it to the program's text. -/
def laid_skewbald_hair_parts {H : Type} : DataW H := .iface "func table" (.agg [.iface "func" (.lit (.string [40, 115, 107, 101, 119, 98, 97, 108, 100, 47, 104, 97, 105, 114, 46, 104, 111, 114, 115, 101, 41, 46, 109, 97, 110, 101])), .iface "func" (.lit (.string [40, 115, 107, 101, 119, 98, 97, 108, 100, 47, 104, 97, 105, 114, 46, 104, 111, 114, 115, 101, 41, 46, 116, 97, 105, 108]))])
def laid_skewbald_plank_hits {H : Type} : DataW H := .iface "func table" (.agg [.iface "func" (.lit (.string [40, 115, 107, 101, 119, 98, 97, 108, 100, 47, 112, 108, 97, 110, 107, 46, 107, 110, 111, 116, 41, 46, 99, 97, 110])), .iface "func" (.lit (.string [40, 115, 107, 101, 119, 98, 97, 108, 100, 47, 112, 108, 97, 110, 107, 46, 107, 110, 111, 116, 41, 46, 109, 117, 115, 116]))])
def laid_skewbald_plank_nowhere {H : Type} : DataW H := .agg [.lit (.int .i64 (-1)), .lit (.int .i64 (-1)), .lit (.int .i64 (-1))]

/-- 'skewbaldtop.TopLeast': WHATEVER THE INPUT: true; the input reads as it did. -/
def topLeastSpec : ChangeSpec := { name := "topLeast", fn := fun _ => fun
  | [d1, d2] => { results := [.lit (.bool true)], args := [d1, d2] }
  | _ => none }
def topLeastRow : OpenClaim := { program := "ythjogmcdfokihaadoor", sum := "1e3d323fee43f81e0f1e2d2918e129a7959eddd0bba37088fc527c693c70cdd7", func := "skewbald/skewbaldtop.TopLeast", spec := "topLeast", unfollowed := true, recurses := true, named := ["skewbald/plank.nowhere", "skewbald/plank.hits", "skewbald/hair.parts"], plainKeys := false, apart := false, laid := [("skewbald/hair.parts", laid_skewbald_hair_parts), ("skewbald/plank.hits", laid_skewbald_plank_hits), ("skewbald/plank.nowhere", laid_skewbald_plank_nowhere)] }
def TopLeastSaid : Prop := topLeastRow.holds Tryd.pinned (OpenSpec.ofChange topLeastSpec)

/-- ITS FALSE NEIGHBOUR: 'it returns false'. Refute it at one input. -/
def topLeastWrong : ChangeSpec := { name := "topLeast", fn := fun _ => fun
  | [d1, d2] => { results := [.lit (.bool false)], args := [d1, d2] }
  | _ => none }
def TopLeastWrongFalsely : Prop := topLeastRow.holds Tryd.pinned (OpenSpec.ofChange topLeastWrong)

/-- 'skewbaldtop.TopStock': WHATEVER THE INPUT: true; the input reads as it did. -/
def topStockSpec : ChangeSpec := { name := "topStock", fn := fun _ => fun
  | [d] => { results := [.lit (.bool true)], args := [d] }
  | _ => none }
def topStockRow : OpenClaim := { program := "ythjogmcdfokihaadoor", sum := "1e3d323fee43f81e0f1e2d2918e129a7959eddd0bba37088fc527c693c70cdd7", func := "skewbald/skewbaldtop.TopStock", spec := "topStock", unfollowed := true, recurses := true, named := ["skewbald/plank.nowhere", "skewbald/plank.hits", "skewbald/hair.parts"], plainKeys := false, apart := false, laid := [("skewbald/hair.parts", laid_skewbald_hair_parts), ("skewbald/plank.hits", laid_skewbald_plank_hits), ("skewbald/plank.nowhere", laid_skewbald_plank_nowhere)] }
def TopStockSaid : Prop := topStockRow.holds Tryd.pinned (OpenSpec.ofChange topStockSpec)

/-- ITS FALSE NEIGHBOUR: 'it returns false'. Refute it at one input. -/
def topStockWrong : ChangeSpec := { name := "topStock", fn := fun _ => fun
  | [d] => { results := [.lit (.bool false)], args := [d] }
  | _ => none }
def TopStockWrongFalsely : Prop := topStockRow.holds Tryd.pinned (OpenSpec.ofChange topStockWrong)

/- THE SECOND FORM. 'bulk': how many values and letters a reading holds, each counted each time it is reached (what is shared counts as often as it is met; a slice's spare places count too). A statement '..UptoSaid' is the law's where the arguments, and the package variables that the reading takes, are together of bulk at most 1048576: NARROWER than '..Said'. Prove '..Said' where nothing that the law and all that it calls make is longer than what came in: it says more and counts as full. Else prove '..UptoSaid'. A law counts once. -/
mutual
def uptoBulk {H : Type} : DataW H → Nat
  | .lit (.string bytes) => bytes.length + 1
  | .lit _ => 1
  | .nil => 1
  | .ptr d => uptoBulk d + 1
  | .slice elems spare => uptoBulkAll elems + uptoBulkAll spare + 1
  | .agg parts => uptoBulkAll parts + 1
  | .iface _ d => uptoBulk d + 1
  | .map entries => uptoBulkEntries entries + 1
  | .held _ => 1
def uptoBulkAll {H : Type} : List (DataW H) → Nat
  | [] => 0
  | d :: r => uptoBulk d + uptoBulkAll r
def uptoBulkEntries {H : Type} : List (Lit × DataW H) → Nat
  | [] => 0
  | x :: r => uptoBulkEntry x + uptoBulkEntries r
def uptoBulkEntry {H : Type} : Lit × DataW H → Nat
  | (.string bytes, d) => bytes.length + uptoBulk d + 1
  | (_, d) => uptoBulk d + 1
 end
def uptoSmall : (H : Type) → List (DataW H) → Bool := fun _ ds => decide (uptoBulkAll ds ≤ 1048576)
def OpenSpec.upto (s : _root_.Go.ChangeSpec) : _root_.Go.OpenSpec := { _root_.Go.OpenSpec.ofChange s with cond := some uptoSmall }

/-- 'skewbaldtop.TopLeast', WHERE WHAT IT READS IS OF BULK AT MOST 1048576: true; the input reads as it did. -/
def topLeastUptoRow : OpenClaim := { program := "ythjogmcdfokihaadoor", sum := "1e3d323fee43f81e0f1e2d2918e129a7959eddd0bba37088fc527c693c70cdd7", func := "skewbald/skewbaldtop.TopLeast", spec := "topLeast", unfollowed := true, recurses := true, named := ["skewbald/plank.nowhere", "skewbald/plank.hits", "skewbald/hair.parts"], plainKeys := false, apart := false, laid := [("skewbald/hair.parts", laid_skewbald_hair_parts), ("skewbald/plank.hits", laid_skewbald_plank_hits), ("skewbald/plank.nowhere", laid_skewbald_plank_nowhere)], narrowed := true }
def TopLeastUptoSaid : Prop := topLeastUptoRow.holds Tryd.pinned (OpenSpec.upto topLeastSpec)

/-- 'skewbaldtop.TopStock', WHERE WHAT IT READS IS OF BULK AT MOST 1048576: true; the input reads as it did. -/
def topStockUptoRow : OpenClaim := { program := "ythjogmcdfokihaadoor", sum := "1e3d323fee43f81e0f1e2d2918e129a7959eddd0bba37088fc527c693c70cdd7", func := "skewbald/skewbaldtop.TopStock", spec := "topStock", unfollowed := true, recurses := true, named := ["skewbald/plank.nowhere", "skewbald/plank.hits", "skewbald/hair.parts"], plainKeys := false, apart := false, laid := [("skewbald/hair.parts", laid_skewbald_hair_parts), ("skewbald/plank.hits", laid_skewbald_plank_hits), ("skewbald/plank.nowhere", laid_skewbald_plank_nowhere)], narrowed := true }
def TopStockUptoSaid : Prop := topStockUptoRow.holds Tryd.pinned (OpenSpec.upto topStockSpec)

end Rows
end Go.Proofs.YthjogmcdfokihaaDoor
