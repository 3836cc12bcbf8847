/-
  NARROWER THAN 'FOR EVERY INPUT', by the rows' own cells (each row's printed sentence says how): TopApart: laid.
  DERIVED. THE GIVEN ROWS OF THIS SEAT. 1 by the template 'for every input the law returns true; each argument reads behind the call as it read before'; 0 by the template 'total and deterministic' (their statements: YtailndjnfdcolaaDoorTotals.lean).
  GIVEN WITH THE SEED: the statements are not yours to turn. If you find one false, say at which input.
  Laid BY PROGRAM, IN A SANDBOX (cutbox-rows.mjs): the forced cells as the released guide's own fill.sh prints them over the translation 0912214e4e911a61… (all of the seat's roots in one cut). By AI agents, Wed Nov 11 2026. No macro, syntax, notation, axiom, sorry.
-/
import Derived.Test.YtailndjnfdcolaaDoorChecked
import GoSem.Claim
import GoSem.ClaimJoined
import GoSem.ClaimMapViews
import Derived.JoinedTies
import Derived.KernelRfl
namespace Go.Proofs.YtailndjnfdcolaaDoor
/- THE CELL 'sum', in the pinned program and in every row, IS THE sha256 OF THE DUMP (.gsa) THAT YtailndjnfdcolaaDoorProg.lean LOADS. Nothing in Lean hashes anything: it is a label: what it is worth is what the hold of that sum in a sandbox is worth. -/
noncomputable def Tryd.pinned : Pinned := { name := "ytailndjnfdcolaadoor", sum := "0912214e4e911a61fdc2dee781b9edd3f119e5aa888a094a0b281c2c8a88ec09", checked := Tryd.checked }
namespace Rows
def none {H : Type} : Left H := { results := [], args := [] }

/- WHAT THE LISTED PACKAGE-LEVEL VARIABLES READ AS WHEN THE CALL BEGINS. Each datum BY PROGRAM (the guide's laid-datum.mjs) off the statement by which the dump's own 'gosem.cut.vars' lays the variable. In a bare row this is a premise. The card (YtailndjnfdcolaaDoorCards.lean) ties it to the program's text. -/
def laid_skewbald_dapple_alikes {H : Type} : DataW H := .iface "func table" (.agg [.iface "func" (.lit (.string [40, 115, 107, 101, 119, 98, 97, 108, 100, 47, 100, 97, 112, 112, 108, 101, 46, 115, 105, 122, 101, 41, 46, 99, 97, 110])), .iface "func" (.lit (.string [40, 115, 107, 101, 119, 98, 97, 108, 100, 47, 100, 97, 112, 112, 108, 101, 46, 115, 105, 122, 101, 41, 46, 115, 117, 114, 101]))])
def laid_skewbald_dapple_never {H : Type} : DataW H := .agg [.lit (.int .i64 (-1)), .lit (.int .i64 (-1)), .lit (.int .i64 (-1))]
def laid_skewbald_maker_anything {H : Type} : DataW H := .agg [.lit (.int .i64 31), .lit (.int .i64 31), .lit (.int .i64 31), .lit (.int .i64 31), .lit (.int .i64 31), .lit (.int .i64 31)]

/-- 'skewbaldtop.TopApart': WHATEVER THE INPUT: true; the input reads as it did. -/
def topApartSpec : ChangeSpec := { name := "topApart", fn := fun _ => fun
  | [d1, d2] => { results := [.lit (.bool true)], args := [d1, d2] }
  | _ => none }
def topApartRow : OpenClaim := { program := "ytailndjnfdcolaadoor", sum := "0912214e4e911a61fdc2dee781b9edd3f119e5aa888a094a0b281c2c8a88ec09", func := "skewbald/skewbaldtop.TopApart", spec := "topApart", unfollowed := true, recurses := true, named := ["skewbald/dapple.never", "skewbald/dapple.alikes", "skewbald/maker.anything"], plainKeys := false, apart := false, laid := [("skewbald/dapple.alikes", laid_skewbald_dapple_alikes), ("skewbald/dapple.never", laid_skewbald_dapple_never), ("skewbald/maker.anything", laid_skewbald_maker_anything)] }
def TopApartSaid : Prop := topApartRow.holds Tryd.pinned (OpenSpec.ofChange topApartSpec)

/-- ITS FALSE NEIGHBOUR: 'it returns false'. Refute it at one input. -/
def topApartWrong : ChangeSpec := { name := "topApart", fn := fun _ => fun
  | [d1, d2] => { results := [.lit (.bool false)], args := [d1, d2] }
  | _ => none }
def TopApartWrongFalsely : Prop := topApartRow.holds Tryd.pinned (OpenSpec.ofChange topApartWrong)

/- THE SECOND FORM. 'bulk': how many values and letters a reading holds, each counted each time it is reached (what is shared counts as often as it is met; a slice's spare places count too). A statement '..UptoSaid' is the law's where the arguments, and the package variables that the reading takes, are together of bulk at most 1048576: NARROWER than '..Said'. Prove '..Said' where nothing that the law and all that it calls make is longer than what came in: it says more and counts as full. Else prove '..UptoSaid'. A law counts once. -/
mutual
def uptoBulk {H : Type} : DataW H → Nat
  | .lit (.string bytes) => bytes.length + 1
  | .lit _ => 1
  | .nil => 1
  | .ptr d => uptoBulk d + 1
  | .slice elems spare => uptoBulkAll elems + uptoBulkAll spare + 1
  | .agg parts => uptoBulkAll parts + 1
  | .iface _ d => uptoBulk d + 1
  | .map entries => uptoBulkEntries entries + 1
  | .held _ => 1
def uptoBulkAll {H : Type} : List (DataW H) → Nat
  | [] => 0
  | d :: r => uptoBulk d + uptoBulkAll r
def uptoBulkEntries {H : Type} : List (Lit × DataW H) → Nat
  | [] => 0
  | x :: r => uptoBulkEntry x + uptoBulkEntries r
def uptoBulkEntry {H : Type} : Lit × DataW H → Nat
  | (.string bytes, d) => bytes.length + uptoBulk d + 1
  | (_, d) => uptoBulk d + 1
 end
def uptoSmall : (H : Type) → List (DataW H) → Bool := fun _ ds => decide (uptoBulkAll ds ≤ 1048576)
def OpenSpec.upto (s : _root_.Go.ChangeSpec) : _root_.Go.OpenSpec := { _root_.Go.OpenSpec.ofChange s with cond := some uptoSmall }

/-- 'skewbaldtop.TopApart', WHERE WHAT IT READS IS OF BULK AT MOST 1048576: true; the input reads as it did. -/
def topApartUptoRow : OpenClaim := { program := "ytailndjnfdcolaadoor", sum := "0912214e4e911a61fdc2dee781b9edd3f119e5aa888a094a0b281c2c8a88ec09", func := "skewbald/skewbaldtop.TopApart", spec := "topApart", unfollowed := true, recurses := true, named := ["skewbald/dapple.never", "skewbald/dapple.alikes", "skewbald/maker.anything"], plainKeys := false, apart := false, laid := [("skewbald/dapple.alikes", laid_skewbald_dapple_alikes), ("skewbald/dapple.never", laid_skewbald_dapple_never), ("skewbald/maker.anything", laid_skewbald_maker_anything)], narrowed := true }
def TopApartUptoSaid : Prop := topApartUptoRow.holds Tryd.pinned (OpenSpec.upto topApartSpec)

end Rows
end Go.Proofs.YtailndjnfdcolaaDoor
