/- The seat's data. Conditions: none. -/
import Derived.Test.YtibenpfnlajakaaDoorSma
set_option linter.unusedVariables false
set_option linter.unusedSimpArgs false
namespace Go.Proofs.Tz
open Go Go.Abs Go.Proofs
def Gs : Gl := [(0, [.fn 121, .fn 122])]
structure Span where
 Low : Int
 High : Int
structure StandPart where
 Weight : Span
 Along : Int
 High : Int
structure StandTrial where
 Weight : Int
 Lean_ : Int
 Tipped : Bool
structure StandBook where
 Kind : Int
 Front : Int
 Back : Int
 Radius : Int
 Parts : List StandPart
 Along : Int
 High : Int
 Lean_ : Int
 Limit : Int
 Trials : List StandTrial
structure Stand_child where
 weight : Int
 lean : Int
structure StandRatio where
 Top : Int
 Bottom : Int
structure Stand_load where
 weight : Int
 along : Int
 high : Int
def e70 (x : StandPart) : List D := [I x.Weight.Low, I x.Weight.High, I x.Along, I x.High]
def e65 (x : StandTrial) : List D := [I x.Weight, I x.Lean_, .bool x.Tipped]
def e94 (x : Stand_child) : List D := [I x.weight, I x.lean]
def e34 (x : StandRatio) : List D := [I x.Top, I x.Bottom]
def m94_34 (x : Stand_child × StandRatio) : DV × DV := (.a (e94 x.1), .a (e34 x.2))
def e92 (x : (Nat → Int)) : List D := [I (x 0), I (x 1), I (x 2), I (x 3)]
def e3 (x : Int) : List D := [I x]
def cv25 (x : StandBook) : List V := [.d (I x.Kind), .d (I x.Front), .d (I x.Back), .d (I x.Radius), .d (.sl 4 (List.map e70 x.Parts)), .d (I x.Along), .d (I x.High), .d (I x.Lean_), .d (I x.Limit), .d (.sl 3 (List.map e65 x.Trials))]
def bkV (x : StandBook) (t : List (Nat → Int)) (l : Stand_load) (m : V) : List V := catV (cv25 x) [.d (.sl 4 (List.map e92 t)), .d (I l.weight), .d (I l.along), .d (I l.high), m]
def cv70 (x : StandPart) : List V := [.d (I x.Weight.Low), .d (I x.Weight.High), .d (I x.Along), .d (I x.High)]
theorem ft92 : FlatT Tryd.prog 92 [0, 0, 0, 0] := ⟨by kernel_rfl, by kernel_rfl, by kernel_rfl⟩
theorem ft94 : FlatT Tryd.prog 94 [0, 0] := ⟨by kernel_rfl, by kernel_rfl, by kernel_rfl⟩
theorem ft34 : FlatT Tryd.prog 34 [0, 0] := ⟨by kernel_rfl, by kernel_rfl, by kernel_rfl⟩
theorem ft42 : FlatT Tryd.prog 42 [0, 0] := ⟨by kernel_rfl, by kernel_rfl, by kernel_rfl⟩
def q94 (a b : Stand_child) : Bool := (a.weight == b.weight && (a.lean == b.lean && true))
theorem q94_ok (a b : Stand_child) : eqDs [0, 0] [I a.weight, I a.lean] [I b.weight, I b.lean] = some (q94 a b) := rfl
end Go.Proofs.Tz
