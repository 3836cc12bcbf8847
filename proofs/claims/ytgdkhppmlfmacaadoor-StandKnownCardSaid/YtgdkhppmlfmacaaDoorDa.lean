/- The seat's data. Conditions: none. -/
import Derived.Test.YtgdkhppmlfmacaaDoorSma
set_option linter.unusedVariables false
set_option linter.unusedSimpArgs false
namespace Go.Proofs.Tk
open Go Go.Abs Go.Proofs
def Gs:Gl:=[(1,[.fn 158,.fn 159])]
structure Span where
 Low:Int
 High:Int
structure StandPart where
 Weight:Span
 Along:Int
 High:Int
structure StandTrial where
 Weight:Int
 Lean_:Int
 Tipped:Bool
structure StandBook where
 Kind:Int
 Front:Int
 Back:Int
 Radius:Int
 Parts:List StandPart
 Along:Int
 High:Int
 Lean_:Int
 Limit:Int
 Trials:List StandTrial
structure Stand_child where
 weight:Int
 lean:Int
structure StandRatio where
 Top:Int
 Bottom:Int
structure Stand_load where
 weight:Int
 along:Int
 high:Int
def e29 (x:StandTrial):List D:=[I x.Weight,I x.Lean_,.bool x.Tipped]
def e36 (x:StandPart):List D:=[I x.Weight.Low,I x.Weight.High,I x.Along,I x.High]
def e25 (x:StandBook):List D:=[I x.Kind,I x.Front,I x.Back,I x.Radius,.sl 4 (List.map e36 x.Parts),I x.Along,I x.High,I x.Lean_,I x.Limit,.sl 3 (List.map e29 x.Trials)]
def e105 (x:Stand_child):List D:=[I x.weight,I x.lean]
def e43 (x:StandRatio):List D:=[I x.Top,I x.Bottom]
def m105_43 (x:Stand_child×StandRatio):DV×DV:=(.a (e105 x.1),.a (e43 x.2))
def e103 (x:(Nat→Int)):List D:=[I (x 0),I (x 1),I (x 2),I (x 3)]
def e3 (x:Int):List D:=[I x]
def cv25 (x:StandBook):List V:=[.d (I x.Kind),.d (I x.Front),.d (I x.Back),.d (I x.Radius),.d (.sl 4 (List.map e36 x.Parts)),.d (I x.Along),.d (I x.High),.d (I x.Lean_),.d (I x.Limit),.d (.sl 3 (List.map e29 x.Trials))]
def cv36 (x:StandPart):List V:=[.d (I x.Weight.Low),.d (I x.Weight.High),.d (I x.Along),.d (I x.High)]
theorem ft103:FlatT Tryd.prog 103 [0,0,0,0]:=⟨by kernel_rfl,by kernel_rfl,by kernel_rfl⟩
theorem ft105:FlatT Tryd.prog 105 [0,0]:=⟨by kernel_rfl,by kernel_rfl,by kernel_rfl⟩
theorem ft43:FlatT Tryd.prog 43 [0,0]:=⟨by kernel_rfl,by kernel_rfl,by kernel_rfl⟩
theorem ft33:FlatT Tryd.prog 33 [0,0]:=⟨by kernel_rfl,by kernel_rfl,by kernel_rfl⟩
def q105 (a b:Stand_child):Bool:=(a.weight==b.weight&&(a.lean==b.lean&&true))
theorem q105_ok (a b:Stand_child):eqDs [0,0] [I a.weight,I a.lean] [I b.weight,I b.lean]=some (q105 a b):=rfl
end Go.Proofs.Tk
