/- The seat's data. Conditions: none. -/
import Derived.Test.YtailndjnfdcolaaDoorSma
set_option linter.unusedVariables false
set_option linter.unusedSimpArgs false
namespace Go.Proofs.Ta
open Go Go.Abs Go.Proofs
def Gs:Gl:=[(0,[.fn 70,.fn 72]),(1,[I (-1),I (-1),I (-1)]),(2,[I 31,I 31,I 31,I 31,I 31,I 31])]
structure DappleBook where
 Round:Int
 Horses:List (List Int)
structure Dapple_turn where
 one:Int
 other:Int
 by_:Int
structure MakerMark where
 Kind:Int
 Values:Int
structure MakerBook where
 Makers:List (List Int)
 Seen:List MakerMark
 Repairs:Int
 Fixed:Int
structure Maker_place where
 maker:Int
 kind:Int
def e3 (x:Int):List D:=[I x]
def e29 (x:(List Int)):List D:=[.sl 1 (List.map e3 x)]
def e87 (x:Dapple_turn):List D:=[I x.one,I x.other,I x.by_]
def m87_4 (x:Dapple_turn×Bool):DV×DV:=(.a (e87 x.1),.c (.bool x.2))
def e60 (x:(Nat→Int)):List D:=[I (x 0),I (x 1),I (x 2),I (x 3),I (x 4),I (x 5),I (x 6),I (x 7)]
def e83 (x:MakerMark):List D:=[I x.Kind,I x.Values]
def e99 (x:Maker_place):List D:=[I x.maker,I x.kind]
def m99_4 (x:Maker_place×Bool):DV×DV:=(.a (e99 x.1),.c (.bool x.2))
def cv37 (x:MakerBook):List V:=[.d (.sl 1 (List.map e29 x.Makers)),.d (.sl 2 (List.map e83 x.Seen)),.d (I x.Repairs),.d (I x.Fixed)]
theorem ft87:FlatT Tryd.prog 87 [0,0,0]:=⟨by kernel_rfl,by kernel_rfl,by kernel_rfl⟩
theorem ft60:FlatT Tryd.prog 60 [0,0,0,0,0,0,0,0]:=⟨by kernel_rfl,by kernel_rfl,by kernel_rfl⟩
theorem ft75:FlatT Tryd.prog 75 [0,0,0,0,0,0]:=⟨by kernel_rfl,by kernel_rfl,by kernel_rfl⟩
theorem ft99:FlatT Tryd.prog 99 [0,0]:=⟨by kernel_rfl,by kernel_rfl,by kernel_rfl⟩
def q87 (a b:Dapple_turn):Bool:=(a.one==b.one&&(a.other==b.other&&(a.by_==b.by_&&true)))
theorem q87_ok (a b:Dapple_turn):eqDs [0,0,0] [I a.one,I a.other,I a.by_] [I b.one,I b.other,I b.by_]=some (q87 a b):=rfl
def q99 (a b:Maker_place):Bool:=(a.maker==b.maker&&(a.kind==b.kind&&true))
theorem q99_ok (a b:Maker_place):eqDs [0,0] [I a.maker,I a.kind] [I b.maker,I b.kind]=some (q99 a b):=rfl
end Go.Proofs.Ta
