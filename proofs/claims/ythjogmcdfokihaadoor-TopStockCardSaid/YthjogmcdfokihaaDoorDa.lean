/- The seat's data. Conditions: none. -/
import Derived.Test.YthjogmcdfokihaaDoorSma
set_option linter.unusedVariables false
set_option linter.unusedSimpArgs false
namespace Go.Proofs.Tp
open Go Go.Abs Go.Proofs
def Gs:Gl:=[(0,[I (-1),I (-1),I (-1)]),(1,[.fn 95,.fn 98]),(2,[.fn 96,.fn 99])]
structure Span where
 Low:Int
 High:Int
structure PlankWood where
 Long:Int
 Knots:List Span
structure PlankShape where
 Long:Int
 Joints:List Int
 Turns:Bool
structure PlankBook where
 Planks:List PlankWood
 Parts:List PlankShape
structure Plank_spot where
 plank:Int
 part:Int
 at_:Int
structure HairHank where
 Weight:Span
 Shade:Span
structure HairHorse where
 Mane:Int
 Tail:Int
 Shade:Int
structure HairBook where
 Hanks:List HairHank
 Horses:List HairHorse
 Dark:Int
 Near:Int
 Match:Int
structure Hair_dye where
 hank:Int
 steps:Int
def e47 (x:Span):List D:=[I x.Low,I x.High]
def e32 (x:PlankWood):List D:=[I x.Long,.sl 2 (List.map e47 x.Knots)]
def e3 (x:Int):List D:=[I x]
def e35 (x:PlankShape):List D:=[I x.Long,.sl 1 (List.map e3 x.Joints),.bool x.Turns]
def e104 (x:Plank_spot):List D:=[I x.plank,I x.part,I x.at_]
def m104_3 (x:Plank_spot×Int):DV×DV:=(.a (e104 x.1),.c (I x.2))
def e4 (x:Bool):List D:=[.bool x]
def e62 (x:HairHank):List D:=[I x.Weight.Low,I x.Weight.High,I x.Shade.Low,I x.Shade.High]
def e64 (x:HairHorse):List D:=[I x.Mane,I x.Tail,I x.Shade]
def e107 (x:Hair_dye):List D:=[I x.hank,I x.steps]
def m107_47 (x:Hair_dye×Span):DV×DV:=(.a (e107 x.1),.a (e47 x.2))
def cv39 (x:HairBook):List V:=[.d (.sl 4 (List.map e62 x.Hanks)),.d (.sl 3 (List.map e64 x.Horses)),.d (I x.Dark),.d (I x.Near),.d (I x.Match)]
def hbm (x : HairBook) (m : List (Hair_dye × Span)) : List V := catV (cv39 x) [.fmp (List.map m107_47 m)]
def cfv (c : Nat → Int) : List V := [.d (I (c 0)), .d (I (c 1)), .d (I (c 2)), .d (I (c 3)), .d (I (c 4))]
def q1 (l : List Int) : D := .sl 1 (List.map e3 l)
def pbm (x : PlankBook) (m : V) : List V := [.d (.sl 2 (List.map e32 x.Planks)), .d (.sl 3 (List.map e35 x.Parts)), m]
def pbv (x : PlankBook) : List V := [.d (.sl 2 (List.map e32 x.Planks)), .d (.sl 3 (List.map e35 x.Parts))]
def cv62 (x:HairHank):List V:=[.d (I x.Weight.Low),.d (I x.Weight.High),.d (I x.Shade.Low),.d (I x.Shade.High)]
theorem ft104:FlatT Tryd.prog 104 [0,0,0]:=⟨by kernel_rfl,by kernel_rfl,by kernel_rfl⟩
theorem ft118:FlatT Tryd.prog 118 [1,1,1,1,1,1,1,1,1,1,1,1,1,1,1,1]:=⟨by kernel_rfl,by kernel_rfl,by kernel_rfl⟩
theorem ft107:FlatT Tryd.prog 107 [0,0]:=⟨by kernel_rfl,by kernel_rfl,by kernel_rfl⟩
theorem ft89:FlatT Tryd.prog 89 [0,0,0,0,0]:=⟨by kernel_rfl,by kernel_rfl,by kernel_rfl⟩
theorem ft47:FlatT Tryd.prog 47 [0,0]:=⟨by kernel_rfl,by kernel_rfl,by kernel_rfl⟩
def q104 (a b:Plank_spot):Bool:=(a.plank==b.plank&&(a.part==b.part&&(a.at_==b.at_&&true)))
theorem q104_ok (a b:Plank_spot):eqDs [0,0,0] [I a.plank,I a.part,I a.at_] [I b.plank,I b.part,I b.at_]=some (q104 a b):=rfl
def q107 (a b:Hair_dye):Bool:=(a.hank==b.hank&&(a.steps==b.steps&&true))
theorem q107_ok (a b:Hair_dye):eqDs [0,0] [I a.hank,I a.steps] [I b.hank,I b.steps]=some (q107 a b):=rfl
def wimB (m:List (Plank_spot×Int)):Bool:=m.all fun p=>decide (p.2=2)||q104 p.1 (Plank_spot.mk (-1) (-1) (-1))
def WIm (es:List (DV×DV)):Prop:=∃ m:List (Plank_spot×Int),es=List.map m104_3 m∧wimB m=true
def WI:Array MapEntry→Prop:=MapI WIm
theorem WIm_of {m:List (Plank_spot×Int)} (h:wimB m=true):WIm (List.map m104_3 m):=⟨m,rfl,h⟩
theorem WIm_pl:ImPl WIm:=by
 rintro es ⟨m,rfl,_⟩ k v hkv
 rw [List.mem_map] at hkv
 obtain ⟨p,_,he⟩:=hkv
 have e1:k=.a (e104 p.1):=congrArg Prod.fst he.symm
 have e2:v=.c (I p.2):=congrArg Prod.snd he.symm
 subst e1;subst e2
 exact ⟨rfl,rfl⟩
end Go.Proofs.Tp
