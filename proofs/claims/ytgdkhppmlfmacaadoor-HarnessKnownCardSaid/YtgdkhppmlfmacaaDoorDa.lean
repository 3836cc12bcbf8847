/- The seat's data. Conditions: none. -/
import Derived.Test.YtgdkhppmlfmacaaDoorSma
set_option linter.unusedVariables false
set_option linter.unusedSimpArgs false
namespace Go.Proofs.Tm
open Go Go.Abs Go.Proofs
def Gs:Gl:=[(0,[.fn 156,.fn 157]),(2,[.fn 154,.fn 161]),(3,[I (-1),I (-1)])]
structure Span where
 Low:Int
 High:Int
structure HairHank where
 Weight:Span
 Shade:Span
structure HairHorse where
 Mane:Int
 Tail:Int
 Shade:Int
structure HairBook where
 Hanks:List HairHank
 Horses:List HairHorse
 Dark:Int
 Near:Int
 Match:Int
structure HarnessBook where
 Hair:HairBook
 Needs:List (List Int)
 Stock:List Span
 Pack:Int
 Bad:Int
structure Harness_want where
 horse:Int
 kind:Int
structure Hair_dye where
 hank:Int
 steps:Int
def e65 (x:HairHank):List D:=[I x.Weight.Low,I x.Weight.High,I x.Shade.Low,I x.Shade.High]
def e67 (x:HairHorse):List D:=[I x.Mane,I x.Tail,I x.Shade]
def e3 (x:Int):List D:=[I x]
def e51 (x:(List Int)):List D:=[.sl 1 (List.map e3 x)]
def e33 (x:Span):List D:=[I x.Low,I x.High]
def e83 (x:HarnessBook):List D:=[.sl 4 (List.map e65 x.Hair.Hanks),.sl 3 (List.map e67 x.Hair.Horses),I x.Hair.Dark,I x.Hair.Near,I x.Hair.Match,.sl 1 (List.map e51 x.Needs),.sl 2 (List.map e33 x.Stock),I x.Pack,I x.Bad]
def e197 (x:Harness_want):List D:=[I x.horse,I x.kind]
def m197_3 (x:Harness_want×Int):DV×DV:=(.a (e197 x.1),.c (I x.2))
def e124 (x:Hair_dye):List D:=[I x.hank,I x.steps]
def m124_33 (x:Hair_dye×Span):DV×DV:=(.a (e124 x.1),.a (e33 x.2))
def cv61 (x:HairBook):List V:=[.d (.sl 4 (List.map e65 x.Hanks)),.d (.sl 3 (List.map e67 x.Horses)),.d (I x.Dark),.d (I x.Near),.d (I x.Match)]
def cv83 (x:HarnessBook):List V:=[.d (.sl 4 (List.map e65 x.Hair.Hanks)),.d (.sl 3 (List.map e67 x.Hair.Horses)),.d (I x.Hair.Dark),.d (I x.Hair.Near),.d (I x.Hair.Match),.d (.sl 1 (List.map e51 x.Needs)),.d (.sl 2 (List.map e33 x.Stock)),.d (I x.Pack),.d (I x.Bad)]
def cv65 (x:HairHank):List V:=[.d (I x.Weight.Low),.d (I x.Weight.High),.d (I x.Shade.Low),.d (I x.Shade.High)]
theorem ft197:FlatT Tryd.prog 197 [0,0]:=⟨by kernel_rfl,by kernel_rfl,by kernel_rfl⟩
theorem ft124:FlatT Tryd.prog 124 [0,0]:=⟨by kernel_rfl,by kernel_rfl,by kernel_rfl⟩
theorem ft154:FlatT Tryd.prog 154 [0,0,0]:=⟨by kernel_rfl,by kernel_rfl,by kernel_rfl⟩
theorem ft33:FlatT Tryd.prog 33 [0,0]:=⟨by kernel_rfl,by kernel_rfl,by kernel_rfl⟩
def q197 (a b:Harness_want):Bool:=(a.horse==b.horse&&(a.kind==b.kind&&true))
theorem q197_ok (a b:Harness_want):eqDs [0,0] [I a.horse,I a.kind] [I b.horse,I b.kind]=some (q197 a b):=rfl
def q124 (a b:Hair_dye):Bool:=(a.hank==b.hank&&(a.steps==b.steps&&true))
theorem q124_ok (a b:Hair_dye):eqDs [0,0] [I a.hank,I a.steps] [I b.hank,I b.steps]=some (q124 a b):=rfl
end Go.Proofs.Tm
