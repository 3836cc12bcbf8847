/- The seat's data. Conditions: none. -/
import Derived.Test.YtgdkhppmlfmacaaDoorSma
set_option linter.unusedVariables false
set_option linter.unusedSimpArgs false
namespace Go.Proofs.Tl
open Go Go.Abs Go.Proofs
def Gs:Gl:=[(2,[.fn 154,.fn 161])]
structure Span where
 Low:Int
 High:Int
structure HairHank where
 Weight:Span
 Shade:Span
structure HairHorse where
 Mane:Int
 Tail:Int
 Shade:Int
structure HairBook where
 Hanks:List HairHank
 Horses:List HairHorse
 Dark:Int
 Near:Int
 Match:Int
structure Hair_dye where
 hank:Int
 steps:Int
def e65 (x:HairHank):List D:=[I x.Weight.Low,I x.Weight.High,I x.Shade.Low,I x.Shade.High]
def e67 (x:HairHorse):List D:=[I x.Mane,I x.Tail,I x.Shade]
def e61 (x:HairBook):List D:=[.sl 4 (List.map e65 x.Hanks),.sl 3 (List.map e67 x.Horses),I x.Dark,I x.Near,I x.Match]
def e124 (x:Hair_dye):List D:=[I x.hank,I x.steps]
def e33 (x:Span):List D:=[I x.Low,I x.High]
def m124_33 (x:Hair_dye×Span):DV×DV:=(.a (e124 x.1),.a (e33 x.2))
def e3 (x:Int):List D:=[I x]
def e77 (x:(Nat→Int)):List D:=[I (x 0),I (x 1),I (x 2),I (x 3),I (x 4)]
def cv61 (x:HairBook):List V:=[.d (.sl 4 (List.map e65 x.Hanks)),.d (.sl 3 (List.map e67 x.Horses)),.d (I x.Dark),.d (I x.Near),.d (I x.Match)]
def cv65 (x:HairHank):List V:=[.d (I x.Weight.Low),.d (I x.Weight.High),.d (I x.Shade.Low),.d (I x.Shade.High)]
theorem ft124:FlatT Tryd.prog 124 [0,0]:=⟨by kernel_rfl,by kernel_rfl,by kernel_rfl⟩
theorem ft128:FlatT Tryd.prog 128 [0,0,0,0,0]:=⟨by kernel_rfl,by kernel_rfl,by kernel_rfl⟩
theorem ft33:FlatT Tryd.prog 33 [0,0]:=⟨by kernel_rfl,by kernel_rfl,by kernel_rfl⟩
def q124 (a b:Hair_dye):Bool:=(a.hank==b.hank&&(a.steps==b.steps&&true))
theorem q124_ok (a b:Hair_dye):eqDs [0,0] [I a.hank,I a.steps] [I b.hank,I b.steps]=some (q124 a b):=rfl
end Go.Proofs.Tl
