/- The seat's data. Conditions: none. -/
import Derived.Test.YtonjadhpjkbhnaaDoorSma
set_option linter.unusedVariables false
set_option linter.unusedSimpArgs false
namespace Go.Proofs.Th
open Go Go.Abs Go.Proofs
def Gs:Gl:=[(0,[.fn 133,.fn 135])]
structure Span where
 Low:Int
 High:Int
structure HairHank where
 Weight:Span
 Shade:Span
structure HairHorse where
 Mane:Int
 Tail:Int
 Shade:Int
structure HairBook where
 Hanks:List HairHank
 Horses:List HairHorse
 Dark:Int
 Near:Int
 Match:Int
structure Hair_dye where
 hank:Int
 steps:Int
def e3 (x:Int):List D:=[I x]
def e58 (x:HairHank):List D:=[I x.Weight.Low,I x.Weight.High,I x.Shade.Low,I x.Shade.High]
def e69 (x:HairHorse):List D:=[I x.Mane,I x.Tail,I x.Shade]
def e84 (x:Hair_dye):List D:=[I x.hank,I x.steps]
def e35 (x:Span):List D:=[I x.Low,I x.High]
def m84_35 (x:Hair_dye×Span):DV×DV:=(.a (e84 x.1),.a (e35 x.2))
def e26 (x:(List Int)):List D:=[.sl 1 (List.map e3 x)]
def cv25 (x:HairBook):List V:=[.d (.sl 4 (List.map e58 x.Hanks)),.d (.sl 3 (List.map e69 x.Horses)),.d (I x.Dark),.d (I x.Near),.d (I x.Match)]
def hbm (x : HairBook) (m : List (Hair_dye × Span)) : List V := catV (cv25 x) [.fmp (List.map m84_35 m)]
def cfv (c : Nat → Int) : List V := [.d (I (c 0)), .d (I (c 1)), .d (I (c 2)), .d (I (c 3)), .d (I (c 4))]
def q1 (l : List Int) : D := .sl 1 (List.map e3 l)
def cv58 (x:HairHank):List V:=[.d (I x.Weight.Low),.d (I x.Weight.High),.d (I x.Shade.Low),.d (I x.Shade.High)]
theorem ft84:FlatT Tryd.prog 84 [0,0]:=⟨by kernel_rfl,by kernel_rfl,by kernel_rfl⟩
theorem ft35:FlatT Tryd.prog 35 [0,0]:=⟨by kernel_rfl,by kernel_rfl,by kernel_rfl⟩
theorem ft92:FlatT Tryd.prog 92 [0,0,0,0,0]:=⟨by kernel_rfl,by kernel_rfl,by kernel_rfl⟩
def q84 (a b:Hair_dye):Bool:=(a.hank==b.hank&&(a.steps==b.steps&&true))
theorem q84_ok (a b:Hair_dye):eqDs [0,0] [I a.hank,I a.steps] [I b.hank,I b.steps]=some (q84 a b):=rfl
end Go.Proofs.Th
