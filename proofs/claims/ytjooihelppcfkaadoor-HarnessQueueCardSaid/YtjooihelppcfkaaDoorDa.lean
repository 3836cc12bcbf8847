/- The seat's data. Conditions: none. -/
import Derived.Test.YtjooihelppcfkaaDoorSma
set_option linter.unusedVariables false
set_option linter.unusedSimpArgs false
namespace Go.Proofs.Tr
open Go Go.Abs Go.Proofs
def Gs:Gl:=[(0,[.fn 155,.fn 156]),(1,[I (-1),I (-1)]),(2,[.fn 153,.fn 157])]
structure Span where
 Low:Int
 High:Int
structure HairHank where
 Weight:Span
 Shade:Span
structure HairHorse where
 Mane:Int
 Tail:Int
 Shade:Int
structure HairBook where
 Hanks:List HairHank
 Horses:List HairHorse
 Dark:Int
 Near:Int
 Match:Int
structure HarnessBook where
 Hair:HairBook
 Needs:List (List Int)
 Stock:List Span
 Pack:Int
 Bad:Int
structure Harness_want where
 horse:Int
 kind:Int
structure Hair_dye where
 hank:Int
 steps:Int
def e107 (x:HairHank):List D:=[I x.Weight.Low,I x.Weight.High,I x.Shade.Low,I x.Shade.High]
def e112 (x:HairHorse):List D:=[I x.Mane,I x.Tail,I x.Shade]
def e3 (x:Int):List D:=[I x]
def e30 (x:(List Int)):List D:=[.sl 1 (List.map e3 x)]
def e37 (x:Span):List D:=[I x.Low,I x.High]
def e126 (x:Harness_want):List D:=[I x.horse,I x.kind]
def m126_3 (x:Harness_want×Int):DV×DV:=(.a (e126 x.1),.c (I x.2))
def e131 (x:Hair_dye):List D:=[I x.hank,I x.steps]
def m131_37 (x:Hair_dye×Span):DV×DV:=(.a (e131 x.1),.a (e37 x.2))
def e4 (x:Bool):List D:=[.bool x]
def cv29 (x:HarnessBook):List V:=[.d (.sl 4 (List.map e107 x.Hair.Hanks)),.d (.sl 3 (List.map e112 x.Hair.Horses)),.d (I x.Hair.Dark),.d (I x.Hair.Near),.d (I x.Hair.Match),.d (.sl 1 (List.map e30 x.Needs)),.d (.sl 2 (List.map e37 x.Stock)),.d (I x.Pack),.d (I x.Bad)]
def cv25 (x:HairBook):List V:=[.d (.sl 4 (List.map e107 x.Hanks)),.d (.sl 3 (List.map e112 x.Horses)),.d (I x.Dark),.d (I x.Near),.d (I x.Match)]
def hbm (x : HairBook) (m : List (Hair_dye × Span)) : List V := catV (cv25 x) [.fmp (List.map m131_37 m)]
def cfv (c : Nat → Int) : List V := [.d (I (c 0)), .d (I (c 1)), .d (I (c 2)), .d (I (c 3)), .d (I (c 4))]
def ctv (c : Nat → Int) : List V := [.d (I (c 0)), .d (I (c 1)), .d (I (c 2))]
def q1 (l : List Int) : D := .sl 1 (List.map e3 l)
def kbm (x : HarnessBook) (l : List Int) (m : List (Harness_want × Int)) : List V := catV (cv29 x) [.d (q1 l), .fmp (List.map m126_3 m)]
def cv107 (x:HairHank):List V:=[.d (I x.Weight.Low),.d (I x.Weight.High),.d (I x.Shade.Low),.d (I x.Shade.High)]
theorem ft126:FlatT Tryd.prog 126 [0,0]:=⟨by kernel_rfl,by kernel_rfl,by kernel_rfl⟩
theorem ft131:FlatT Tryd.prog 131 [0,0]:=⟨by kernel_rfl,by kernel_rfl,by kernel_rfl⟩
theorem ft87:FlatT Tryd.prog 87 [0,0,0]:=⟨by kernel_rfl,by kernel_rfl,by kernel_rfl⟩
theorem ft37:FlatT Tryd.prog 37 [0,0]:=⟨by kernel_rfl,by kernel_rfl,by kernel_rfl⟩
def q126 (a b:Harness_want):Bool:=(a.horse==b.horse&&(a.kind==b.kind&&true))
theorem q126_ok (a b:Harness_want):eqDs [0,0] [I a.horse,I a.kind] [I b.horse,I b.kind]=some (q126 a b):=rfl
def q131 (a b:Hair_dye):Bool:=(a.hank==b.hank&&(a.steps==b.steps&&true))
theorem q131_ok (a b:Hair_dye):eqDs [0,0] [I a.hank,I a.steps] [I b.hank,I b.steps]=some (q131 a b):=rfl
end Go.Proofs.Tr
