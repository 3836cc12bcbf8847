/- The listed variable and the arguments, opened. Conditions: none. -/
import Derived.Test.YtgdkhppmlfmacaaDoorTdc
import Derived.Test.YtgdkhppmlfmacaaDoorTie
import Derived.Test.YtgdkhppmlfmacaaDoorCards
import Derived.ProofKit
import Derived.LaidMore
import Derived.OpenShut
import Derived.Stop.Joined
import Derived.SevenTiedAt
set_option linter.unusedVariables false
set_option linter.unusedSimpArgs false
set_option maxRecDepth 100000
namespace Go.Proofs.YtgdkhppmlfmacaaDoor
open Go.ChangeShapes Go.WideShapes Go.ChangeAt Go.WideMaps Go.WideElems Go.RowKit Go.Abs Go.Proofs.Tm
theorem own:ownKnob Tryd.prog.godebug=none:=by kernel_rfl
theorem laidOut:laidOutB Tryd.prog=true:=by kernel_rfl
theorem n2 : Tryd.prog.globalNamed "skewbald/hair.parts" = some 2 := by kernel_rfl
theorem t2:(Tryd.prog.globals[2]?).map (·.type)=some 184:=by kernel_rfl
theorem cell184:Tryd.prog.cellsOf 184=2:=by kernel_rfl
theorem cell183:Tryd.prog.cellsOf 183=1:=by kernel_rfl
theorem n3 : Tryd.prog.globalNamed "skewbald/harness.nothing" = some 3 := by kernel_rfl
theorem t3:(Tryd.prog.globals[3]?).map (·.type)=some 197:=by kernel_rfl
theorem cell197:Tryd.prog.cellsOf 197=2:=by kernel_rfl
theorem n0 : Tryd.prog.globalNamed "skewbald/harness.overs" = some 0 := by kernel_rfl
theorem t0:(Tryd.prog.globals[0]?).map (·.type)=some 163:=by kernel_rfl
theorem cell163:Tryd.prog.cellsOf 163=2:=by kernel_rfl
theorem cell162:Tryd.prog.cellsOf 162=1:=by kernel_rfl
theorem cell3:Tryd.prog.cellsOf 3=1:=by kernel_rfl
abbrev laid1 : List (String × DataW Unit) := [("skewbald/hair.parts", Rows.laid_skewbald_hair_parts), ("skewbald/harness.nothing", Rows.laid_skewbald_harness_nothing), ("skewbald/harness.overs", Rows.laid_skewbald_harness_overs)]
theorem door_met (os:Os) (args:Array Value):laidMetH Tryd.prog laid1 ((World.doorLaid Tryd.prog 600 os).forCall (fun _ _=>0) ⟨#[],args,[]⟩).memory:=
 laidMetH_of_parts3 (fuel:=8) (laidMet_of_run' 8 (by kernel_rfl) (by kernel_rfl)) (by kernel_rfl) (by kernel_rfl)
theorem funcs2 {W:World} {nm:String} {d:DataW Unit} {g t e f0 f1:Nat} {s0 s1:List UInt8} (h:funcsAt Tryd.prog W nm d) (hn:Tryd.prog.globalNamed nm=some g) (ht:(Tryd.prog.globals[g]?).map (·.type)=some t) (hu:Tryd.prog.underlying t=some (.array 2 e)) (hE:Tryd.prog.cellsOf e=1) (hA:Tryd.prog.cellsOf t=2)
  (hd:d.funcsOut=.agg [.held s0,.held s1]) (k0:∀ (a:Value) (p:List MemPlace) (fuel:Nat),DataW.trod (funcToken Tryd.prog) Tryd.prog W 0 (fun _=>true) true fuel e [a]=some (.held s0,p)→a=.func (.func f0) #[] #[])
  (k1:∀ (a:Value) (p:List MemPlace) (fuel:Nat),DataW.trod (funcToken Tryd.prog) Tryd.prog W 0 (fun _=>true) true fuel e [a]=some (.held s1,p)→a=.func (.func f1) #[] #[]) :
  g<W.heap.size∧∀ (j:Nat) (x:D),([.fn f0,.fn f1]:List D)[j]?=some x→∃ cv,W.cell? ⟨g,j,none⟩=some cv∧DRel (fun g=>g<W.heap.size) W x cv:=by
 obtain ⟨g',t',cs,fuel,p,hg,ht',hv,hd'⟩:=h
 obtain rfl:=Option.some.inj (hn.symm.trans hg)
 obtain rfl:=Option.some.inj (ht.symm.trans ht')
 obtain ⟨xs,m,_,hx,hl,hlen,hel⟩:=DataW.trod_array hu hd'
 rw [hA] at hl
 have hcell:∀ i,W.cell? ⟨g,i,none⟩=cs[i]?:=World.var?_cell hg hv
 obtain ⟨l⟩:=cs
 match l,hl with
 | [a,b],_=>
  match xs,hlen with
  | [x,y],_=>
   simp only [Prod.mk.injEq] at hx
   have hx1:=hx.1
   rw [hd] at hx1
   have h0:=hel 0 (by decide)
   have h1:=hel 1 (by decide)
   rw [hE] at h0 h1
   obtain ⟨x1,x2⟩:=x
   obtain ⟨y1,y2⟩:=y
   simp only [List.map_cons,List.map_nil] at hx1
   injection hx1 with hx1
   injection hx1 with e0 hx1
   injection hx1 with e1 _
   subst e0;subst e1
   obtain rfl:=k0 a _ _ (show DataW.trod _ _ _ _ _ _ _ _ [a]=_ from h0)
   obtain rfl:=k1 b _ _ (show DataW.trod _ _ _ _ _ _ _ _ [b]=_ from h1)
   have c0:=hcell 0
   have c1:=hcell 1
   refine ⟨(cell_lt c0).1,fun j x hj=>?_⟩
   match j with
   | 0=>simp at hj;subst hj;exact ⟨_,c0,.fn f0⟩
   | 1=>simp at hj;subst hj;exact ⟨_,c1,.fn f1⟩
   | j+2=>simp at hj
theorem of_laid {W:World} (h:laidMetH Tryd.prog laid1 W):GlOk Gs W:=by
 have f2 := funcs2 (f0 := 154) (f1 := 161) (h.funcs (n := "skewbald/hair.parts") (List.mem_cons_self ..)) n2 t2 Tryd.underlying184 cell183 cell184 rfl
  (fun a p fuel ha=>func_of_trod (f0:=154) Tryd.underlying183 (by kernel_rfl) ha) (fun a p fuel ha=>func_of_trod (f0:=161) Tryd.underlying183 (by kernel_rfl) ha)
 have f0 := funcs2 (f0 := 156) (f1 := 157) (h.funcs (n := "skewbald/harness.overs") (List.mem_cons_of_mem _ (List.mem_cons_of_mem _ (List.mem_cons_self ..)))) n0 t0 Tryd.underlying163 cell162 cell163 rfl
  (fun a p fuel ha=>func_of_trod (f0:=156) Tryd.underlying162 (by kernel_rfl) ha) (fun a p fuel ha=>func_of_trod (f0:=157) Tryd.underlying162 (by kernel_rfl) ha)
 have f3:3<W.heap.size∧∀ (j:Nat) (x:D),([I (-1),I (-1)]:List D)[j]?=some x→∃ cv,W.cell? ⟨3,j,none⟩=some cv∧DRel (fun g=>g<W.heap.size) W x cv:=by
  obtain ⟨⟨ps, hL, _⟩, _⟩ : laidMet Tryd.prog [("skewbald/harness.nothing", Rows.laid_skewbald_harness_nothing)] W ∧ _ := h
  obtain ⟨g,t,cs,fuel,p,q,hg,ht,hv,hd,_⟩:=hL
  obtain rfl:=Option.some.inj (n3.symm.trans hg)
  obtain rfl:=Option.some.inj (t3.symm.trans ht)
  have hcell:∀ i,W.cell? ⟨3,i,none⟩=cs[i]?:=World.var?_cell hg hv
  obtain ⟨xs,n,_,hx,hl,hlen,hel⟩:=DataW.trod_struct Tryd.underlying197 hd
  rw [cell197] at hl
  obtain ⟨l⟩:=cs
  match l,hl with
  | [a,b],_=>
   match xs,hlen with
   | [x,y],_=>
    simp only [Prod.mk.injEq] at hx
    have hx1:DataW.agg [.lit (.int .i64 (-1)),.lit (.int .i64 (-1))]=DataW.agg [x.1,y.1]:=hx.1
    injection hx1 with hx1
    injection hx1 with e0 hx1
    injection hx1 with e1 _
    have h0:DataW.trod (fun _=>()) Tryd.prog W 0 (fun _=>true) false n 3 ((([a,b]:List Value).drop 0).take (Tryd.prog.cellsOf 3))=some x:=hel 0 _ rfl
    have h1:DataW.trod (fun _=>()) Tryd.prog W 0 (fun _=>true) false n 3 ((([a,b]:List Value).drop 1).take (Tryd.prog.cellsOf 3))=some y:=hel 1 _ rfl
    rw [cell3] at h0 h1
    obtain ⟨m0,ha,hx0,_⟩:=DataW.trod_int Tryd.underlying3 (show DataW.trod _ _ _ _ _ _ _ _ [a]=some x from h0)
    obtain ⟨m1,hb,hy0,_⟩:=DataW.trod_int Tryd.underlying3 (show DataW.trod _ _ _ _ _ _ _ _ [b]=some y from h1)
    subst hx0 hy0
    injection e0 with e0
    injection e0 with _ e0
    injection e1 with e1
    injection e1 with _ e1
    subst e0;subst e1
    injection ha with ha _
    injection hb with hb _
    subst ha;subst hb
    have c0:=hcell 0
    have c1:=hcell 1
    refine ⟨(cell_lt c0).1,fun j x hj=>?_⟩
    match j with
    | 0=>simp at hj;subst hj;exact ⟨_,c0,.int .i64 (-1)⟩
    | 1=>simp at hj;subst hj;exact ⟨_,c1,.int .i64 (-1)⟩
    | j+2=>simp at hj
 intro g row hr
 rw [show Go.Abs.look Gs g=bif Nat.beq 0 g then some [.fn 156,.fn 157] else bif Nat.beq 2 g then some [.fn 154,.fn 161] else bif Nat.beq 3 g then some [I (-1),I (-1)] else none from rfl] at hr
 cases hb0:Nat.beq 0 g with
 | true=>
  obtain rfl:=Nat.eq_of_beq_eq_true hb0
  simp only [hb0,cond_true,Option.some.injEq] at hr
  subst hr;exact f0
 | false=>
  simp only [hb0,cond_false] at hr
  cases hb1:Nat.beq 2 g with
  | true=>
   obtain rfl:=Nat.eq_of_beq_eq_true hb1
   simp only [hb1,cond_true,Option.some.injEq] at hr
   subst hr;exact f2
  | false=>
   simp only [hb1,cond_false] at hr
   cases hb2:Nat.beq 3 g with
   | true=>
    obtain rfl:=Nat.eq_of_beq_eq_true hb2
    simp only [hb2,cond_true,Option.some.injEq] at hr
    subst hr;exact f3
   | false=>
    simp [hb2] at hr
end Go.Proofs.YtgdkhppmlfmacaaDoor
