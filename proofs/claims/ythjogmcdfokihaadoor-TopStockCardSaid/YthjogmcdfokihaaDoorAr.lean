/- The listed variable and the arguments, opened. Conditions: none. -/
import Derived.Test.YthjogmcdfokihaaDoorTdc
import Derived.Test.YthjogmcdfokihaaDoorTie
import Derived.Test.YthjogmcdfokihaaDoorCards
import Derived.ProofKit
import Derived.LaidMore
import Derived.OpenShut
import Derived.Stop.Joined
import Derived.SevenTiedAt
set_option linter.unusedVariables false
set_option linter.unusedSimpArgs false
set_option maxRecDepth 100000
namespace Go.Proofs.YthjogmcdfokihaaDoor
open Go.ChangeShapes Go.WideShapes Go.ChangeAt Go.WideMaps Go.WideElems Go.RowKit Go.Abs Go.Proofs.Tp
theorem own:ownKnob Tryd.prog.godebug=none:=by kernel_rfl
theorem laidOut:laidOutB Tryd.prog=true:=by kernel_rfl
theorem n0 : Tryd.prog.globalNamed "skewbald/plank.nowhere" = some 0 := by kernel_rfl
theorem n1 : Tryd.prog.globalNamed "skewbald/hair.parts" = some 1 := by kernel_rfl
theorem n2 : Tryd.prog.globalNamed "skewbald/plank.hits" = some 2 := by kernel_rfl
theorem t0:(Tryd.prog.globals[0]?).map (·.type)=some 104:=by kernel_rfl
theorem t1:(Tryd.prog.globals[1]?).map (·.type)=some 111:=by kernel_rfl
theorem t2:(Tryd.prog.globals[2]?).map (·.type)=some 132:=by kernel_rfl
theorem cell110:Tryd.prog.cellsOf 110=1:=by kernel_rfl
theorem cell111:Tryd.prog.cellsOf 111=2:=by kernel_rfl
theorem cell131:Tryd.prog.cellsOf 131=1:=by kernel_rfl
theorem cell132:Tryd.prog.cellsOf 132=2:=by kernel_rfl
theorem cell104:Tryd.prog.cellsOf 104=3:=by kernel_rfl
theorem cell3:Tryd.prog.cellsOf 3=1:=by kernel_rfl
abbrev laid1 : List (String × DataW Unit) := [("skewbald/hair.parts", Rows.laid_skewbald_hair_parts), ("skewbald/plank.hits", Rows.laid_skewbald_plank_hits), ("skewbald/plank.nowhere", Rows.laid_skewbald_plank_nowhere)]
theorem door_met (os:Os) (args:Array Value):laidMetH Tryd.prog laid1 ((World.doorLaid Tryd.prog 600 os).forCall (fun _ _=>0) ⟨#[],args,[]⟩).memory:=
 laidMetH_of_parts3 (fuel:=8) (laidMet_of_run' 8 (by kernel_rfl) (by kernel_rfl)) (by kernel_rfl) (by kernel_rfl)
theorem funcs2 {W:World} {nm:String} {d:DataW Unit} {g t e f0 f1:Nat} {s0 s1:List UInt8} (h:funcsAt Tryd.prog W nm d) (hn:Tryd.prog.globalNamed nm=some g) (ht:(Tryd.prog.globals[g]?).map (·.type)=some t) (hu:Tryd.prog.underlying t=some (.array 2 e)) (hE:Tryd.prog.cellsOf e=1) (hA:Tryd.prog.cellsOf t=2)
  (hd:d.funcsOut=.agg [.held s0,.held s1]) (k0:∀ (a:Value) (p:List MemPlace) (fuel:Nat),DataW.trod (funcToken Tryd.prog) Tryd.prog W 0 (fun _=>true) true fuel e [a]=some (.held s0,p)→a=.func (.func f0) #[] #[])
  (k1:∀ (a:Value) (p:List MemPlace) (fuel:Nat),DataW.trod (funcToken Tryd.prog) Tryd.prog W 0 (fun _=>true) true fuel e [a]=some (.held s1,p)→a=.func (.func f1) #[] #[]) :
  g<W.heap.size∧∀ (j:Nat) (x:D),([.fn f0,.fn f1]:List D)[j]?=some x→∃ cv,W.cell? ⟨g,j,none⟩=some cv∧DRel (fun g=>g<W.heap.size) W x cv:=by
 obtain ⟨g',t',cs,fuel,p,hg,ht',hv,hd'⟩:=h
 obtain rfl:=Option.some.inj (hn.symm.trans hg)
 obtain rfl:=Option.some.inj (ht.symm.trans ht')
 obtain ⟨xs,m,_,hx,hl,hlen,hel⟩:=DataW.trod_array hu hd'
 rw [hA] at hl
 have hcell:∀ i,W.cell? ⟨g,i,none⟩=cs[i]?:=World.var?_cell hg hv
 obtain ⟨l⟩:=cs
 match l,hl with
 | [a,b],_=>
  match xs,hlen with
  | [x,y],_=>
   simp only [Prod.mk.injEq] at hx
   have hx1:=hx.1
   rw [hd] at hx1
   have h0:=hel 0 (by decide)
   have h1:=hel 1 (by decide)
   rw [hE] at h0 h1
   obtain ⟨x1,x2⟩:=x
   obtain ⟨y1,y2⟩:=y
   simp only [List.map_cons,List.map_nil] at hx1
   injection hx1 with hx1
   injection hx1 with e0 hx1
   injection hx1 with e1 _
   subst e0;subst e1
   obtain rfl:=k0 a _ _ (show DataW.trod _ _ _ _ _ _ _ _ [a]=_ from h0)
   obtain rfl:=k1 b _ _ (show DataW.trod _ _ _ _ _ _ _ _ [b]=_ from h1)
   have c0:=hcell 0
   have c1:=hcell 1
   refine ⟨(cell_lt c0).1,fun j x hj=>?_⟩
   match j with
   | 0=>simp at hj;subst hj;exact ⟨_,c0,.fn f0⟩
   | 1=>simp at hj;subst hj;exact ⟨_,c1,.fn f1⟩
   | j+2=>simp at hj
theorem ints_cells {W:World} {m:Nat}:∀ (is:List Int) (cs:List Value) (xs:List (DataW Unit×List MemPlace)),cs.length=is.length→xs.map (·.1)=is.map (fun n=>DataW.lit (.int .i64 n)) →
  (∀ (i:Nat) x,xs[i]?=some x→DataW.trod (fun _=>()) Tryd.prog W 0 (fun _=>true) false m 3 ((cs.drop i).take 1)=some x)→cs=is.map fun n=>Value.int .i64 n
 | [],cs,xs,hl,_,_=>by simpa using hl
 | n::is,[],xs,hl,_,_=>by simp at hl
 | n::is,c::cs,[],hl,hx,_=>by simp at hx
 | n::is,c::cs,x::xs,hl,hx,h=>by
  simp only [List.map_cons,List.cons.injEq] at hx
  have h0:=h 0 x rfl
  obtain ⟨m0,ha,hx0,_⟩:=DataW.trod_int Tryd.underlying3 (show DataW.trod _ _ _ _ _ _ _ _ [c]=some x from h0)
  obtain ⟨hx1,hx2⟩:=hx
  subst hx0
  injection hx1 with e0
  injection e0 with _ e0
  injection ha with ha _
  subst ha;subst e0
  rw [ints_cells is cs xs (by simpa using hl) hx2 (fun i y hy=>h (i+1) y (by simpa using hy))]
  rfl
theorem ints_at {W:World} {g:Nat} {cs:Array Value} {is:List Int} (hcell:∀ i,W.cell? ⟨g,i,none⟩=cs[i]?) (hc:cs.toList=is.map fun n=>Value.int .i64 n) (h0:0<is.length):g<W.heap.size∧∀ (j:Nat) (x:D),(is.map fun n=>I n)[j]?=some x→∃ cv,W.cell? ⟨g,j,none⟩=some cv∧DRel (fun g=>g<W.heap.size) W x cv:=by
 have hget:∀ j:Nat,W.cell? ⟨g,j,none⟩=(is.map fun n=>Value.int .i64 n)[j]?:=fun j=>by rw [hcell,← hc,Array.getElem?_toList]
 refine ⟨?_,fun j x hj=>?_⟩
 ·have:=hget 0
  rw [List.getElem?_map,List.getElem?_eq_getElem h0] at this
  exact (cell_lt this).1
 ·rw [List.getElem?_map,Option.map_eq_some_iff] at hj
  obtain ⟨n,hn,rfl⟩:=hj
  refine ⟨.int .i64 n,?_,.int .i64 n⟩
  rw [hget,List.getElem?_map,hn];rfl
theorem of_laid {W:World} (h:laidMetH Tryd.prog laid1 W):GlOk Gs W:=by
 have f1 := funcs2 (f0 := 95) (f1 := 98) (h.funcs (n := "skewbald/hair.parts") (List.mem_cons_self ..)) n1 t1 Tryd.underlying111 cell110 cell111 rfl
  (fun a p fuel ha=>func_of_trod (f0:=95) Tryd.underlying110 (by kernel_rfl) ha) (fun a p fuel ha=>func_of_trod (f0:=98) Tryd.underlying110 (by kernel_rfl) ha)
 have f2 := funcs2 (f0 := 96) (f1 := 99) (h.funcs (n := "skewbald/plank.hits") (List.mem_cons_of_mem _ (List.mem_cons_self ..))) n2 t2 Tryd.underlying132 cell131 cell132 rfl
  (fun a p fuel ha=>func_of_trod (f0:=96) Tryd.underlying131 (by kernel_rfl) ha) (fun a p fuel ha=>func_of_trod (f0:=99) Tryd.underlying131 (by kernel_rfl) ha)
 obtain ⟨⟨ps, hL, _⟩, _⟩ : laidMet Tryd.prog [("skewbald/plank.nowhere", Rows.laid_skewbald_plank_nowhere)] W ∧ _ := h
 obtain ⟨g,t,cs,fuel,p,q,hg,ht,hv,hd,_⟩:=hL
 have f0:0<W.heap.size∧∀ (j:Nat) (x:D),([I (-1),I (-1),I (-1)]:List D)[j]?=some x→∃ cv,W.cell? ⟨0,j,none⟩=some cv∧DRel (fun g=>g<W.heap.size) W x cv:=by
  obtain rfl:=Option.some.inj (n0.symm.trans hg)
  obtain rfl:=Option.some.inj (t0.symm.trans ht)
  have hcell:∀ i,W.cell? ⟨0,i,none⟩=cs[i]?:=World.var?_cell hg hv
  obtain ⟨xs,n,_,hx,hl,hlen,hel⟩:=DataW.trod_struct Tryd.underlying104 hd
  rw [cell104] at hl
  match xs,hlen with
  | [x,y,z],_=>
   simp only [Prod.mk.injEq] at hx
   have hx1:DataW.agg [.lit (.int .i64 (-1)),.lit (.int .i64 (-1)),.lit (.int .i64 (-1))]=DataW.agg [x.1,y.1,z.1]:=hx.1
   injection hx1 with hx1
   have h0:DataW.trod (fun _=>()) Tryd.prog W 0 (fun _=>true) false n 3 ((cs.toList.drop 0).take (Tryd.prog.cellsOf 3))=some x:=hel 0 _ rfl
   have h1:DataW.trod (fun _=>()) Tryd.prog W 0 (fun _=>true) false n 3 ((cs.toList.drop 1).take (Tryd.prog.cellsOf 3))=some y:=hel 1 _ rfl
   have h2:DataW.trod (fun _=>()) Tryd.prog W 0 (fun _=>true) false n 3 ((cs.toList.drop 2).take (Tryd.prog.cellsOf 3))=some z:=hel 2 _ rfl
   rw [cell3] at h0 h1 h2
   have hc:=ints_cells [-1,-1,-1] cs.toList [x,y,z] hl hx1.symm (fun i u hu=>by
    match i with
    | 0=>cases hu;exact h0
    | 1=>cases hu;exact h1
    | 2=>cases hu;exact h2
    | i+3=>simp at hu)
   exact ints_at hcell hc (by decide)
 intro g row hr
 rw [show Go.Abs.look Gs g=bif Nat.beq 0 g then some [I (-1),I (-1),I (-1)] else bif Nat.beq 1 g then some [.fn 95,.fn 98] else bif Nat.beq 2 g then some [.fn 96,.fn 99] else none from rfl] at hr
 cases hb:Nat.beq 0 g with
 | true=>
  obtain rfl:=Nat.eq_of_beq_eq_true hb
  simp only [hb,cond_true,Option.some.injEq] at hr
  subst hr;exact f0
 | false=>
  simp only [hb,cond_false] at hr
  cases hb1:Nat.beq 1 g with
  | true=>
   obtain rfl:=Nat.eq_of_beq_eq_true hb1
   simp only [hb1,cond_true,Option.some.injEq] at hr
   subst hr;exact f1
  | false=>
   simp only [hb1,cond_false] at hr
   cases hb2:Nat.beq 2 g with
   | true=>
    obtain rfl:=Nat.eq_of_beq_eq_true hb2
    simp only [hb2,cond_true,Option.some.injEq] at hr
    subst hr;exact f2
   | false=>simp [hb2] at hr
end Go.Proofs.YthjogmcdfokihaaDoor
set_option maxRecDepth 100000
namespace Go.Proofs.YthjogmcdfokihaaDoor
open Go.ChangeShapes Go.WideShapes Go.ChangeAt Go.WideMaps Go.WideElems Go.RowKit Go.Abs Go.Proofs.Tp
def Wi (n:Int):Prop:=-9223372036854775808≤n∧n≤9223372036854775807
theorem wi_of {n:Int} (h:(Lit.int .i64 n).wf=true):Wi n:=by
 simp only [Lit.wf,Bool.and_eq_true,decide_eq_true_eq] at h
 exact ⟨h.1,h.2⟩
theorem fit_map {α:Type} {sp:List Sp} {e:α→List D} {p:α→Prop} (h:∀ row,fitL sp row→∃ a,row=e a∧p a):∀ (xs:List (List D)),(∀ row,row∈xs→fitL sp row)→∃ l:List α,xs=l.map e∧∀ a,a∈l→p a
 | [],_=>⟨[],rfl,fun a h=>by cases h⟩
 | x::xs,hx=>by
  obtain ⟨a,e1,h1⟩:=h x (hx x (by simp))
  obtain ⟨l,e2,h2⟩:=fit_map h xs (fun r hr=>hx r (by simp [hr]))
  refine ⟨a::l,by rw [e1,e2];rfl,fun b hb=>?_⟩
  rcases List.mem_cons.1 hb with rfl | hb
  ·exact h1
  ·exact h2 b hb
theorem fit_i {ss:List Sp} {l:List D} (h:fitL (.i .i64::ss) l):∃ n r,l=I n::r∧Wi n∧fitL ss r:=by
 rw [fitL] at h;obtain ⟨x,xs,rfl,hx,h⟩:=h
 rw [Sp.fit] at hx;obtain ⟨n,rfl,hn⟩:=hx
 exact ⟨n,xs,rfl,wi_of hn,h⟩
theorem fit_sl {es ss:List Sp} {l:List D} (h:fitL (.sl es::ss) l):∃ ys r,l=.sl es.length ys::r∧ys.length≤maxLen∧(∀ row,row∈ys→fitL es row)∧fitL ss r:=by
 rw [fitL] at h;obtain ⟨x,xs,rfl,hx,h⟩:=h
 rw [Sp.fit] at hx;obtain ⟨n,rfl,h1,h2⟩:=hx
 exact ⟨n,xs,rfl,h1,h2,h⟩
theorem fit_nil {l:List D} (h:fitL [] l):l=[]:=by rwa [fitL] at h
theorem fit_b {ss:List Sp} {l:List D} (h:fitL (.b::ss) l):∃ c r,l=.bool c::r∧fitL ss r:=by
 rw [fitL] at h;obtain ⟨x,xs,rfl,hx,h⟩:=h
 rw [Sp.fit] at hx;obtain ⟨c,rfl⟩:=hx
 exact ⟨c,xs,rfl,h⟩
structure WBook (b:PlankBook):Prop where
 planks:b.Planks.length≤maxLen
 parts:b.Parts.length≤maxLen
theorem sp25:spT Tryd.prog 8 25=some [.sl [.i .i64,.sl [.i .i64,.i .i64]],.sl [.i .i64,.sl [.i .i64],.b]]:=rfl
theorem fit_int (row:List D) (h:fitL [.i .i64] row):∃ a,row=e3 a∧Wi a:=by
 obtain ⟨a,_,rfl,ha,h⟩:=fit_i h
 obtain rfl:=fit_nil h
 exact ⟨a,rfl,ha⟩
theorem fit_span (row:List D) (h:fitL [.i .i64,.i .i64] row):∃ a,row=e47 a∧True:=by
 obtain ⟨a,_,rfl,ha,h⟩:=fit_i h
 obtain ⟨b,_,rfl,hb,h⟩:=fit_i h
 obtain rfl:=fit_nil h
 exact ⟨⟨a,b⟩,rfl,trivial⟩
theorem fit_wood (row:List D) (h:fitL [.i .i64,.sl [.i .i64,.i .i64]] row):∃ a,row=e32 a∧True:=by
 obtain ⟨a,_,rfl,ha,h⟩:=fit_i h
 obtain ⟨ys,_,rfl,hl,hy,h⟩:=fit_sl h
 obtain rfl:=fit_nil h
 obtain ⟨l,rfl,hp⟩:=fit_map fit_span _ hy
 exact ⟨⟨a,l⟩,rfl,trivial⟩
theorem fit_shape (row:List D) (h:fitL [.i .i64,.sl [.i .i64],.b] row):∃ a,row=e35 a∧True:=by
 obtain ⟨a,_,rfl,ha,h⟩:=fit_i h
 obtain ⟨ys,_,rfl,hl,hy,h⟩:=fit_sl h
 obtain ⟨c,r,e,h2⟩:=fit_b h
 obtain rfl:=fit_nil h2
 subst e
 obtain ⟨l,rfl,hp⟩:=fit_map fit_int _ hy
 exact ⟨⟨a,l,c⟩,rfl,trivial⟩
theorem arg25 {W:World} {H:Type} {enc:TypeId×Value→H} {r:Reach} {b0:Nat} {v:Value} {d:DataW H} {ps:List MemPlace} (hval:Value.okWide Tryd.prog W r b0 25 v) (hd:DataW.Trod enc Tryd.prog W 0 (fun _=>true) true 25 v d ps) :
  ∃ b:PlankBook,WBook b∧ArgR W (.agg [.d (.sl 2 (List.map e32 b.Planks)),.d (.sl 3 (List.map e35 b.Parts))]) v:=by
 obtain ⟨xs,h,hr⟩:=arg_agg Tryd.underlying25 rfl 8 sp25 hval hd
 obtain ⟨a0,_,rfl,l0,w0,h⟩:=fit_sl h
 obtain ⟨a1,_,rfl,l1,w1,h⟩:=fit_sl h
 obtain rfl:=fit_nil h
 obtain ⟨ws,rfl,_⟩:=fit_map fit_wood _ w0
 obtain ⟨qs,rfl,_⟩:=fit_map fit_shape _ w1
 exact ⟨⟨ws,qs⟩,⟨by simpa using l0,by simpa using l1⟩,hr⟩
end Go.Proofs.YthjogmcdfokihaaDoor
