/- The listed variable and the arguments, opened. Conditions: none. -/
import Derived.Test.YtailndjnfdcolaaDoorTdb
import Derived.Test.YtailndjnfdcolaaDoorTie
import Derived.Test.YtailndjnfdcolaaDoorCards
import Derived.ProofKit
import Derived.LaidMore
import Derived.OpenShut
import Derived.Stop.Joined
import Derived.SevenTiedAt
set_option linter.unusedVariables false
set_option linter.unusedSimpArgs false
set_option maxRecDepth 100000
namespace Go.Proofs.YtailndjnfdcolaaDoor
open Go.ChangeShapes Go.WideShapes Go.ChangeAt Go.WideMaps Go.WideElems Go.RowKit Go.Abs Go.Proofs.Ta
theorem own:ownKnob Tryd.prog.godebug=none:=by kernel_rfl
theorem laidOut:laidOutB Tryd.prog=true:=by kernel_rfl
theorem n0 : Tryd.prog.globalNamed "skewbald/dapple.alikes" = some 0 := by kernel_rfl
theorem n1 : Tryd.prog.globalNamed "skewbald/dapple.never" = some 1 := by kernel_rfl
theorem n2 : Tryd.prog.globalNamed "skewbald/maker.anything" = some 2 := by kernel_rfl
theorem t0:(Tryd.prog.globals[0]?).map (·.type)=some 62:=by kernel_rfl
theorem t1:(Tryd.prog.globals[1]?).map (·.type)=some 87:=by kernel_rfl
theorem t2:(Tryd.prog.globals[2]?).map (·.type)=some 75:=by kernel_rfl
theorem cell61:Tryd.prog.cellsOf 61=1:=by kernel_rfl
theorem cell62:Tryd.prog.cellsOf 62=2:=by kernel_rfl
theorem cell87:Tryd.prog.cellsOf 87=3:=by kernel_rfl
theorem cell75:Tryd.prog.cellsOf 75=6:=by kernel_rfl
theorem cell3:Tryd.prog.cellsOf 3=1:=by kernel_rfl
abbrev laid1 : List (String × DataW Unit) := [("skewbald/dapple.alikes", Rows.laid_skewbald_dapple_alikes), ("skewbald/dapple.never", Rows.laid_skewbald_dapple_never), ("skewbald/maker.anything", Rows.laid_skewbald_maker_anything)]
theorem door_met (os:Os) (args:Array Value):laidMetH Tryd.prog laid1 ((World.doorLaid Tryd.prog 600 os).forCall (fun _ _=>0) ⟨#[],args,[]⟩).memory:=
 laidMetH_of_parts3 (fuel:=8) (laidMet_of_run' 8 (by kernel_rfl) (by kernel_rfl)) (by kernel_rfl) (by kernel_rfl)
theorem funcs2 {W:World} {nm:String} {d:DataW Unit} {g t e f0 f1:Nat} {s0 s1:List UInt8} (h:funcsAt Tryd.prog W nm d) (hn:Tryd.prog.globalNamed nm=some g) (ht:(Tryd.prog.globals[g]?).map (·.type)=some t) (hu:Tryd.prog.underlying t=some (.array 2 e)) (hE:Tryd.prog.cellsOf e=1) (hA:Tryd.prog.cellsOf t=2)
  (hd:d.funcsOut=.agg [.held s0,.held s1]) (k0:∀ (a:Value) (p:List MemPlace) (fuel:Nat),DataW.trod (funcToken Tryd.prog) Tryd.prog W 0 (fun _=>true) true fuel e [a]=some (.held s0,p)→a=.func (.func f0) #[] #[])
  (k1:∀ (a:Value) (p:List MemPlace) (fuel:Nat),DataW.trod (funcToken Tryd.prog) Tryd.prog W 0 (fun _=>true) true fuel e [a]=some (.held s1,p)→a=.func (.func f1) #[] #[]) :
  g<W.heap.size∧∀ (j:Nat) (x:D),([.fn f0,.fn f1]:List D)[j]?=some x→∃ cv,W.cell? ⟨g,j,none⟩=some cv∧DRel (fun g=>g<W.heap.size) W x cv:=by
 obtain ⟨g',t',cs,fuel,p,hg,ht',hv,hd'⟩:=h
 obtain rfl:=Option.some.inj (hn.symm.trans hg)
 obtain rfl:=Option.some.inj (ht.symm.trans ht')
 obtain ⟨xs,m,_,hx,hl,hlen,hel⟩:=DataW.trod_array hu hd'
 rw [hA] at hl
 have hcell:∀ i,W.cell? ⟨g,i,none⟩=cs[i]?:=World.var?_cell hg hv
 obtain ⟨l⟩:=cs
 match l,hl with
 | [a,b],_=>
  match xs,hlen with
  | [x,y],_=>
   simp only [Prod.mk.injEq] at hx
   have hx1:=hx.1
   rw [hd] at hx1
   have h0:=hel 0 (by decide)
   have h1:=hel 1 (by decide)
   rw [hE] at h0 h1
   obtain ⟨x1,x2⟩:=x
   obtain ⟨y1,y2⟩:=y
   simp only [List.map_cons,List.map_nil] at hx1
   injection hx1 with hx1
   injection hx1 with e0 hx1
   injection hx1 with e1 _
   subst e0;subst e1
   obtain rfl:=k0 a _ _ (show DataW.trod _ _ _ _ _ _ _ _ [a]=_ from h0)
   obtain rfl:=k1 b _ _ (show DataW.trod _ _ _ _ _ _ _ _ [b]=_ from h1)
   have c0:=hcell 0
   have c1:=hcell 1
   refine ⟨(cell_lt c0).1,fun j x hj=>?_⟩
   match j with
   | 0=>simp at hj;subst hj;exact ⟨_,c0,.fn f0⟩
   | 1=>simp at hj;subst hj;exact ⟨_,c1,.fn f1⟩
   | j+2=>simp at hj
theorem ints_cells {W:World} {m:Nat}:∀ (is:List Int) (cs:List Value) (xs:List (DataW Unit×List MemPlace)),cs.length=is.length→xs.map (·.1)=is.map (fun n=>DataW.lit (.int .i64 n)) →
  (∀ (i:Nat) x,xs[i]?=some x→DataW.trod (fun _=>()) Tryd.prog W 0 (fun _=>true) false m 3 ((cs.drop i).take 1)=some x)→cs=is.map fun n=>Value.int .i64 n
 | [],cs,xs,hl,_,_=>by simpa using hl
 | n::is,[],xs,hl,_,_=>by simp at hl
 | n::is,c::cs,[],hl,hx,_=>by simp at hx
 | n::is,c::cs,x::xs,hl,hx,h=>by
  simp only [List.map_cons,List.cons.injEq] at hx
  have h0:=h 0 x rfl
  obtain ⟨m0,ha,hx0,_⟩:=DataW.trod_int Tryd.underlying3 (show DataW.trod _ _ _ _ _ _ _ _ [c]=some x from h0)
  obtain ⟨hx1,hx2⟩:=hx
  subst hx0
  injection hx1 with e0
  injection e0 with _ e0
  injection ha with ha _
  subst ha;subst e0
  rw [ints_cells is cs xs (by simpa using hl) hx2 (fun i y hy=>h (i+1) y (by simpa using hy))]
  rfl
theorem ints_at {W:World} {g:Nat} {cs:Array Value} {is:List Int} (hcell:∀ i,W.cell? ⟨g,i,none⟩=cs[i]?) (hc:cs.toList=is.map fun n=>Value.int .i64 n) (h0:0<is.length):g<W.heap.size∧∀ (j:Nat) (x:D),(is.map fun n=>I n)[j]?=some x→∃ cv,W.cell? ⟨g,j,none⟩=some cv∧DRel (fun g=>g<W.heap.size) W x cv:=by
 have hget:∀ j:Nat,W.cell? ⟨g,j,none⟩=(is.map fun n=>Value.int .i64 n)[j]?:=fun j=>by rw [hcell,← hc,Array.getElem?_toList]
 refine ⟨?_,fun j x hj=>?_⟩
 ·have:=hget 0
  rw [List.getElem?_map,List.getElem?_eq_getElem h0] at this
  exact (cell_lt this).1
 ·rw [List.getElem?_map,Option.map_eq_some_iff] at hj
  obtain ⟨n,hn,rfl⟩:=hj
  refine ⟨.int .i64 n,?_,.int .i64 n⟩
  rw [hget,List.getElem?_map,hn];rfl
theorem of_laid {W:World} (h:laidMetH Tryd.prog laid1 W):GlOk Gs W:=by
 have f0 := funcs2 (f0 := 70) (f1 := 72) (h.funcs (n := "skewbald/dapple.alikes") (List.mem_cons_self ..)) n0 t0 Tryd.underlying62 cell61 cell62 rfl
  (fun a p fuel ha=>func_of_trod (f0:=70) Tryd.underlying61 (by kernel_rfl) ha) (fun a p fuel ha=>func_of_trod (f0:=72) Tryd.underlying61 (by kernel_rfl) ha)
 obtain ⟨⟨ps, hL, _⟩, _⟩ : laidMet Tryd.prog [("skewbald/dapple.never", Rows.laid_skewbald_dapple_never), ("skewbald/maker.anything", Rows.laid_skewbald_maker_anything)] W ∧ _ := h
 obtain ⟨g,t,cs,fuel,p,q,hg,ht,hv,hd,hL2,_⟩:=hL
 obtain ⟨g',t',cs',fuel',p',q',hg',ht',hv',hd',_,_⟩:=hL2
 have f1:1<W.heap.size∧∀ (j:Nat) (x:D),([I (-1),I (-1),I (-1)]:List D)[j]?=some x→∃ cv,W.cell? ⟨1,j,none⟩=some cv∧DRel (fun g=>g<W.heap.size) W x cv:=by
  obtain rfl:=Option.some.inj (n1.symm.trans hg)
  obtain rfl:=Option.some.inj (t1.symm.trans ht)
  have hcell:∀ i,W.cell? ⟨1,i,none⟩=cs[i]?:=World.var?_cell hg hv
  obtain ⟨xs,n,_,hx,hl,hlen,hel⟩:=DataW.trod_struct Tryd.underlying87 hd
  rw [cell87] at hl
  match xs,hlen with
  | [x,y,z],_=>
   simp only [Prod.mk.injEq] at hx
   have hx1:DataW.agg [.lit (.int .i64 (-1)),.lit (.int .i64 (-1)),.lit (.int .i64 (-1))]=DataW.agg [x.1,y.1,z.1]:=hx.1
   injection hx1 with hx1
   have h0:DataW.trod (fun _=>()) Tryd.prog W 0 (fun _=>true) false n 3 ((cs.toList.drop 0).take (Tryd.prog.cellsOf 3))=some x:=hel 0 _ rfl
   have h1:DataW.trod (fun _=>()) Tryd.prog W 0 (fun _=>true) false n 3 ((cs.toList.drop 1).take (Tryd.prog.cellsOf 3))=some y:=hel 1 _ rfl
   have h2:DataW.trod (fun _=>()) Tryd.prog W 0 (fun _=>true) false n 3 ((cs.toList.drop 2).take (Tryd.prog.cellsOf 3))=some z:=hel 2 _ rfl
   rw [cell3] at h0 h1 h2
   have hc:=ints_cells [-1,-1,-1] cs.toList [x,y,z] hl hx1.symm (fun i u hu=>by
    match i with
    | 0=>cases hu;exact h0
    | 1=>cases hu;exact h1
    | 2=>cases hu;exact h2
    | i+3=>simp at hu)
   exact ints_at hcell hc (by decide)
 have f2:2<W.heap.size∧∀ (j:Nat) (x:D),([I 31,I 31,I 31,I 31,I 31,I 31]:List D)[j]?=some x→∃ cv,W.cell? ⟨2,j,none⟩=some cv∧DRel (fun g=>g<W.heap.size) W x cv:=by
  obtain rfl:=Option.some.inj (n2.symm.trans hg')
  obtain rfl:=Option.some.inj (t2.symm.trans ht')
  have hcell:∀ i,W.cell? ⟨2,i,none⟩=cs'[i]?:=World.var?_cell hg' hv'
  obtain ⟨xs,n,_,hx,hl,hlen,hel⟩:=DataW.trod_array Tryd.underlying75 hd'
  rw [cell75] at hl
  simp only [Prod.mk.injEq] at hx
  have hx1:DataW.agg ([31,31,31,31,31,31].map fun n=>DataW.lit (.int .i64 n))=DataW.agg (xs.map (·.1)):=hx.1
  injection hx1 with hx1
  have hc:=ints_cells [31,31,31,31,31,31] cs'.toList xs hl hx1.symm (fun i u hu=>by
   have hi:i<6:=by have:=(List.getElem?_eq_some_iff.1 hu).1;omega
   have:=hel i hi
   rw [cell3,Nat.mul_one,hu] at this
   exact this)
  exact ints_at hcell hc (by decide)
 intro g row hr
 rw [show Go.Abs.look Gs g=bif Nat.beq 0 g then some [.fn 70,.fn 72] else bif Nat.beq 1 g then some [I (-1),I (-1),I (-1)] else bif Nat.beq 2 g then some [I 31,I 31,I 31,I 31,I 31,I 31] else none from rfl] at hr
 cases hb:Nat.beq 0 g with
 | true=>
  obtain rfl:=Nat.eq_of_beq_eq_true hb
  simp only [hb,cond_true,Option.some.injEq] at hr
  subst hr;exact f0
 | false=>
  simp only [hb,cond_false] at hr
  cases hb1:Nat.beq 1 g with
  | true=>
   obtain rfl:=Nat.eq_of_beq_eq_true hb1
   simp only [hb1,cond_true,Option.some.injEq] at hr
   subst hr;exact f1
  | false=>
   simp only [hb1,cond_false] at hr
   cases hb2:Nat.beq 2 g with
   | true=>
    obtain rfl:=Nat.eq_of_beq_eq_true hb2
    simp only [hb2,cond_true,Option.some.injEq] at hr
    subst hr;exact f2
   | false=>simp [hb2] at hr
end Go.Proofs.YtailndjnfdcolaaDoor
set_option maxRecDepth 100000
namespace Go.Proofs.YtailndjnfdcolaaDoor
open Go.ChangeShapes Go.WideShapes Go.ChangeAt Go.WideMaps Go.WideElems Go.RowKit Go.Abs Go.Proofs.Ta
def Wi (n:Int):Prop:=-9223372036854775808≤n∧n≤9223372036854775807
theorem wi_of {n:Int} (h:(Lit.int .i64 n).wf=true):Wi n:=by
 simp only [Lit.wf,Bool.and_eq_true,decide_eq_true_eq] at h
 exact ⟨h.1,h.2⟩
theorem fit_map {α:Type} {sp:List Sp} {e:α→List D} {p:α→Prop} (h:∀ row,fitL sp row→∃ a,row=e a∧p a):∀ (xs:List (List D)),(∀ row,row∈xs→fitL sp row)→∃ l:List α,xs=l.map e∧∀ a,a∈l→p a
 | [],_=>⟨[],rfl,fun a h=>by cases h⟩
 | x::xs,hx=>by
  obtain ⟨a,e1,h1⟩:=h x (hx x (by simp))
  obtain ⟨l,e2,h2⟩:=fit_map h xs (fun r hr=>hx r (by simp [hr]))
  refine ⟨a::l,by rw [e1,e2];rfl,fun b hb=>?_⟩
  rcases List.mem_cons.1 hb with rfl | hb
  ·exact h1
  ·exact h2 b hb
theorem fit_i {ss:List Sp} {l:List D} (h:fitL (.i .i64::ss) l):∃ n r,l=I n::r∧Wi n∧fitL ss r:=by
 rw [fitL] at h;obtain ⟨x,xs,rfl,hx,h⟩:=h
 rw [Sp.fit] at hx;obtain ⟨n,rfl,hn⟩:=hx
 exact ⟨n,xs,rfl,wi_of hn,h⟩
theorem fit_sl {es ss:List Sp} {l:List D} (h:fitL (.sl es::ss) l):∃ ys r,l=.sl es.length ys::r∧ys.length≤maxLen∧(∀ row,row∈ys→fitL es row)∧fitL ss r:=by
 rw [fitL] at h;obtain ⟨x,xs,rfl,hx,h⟩:=h
 rw [Sp.fit] at hx;obtain ⟨n,rfl,h1,h2⟩:=hx
 exact ⟨n,xs,rfl,h1,h2,h⟩
theorem fit_nil {l:List D} (h:fitL [] l):l=[]:=by rwa [fitL] at h
structure WBook (b:DappleBook):Prop where
 round:Wi b.Round
 horses:b.Horses.length≤maxLen
theorem sp24:spT Tryd.prog 8 24=some [.i .i64,.sl [.sl [.i .i64]]]:=rfl
theorem sp25:spT Tryd.prog 8 25=some [.i .i64,.i .i64,.i .i64]:=rfl
theorem fit_int (row:List D) (h:fitL [.i .i64] row):∃ a,row=e3 a∧Wi a:=by
 obtain ⟨a,_,rfl,ha,h⟩:=fit_i h
 obtain rfl:=fit_nil h
 exact ⟨a,rfl,ha⟩
theorem fit_ints (row:List D) (h:fitL [.sl [.i .i64]] row):∃ a,row=e29 a∧True:=by
 obtain ⟨ys,_,rfl,hl,hy,h⟩:=fit_sl h
 obtain rfl:=fit_nil h
 obtain ⟨l,rfl,hp⟩:=fit_map fit_int _ hy
 exact ⟨l,rfl,trivial⟩
theorem arg24 {W:World} {H:Type} {enc:TypeId×Value→H} {r:Reach} {b0:Nat} {v:Value} {d:DataW H} {ps:List MemPlace} (hval:Value.okWide Tryd.prog W r b0 24 v) (hd:DataW.Trod enc Tryd.prog W 0 (fun _=>true) true 24 v d ps) :
  ∃ b:DappleBook,WBook b∧ArgR W (.agg [.d (I b.Round),.d (.sl 1 (List.map e29 b.Horses))]) v:=by
 obtain ⟨xs,h,hr⟩:=arg_agg Tryd.underlying24 rfl 8 sp24 hval hd
 obtain ⟨a0,_,rfl,w0,h⟩:=fit_i h
 obtain ⟨a1,_,rfl,l1,w1,h⟩:=fit_sl h
 obtain rfl:=fit_nil h
 obtain ⟨hs,rfl,hp⟩:=fit_map fit_ints _ w1
 exact ⟨⟨a0,hs⟩,⟨w0,by simpa using l1⟩,hr⟩
theorem arg25 {W:World} {H:Type} {enc:TypeId×Value→H} {r:Reach} {b0:Nat} {v:Value} {d:DataW H} {ps:List MemPlace} (hval:Value.okWide Tryd.prog W r b0 25 v) (hd:DataW.Trod enc Tryd.prog W 0 (fun _=>true) true 25 v d ps) :
  ∃ n:Nat→Int,(∀ i,Wi (n i))∧ArgR W (.agg [.d (I (n 0)),.d (I (n 1)),.d (I (n 2))]) v:=by
 obtain ⟨xs,h,hr⟩:=arg_agg Tryd.underlying25 rfl 8 sp25 hval hd
 obtain ⟨a0,_,rfl,w0,h⟩:=fit_i h
 obtain ⟨a1,_,rfl,w1,h⟩:=fit_i h
 obtain ⟨a2,_,rfl,w2,h⟩:=fit_i h
 obtain rfl:=fit_nil h
 refine ⟨fun i=>if i=0 then a0 else if i=1 then a1 else a2,fun i=>?_,hr⟩
 by_cases hi:i=0
 ·simp only [hi,if_true];exact w0
 ·by_cases h1:i=1
  ·simp only [hi,h1,if_false,if_true];exact w1
  ·simp only [hi,h1,if_false];exact w2
end Go.Proofs.YtailndjnfdcolaaDoor
