/- The listed variable and the arguments, opened. Conditions: none. -/
import Derived.Test.YthcpnbeikdhlkaaDoorTdc
import Derived.Test.YthcpnbeikdhlkaaDoorTie
import Derived.Test.YthcpnbeikdhlkaaDoorCards
import Derived.ProofKit
import Derived.LaidMore
import Derived.OpenShut
import Derived.Stop.Joined
import Derived.SevenTiedAt
set_option linter.unusedVariables false
set_option linter.unusedSimpArgs false
set_option maxRecDepth 100000
namespace Go.Proofs.YthcpnbeikdhlkaaDoor
open Go.ChangeShapes Go.WideShapes Go.ChangeAt Go.WideMaps Go.WideElems Go.RowKit Go.Abs Go.Proofs.Tt
theorem own:ownKnob Tryd.prog.godebug=none:=by kernel_rfl
theorem laidOut:laidOutB Tryd.prog=true:=by kernel_rfl
theorem n0 : Tryd.prog.globalNamed "skewbald/harness.overs" = some 0 := by kernel_rfl
theorem n1 : Tryd.prog.globalNamed "skewbald/harness.nothing" = some 2 := by kernel_rfl
theorem n2 : Tryd.prog.globalNamed "skewbald/hair.parts" = some 1 := by kernel_rfl
theorem t0:(Tryd.prog.globals[0]?).map (·.type)=some 103:=by kernel_rfl
theorem t1:(Tryd.prog.globals[2]?).map (·.type)=some 124:=by kernel_rfl
theorem t2:(Tryd.prog.globals[1]?).map (·.type)=some 111:=by kernel_rfl
theorem cell102:Tryd.prog.cellsOf 102=1:=by kernel_rfl
theorem cell103:Tryd.prog.cellsOf 103=2:=by kernel_rfl
theorem cell110:Tryd.prog.cellsOf 110=1:=by kernel_rfl
theorem cell111:Tryd.prog.cellsOf 111=2:=by kernel_rfl
theorem cell124:Tryd.prog.cellsOf 124=2:=by kernel_rfl
theorem cell3:Tryd.prog.cellsOf 3=1:=by kernel_rfl
abbrev laid1 : List (String × DataW Unit) := [("skewbald/hair.parts", Rows.laid_skewbald_hair_parts), ("skewbald/harness.nothing", Rows.laid_skewbald_harness_nothing), ("skewbald/harness.overs", Rows.laid_skewbald_harness_overs)]
theorem door_met (os:Os) (args:Array Value):laidMetH Tryd.prog laid1 ((World.doorLaid Tryd.prog 600 os).forCall (fun _ _=>0) ⟨#[],args,[]⟩).memory:=
 laidMetH_of_parts3 (fuel:=8) (laidMet_of_run' 8 (by kernel_rfl) (by kernel_rfl)) (by kernel_rfl) (by kernel_rfl)
theorem funcs2 {W:World} {nm:String} {d:DataW Unit} {g t e f0 f1:Nat} {s0 s1:List UInt8} (h:funcsAt Tryd.prog W nm d) (hn:Tryd.prog.globalNamed nm=some g) (ht:(Tryd.prog.globals[g]?).map (·.type)=some t) (hu:Tryd.prog.underlying t=some (.array 2 e)) (hE:Tryd.prog.cellsOf e=1) (hA:Tryd.prog.cellsOf t=2)
  (hd:d.funcsOut=.agg [.held s0,.held s1]) (k0:∀ (a:Value) (p:List MemPlace) (fuel:Nat),DataW.trod (funcToken Tryd.prog) Tryd.prog W 0 (fun _=>true) true fuel e [a]=some (.held s0,p)→a=.func (.func f0) #[] #[])
  (k1:∀ (a:Value) (p:List MemPlace) (fuel:Nat),DataW.trod (funcToken Tryd.prog) Tryd.prog W 0 (fun _=>true) true fuel e [a]=some (.held s1,p)→a=.func (.func f1) #[] #[]) :
  g<W.heap.size∧∀ (j:Nat) (x:D),([.fn f0,.fn f1]:List D)[j]?=some x→∃ cv,W.cell? ⟨g,j,none⟩=some cv∧DRel (fun g=>g<W.heap.size) W x cv:=by
 obtain ⟨g',t',cs,fuel,p,hg,ht',hv,hd'⟩:=h
 obtain rfl:=Option.some.inj (hn.symm.trans hg)
 obtain rfl:=Option.some.inj (ht.symm.trans ht')
 obtain ⟨xs,m,_,hx,hl,hlen,hel⟩:=DataW.trod_array hu hd'
 rw [hA] at hl
 have hcell:∀ i,W.cell? ⟨g,i,none⟩=cs[i]?:=World.var?_cell hg hv
 obtain ⟨l⟩:=cs
 match l,hl with
 | [a,b],_=>
  match xs,hlen with
  | [x,y],_=>
   simp only [Prod.mk.injEq] at hx
   have hx1:=hx.1
   rw [hd] at hx1
   have h0:=hel 0 (by decide)
   have h1:=hel 1 (by decide)
   rw [hE] at h0 h1
   obtain ⟨x1,x2⟩:=x
   obtain ⟨y1,y2⟩:=y
   simp only [List.map_cons,List.map_nil] at hx1
   injection hx1 with hx1
   injection hx1 with e0 hx1
   injection hx1 with e1 _
   subst e0;subst e1
   obtain rfl:=k0 a _ _ (show DataW.trod _ _ _ _ _ _ _ _ [a]=_ from h0)
   obtain rfl:=k1 b _ _ (show DataW.trod _ _ _ _ _ _ _ _ [b]=_ from h1)
   have c0:=hcell 0
   have c1:=hcell 1
   refine ⟨(cell_lt c0).1,fun j x hj=>?_⟩
   match j with
   | 0=>simp at hj;subst hj;exact ⟨_,c0,.fn f0⟩
   | 1=>simp at hj;subst hj;exact ⟨_,c1,.fn f1⟩
   | j+2=>simp at hj
theorem of_laid {W:World} (h:laidMetH Tryd.prog laid1 W):GlOk Gs W:=by
 have f2 := funcs2 (f0 := 91) (f1 := 95) (h.funcs (n := "skewbald/hair.parts") (List.mem_cons_self ..)) n2 t2 Tryd.underlying111 cell110 cell111 rfl
  (fun a p fuel ha=>func_of_trod (f0:=91) Tryd.underlying110 (by kernel_rfl) ha) (fun a p fuel ha=>func_of_trod (f0:=95) Tryd.underlying110 (by kernel_rfl) ha)
 have f0 := funcs2 (f0 := 93) (f1 := 94) (h.funcs (n := "skewbald/harness.overs") (List.mem_cons_of_mem _ (List.mem_cons_of_mem _ (List.mem_cons_self ..)))) n0 t0 Tryd.underlying103 cell102 cell103 rfl
  (fun a p fuel ha=>func_of_trod (f0:=93) Tryd.underlying102 (by kernel_rfl) ha) (fun a p fuel ha=>func_of_trod (f0:=94) Tryd.underlying102 (by kernel_rfl) ha)
 have f1:2<W.heap.size∧∀ (j:Nat) (x:D),([I (-1),I (-1)]:List D)[j]?=some x→∃ cv,W.cell? ⟨2,j,none⟩=some cv∧DRel (fun g=>g<W.heap.size) W x cv:=by
  obtain ⟨⟨ps, hL, _⟩, _⟩ : laidMet Tryd.prog [("skewbald/harness.nothing", Rows.laid_skewbald_harness_nothing)] W ∧ _ := h
  obtain ⟨g,t,cs,fuel,p,q,hg,ht,hv,hd,_⟩:=hL
  obtain rfl:=Option.some.inj (n1.symm.trans hg)
  obtain rfl:=Option.some.inj (t1.symm.trans ht)
  have hcell:∀ i,W.cell? ⟨2,i,none⟩=cs[i]?:=World.var?_cell hg hv
  obtain ⟨xs,n,_,hx,hl,hlen,hel⟩:=DataW.trod_struct Tryd.underlying124 hd
  rw [cell124] at hl
  obtain ⟨l⟩:=cs
  match l,hl with
  | [a,b],_=>
   match xs,hlen with
   | [x,y],_=>
    simp only [Prod.mk.injEq] at hx
    have hx1:DataW.agg [.lit (.int .i64 (-1)),.lit (.int .i64 (-1))]=DataW.agg [x.1,y.1]:=hx.1
    injection hx1 with hx1
    injection hx1 with e0 hx1
    injection hx1 with e1 _
    have h0:DataW.trod (fun _=>()) Tryd.prog W 0 (fun _=>true) false n 3 ((([a,b]:List Value).drop 0).take (Tryd.prog.cellsOf 3))=some x:=hel 0 _ rfl
    have h1:DataW.trod (fun _=>()) Tryd.prog W 0 (fun _=>true) false n 3 ((([a,b]:List Value).drop 1).take (Tryd.prog.cellsOf 3))=some y:=hel 1 _ rfl
    rw [cell3] at h0 h1
    obtain ⟨m0,ha,hx0,_⟩:=DataW.trod_int Tryd.underlying3 (show DataW.trod _ _ _ _ _ _ _ _ [a]=some x from h0)
    obtain ⟨m1,hb,hy0,_⟩:=DataW.trod_int Tryd.underlying3 (show DataW.trod _ _ _ _ _ _ _ _ [b]=some y from h1)
    subst hx0 hy0
    injection e0 with e0
    injection e0 with _ e0
    injection e1 with e1
    injection e1 with _ e1
    subst e0;subst e1
    injection ha with ha _
    injection hb with hb _
    subst ha;subst hb
    have c0:=hcell 0
    have c1:=hcell 1
    refine ⟨(cell_lt c0).1,fun j x hj=>?_⟩
    match j with
    | 0=>simp at hj;subst hj;exact ⟨_,c0,.int .i64 (-1)⟩
    | 1=>simp at hj;subst hj;exact ⟨_,c1,.int .i64 (-1)⟩
    | j+2=>simp at hj
 intro g row hr
 rw [show Go.Abs.look Gs g=bif Nat.beq 0 g then some [.fn 93,.fn 94] else bif Nat.beq 1 g then some [.fn 91,.fn 95] else bif Nat.beq 2 g then some [I (-1),I (-1)] else none from rfl] at hr
 cases hb:Nat.beq 0 g with
 | true=>
  obtain rfl:=Nat.eq_of_beq_eq_true hb
  simp only [hb,cond_true,Option.some.injEq] at hr
  subst hr;exact f0
 | false=>
  simp only [hb,cond_false] at hr
  cases hb1:Nat.beq 1 g with
  | true=>
   obtain rfl:=Nat.eq_of_beq_eq_true hb1
   simp only [hb1,cond_true,Option.some.injEq] at hr
   subst hr;exact f2
  | false=>
   simp only [hb1,cond_false] at hr
   cases hb2:Nat.beq 2 g with
   | true=>
    obtain rfl:=Nat.eq_of_beq_eq_true hb2
    simp only [hb2,cond_true,Option.some.injEq] at hr
    subst hr;exact f1
   | false=>simp [hb2] at hr
end Go.Proofs.YthcpnbeikdhlkaaDoor
set_option maxRecDepth 100000
namespace Go.Proofs.YthcpnbeikdhlkaaDoor
open Go.ChangeShapes Go.WideShapes Go.ChangeAt Go.WideMaps Go.WideElems Go.RowKit Go.Abs Go.Proofs.Tt
def Wi (n:Int):Prop:=-9223372036854775808≤n∧n≤9223372036854775807
theorem wi_of {n:Int} (h:(Lit.int .i64 n).wf=true):Wi n:=by
 simp only [Lit.wf,Bool.and_eq_true,decide_eq_true_eq] at h
 exact ⟨h.1,h.2⟩
theorem fit_map {α:Type} {sp:List Sp} {e:α→List D} {p:α→Prop} (h:∀ row,fitL sp row→∃ a,row=e a∧p a):∀ (xs:List (List D)),(∀ row,row∈xs→fitL sp row)→∃ l:List α,xs=l.map e∧∀ a,a∈l→p a
 | [],_=>⟨[],rfl,fun a h=>by cases h⟩
 | x::xs,hx=>by
  obtain ⟨a,e1,h1⟩:=h x (hx x (by simp))
  obtain ⟨l,e2,h2⟩:=fit_map h xs (fun r hr=>hx r (by simp [hr]))
  refine ⟨a::l,by rw [e1,e2];rfl,fun b hb=>?_⟩
  rcases List.mem_cons.1 hb with rfl | hb
  ·exact h1
  ·exact h2 b hb
theorem fit_i {ss:List Sp} {l:List D} (h:fitL (.i .i64::ss) l):∃ n r,l=I n::r∧Wi n∧fitL ss r:=by
 rw [fitL] at h;obtain ⟨x,xs,rfl,hx,h⟩:=h
 rw [Sp.fit] at hx;obtain ⟨n,rfl,hn⟩:=hx
 exact ⟨n,xs,rfl,wi_of hn,h⟩
theorem fit_sl {es ss:List Sp} {l:List D} (h:fitL (.sl es::ss) l):∃ ys r,l=.sl es.length ys::r∧ys.length≤maxLen∧(∀ row,row∈ys→fitL es row)∧fitL ss r:=by
 rw [fitL] at h;obtain ⟨x,xs,rfl,hx,h⟩:=h
 rw [Sp.fit] at hx;obtain ⟨n,rfl,h1,h2⟩:=hx
 exact ⟨n,xs,rfl,h1,h2,h⟩
theorem fit_nil {l:List D} (h:fitL [] l):l=[]:=by rwa [fitL] at h
structure WBook (b:HarnessBook):Prop where
 hanks:b.Hair.Hanks.length≤maxLen
 horses:b.Hair.Horses.length≤maxLen
 needs:b.Needs.length≤maxLen
 stock:b.Stock.length≤maxLen
 pack:Wi b.Pack
 bad:Wi b.Bad
theorem sp29:spT Tryd.prog 8 29=some [.sl [.i .i64,.i .i64,.i .i64,.i .i64],.sl [.i .i64,.i .i64,.i .i64],.i .i64,.i .i64,.i .i64,.sl [.sl [.i .i64]],.sl [.i .i64,.i .i64],.i .i64,.i .i64]:=rfl
theorem fit_hank (row:List D) (h:fitL [.i .i64,.i .i64,.i .i64,.i .i64] row):∃ a,row=e41 a∧True:=by
 obtain ⟨a,_,rfl,ha,h⟩:=fit_i h
 obtain ⟨b,_,rfl,hb,h⟩:=fit_i h
 obtain ⟨c,_,rfl,hc,h⟩:=fit_i h
 obtain ⟨d,_,rfl,hd,h⟩:=fit_i h
 obtain rfl:=fit_nil h
 exact ⟨⟨⟨a,b⟩,⟨c,d⟩⟩,rfl,trivial⟩
theorem fit_horse (row:List D) (h:fitL [.i .i64,.i .i64,.i .i64] row):∃ a,row=e91 a∧True:=by
 obtain ⟨a,_,rfl,ha,h⟩:=fit_i h
 obtain ⟨b,_,rfl,hb,h⟩:=fit_i h
 obtain ⟨c,_,rfl,hc,h⟩:=fit_i h
 obtain rfl:=fit_nil h
 exact ⟨⟨a,b,c⟩,rfl,trivial⟩
theorem fit_span (row:List D) (h:fitL [.i .i64,.i .i64] row):∃ a,row=e38 a∧True:=by
 obtain ⟨a,_,rfl,ha,h⟩:=fit_i h
 obtain ⟨b,_,rfl,hb,h⟩:=fit_i h
 obtain rfl:=fit_nil h
 exact ⟨⟨a,b⟩,rfl,trivial⟩
theorem fit_int (row:List D) (h:fitL [.i .i64] row):∃ a,row=e3 a∧Wi a:=by
 obtain ⟨a,_,rfl,ha,h⟩:=fit_i h
 obtain rfl:=fit_nil h
 exact ⟨a,rfl,ha⟩
theorem fit_ints (row:List D) (h:fitL [.sl [.i .i64]] row):∃ a,row=e42 a∧True:=by
 obtain ⟨ys,_,rfl,hl,hy,h⟩:=fit_sl h
 obtain rfl:=fit_nil h
 obtain ⟨l,rfl,hp⟩:=fit_map fit_int _ hy
 exact ⟨l,rfl,trivial⟩
theorem arg29 {W:World} {H:Type} {enc:TypeId×Value→H} {r:Reach} {b0:Nat} {v:Value} {d:DataW H} {ps:List MemPlace} (hval:Value.okWide Tryd.prog W r b0 29 v) (hd:DataW.Trod enc Tryd.prog W 0 (fun _=>true) true 29 v d ps) :
  ∃ b:HarnessBook,WBook b∧ArgR W (.agg [.d (.sl 4 (List.map e41 b.Hair.Hanks)),.d (.sl 3 (List.map e91 b.Hair.Horses)),.d (I b.Hair.Dark),.d (I b.Hair.Near),.d (I b.Hair.Match),.d (.sl 1 (List.map e42 b.Needs)),.d (.sl 2 (List.map e38 b.Stock)),.d (I b.Pack),.d (I b.Bad)]) v:=by
 obtain ⟨xs,h,hr⟩:=arg_agg Tryd.underlying29 rfl 8 sp29 hval hd
 obtain ⟨a4,_,rfl,l4,w4,h⟩:=fit_sl h
 obtain ⟨a9,_,rfl,l9,w9,h⟩:=fit_sl h
 obtain ⟨a0,_,rfl,w0,h⟩:=fit_i h
 obtain ⟨a1,_,rfl,w1,h⟩:=fit_i h
 obtain ⟨a2,_,rfl,w2,h⟩:=fit_i h
 obtain ⟨a5,_,rfl,l5,w5,h⟩:=fit_sl h
 obtain ⟨a6,_,rfl,l6,w6,h⟩:=fit_sl h
 obtain ⟨a7,_,rfl,w7,h⟩:=fit_i h
 obtain ⟨a8,_,rfl,w8,h⟩:=fit_i h
 obtain rfl:=fit_nil h
 obtain ⟨hs,rfl,hp⟩:=fit_map fit_hank _ w4
 obtain ⟨os,rfl,ht⟩:=fit_map fit_horse _ w9
 obtain ⟨ns,rfl,hn⟩:=fit_map fit_ints _ w5
 obtain ⟨ss,rfl,hk⟩:=fit_map fit_span _ w6
 exact ⟨⟨⟨hs,os,a0,a1,a2⟩,ns,ss,a7,a8⟩,⟨by simpa using l4,by simpa using l9,by simpa using l5,by simpa using l6,w7,w8⟩,hr⟩
theorem arg3 {W:World} {H:Type} {enc:TypeId×Value→H} {r:Reach} {b0:Nat} {v:Value} {d:DataW H} {ps:List MemPlace} (hval:Value.okWide Tryd.prog W r b0 3 v) (hd:DataW.Trod enc Tryd.prog W 0 (fun _=>true) true 3 v d ps) :
  ∃ n:Int,Wi n∧ArgR W (.d (I n)) v:=by
 obtain ⟨n,hw,hr⟩:=arg_int Tryd.underlying3 hval hd
 exact ⟨n,wi_of hw,hr⟩
end Go.Proofs.YthcpnbeikdhlkaaDoor
