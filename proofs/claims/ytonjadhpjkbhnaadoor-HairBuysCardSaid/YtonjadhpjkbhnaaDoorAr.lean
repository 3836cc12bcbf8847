/- The listed variable and the arguments, opened. Conditions: none. -/
import Derived.Test.YtonjadhpjkbhnaaDoorTdb
import Derived.Test.YtonjadhpjkbhnaaDoorTie
import Derived.Test.YtonjadhpjkbhnaaDoorCards
import Derived.ProofKit
import Derived.LaidMore
import Derived.OpenShut
import Derived.Stop.Joined
import Derived.SevenTiedAt
set_option linter.unusedVariables false
set_option linter.unusedSimpArgs false
set_option maxRecDepth 100000
namespace Go.Proofs.YtonjadhpjkbhnaaDoor
open Go.ChangeShapes Go.WideShapes Go.ChangeAt Go.WideMaps Go.WideElems Go.RowKit Go.Abs Go.Proofs.Th
theorem own:ownKnob Tryd.prog.godebug=none:=by kernel_rfl
theorem laidOut:laidOutB Tryd.prog=true:=by kernel_rfl
theorem gKinds : Tryd.prog.globalNamed "skewbald/hair.parts" = some 0 := by kernel_rfl
theorem tKinds:(Tryd.prog.globals[0]?).map (·.type)=some 123:=by kernel_rfl
theorem cellsE:Tryd.prog.cellsOf 122=1:=by kernel_rfl
theorem cellsA:Tryd.prog.cellsOf 123=2:=by kernel_rfl
abbrev laid1 : List (String × DataW Unit) := [("skewbald/hair.parts", Rows.laid_skewbald_hair_parts)]
theorem door_met (os:Os) (args:Array Value):laidMetH Tryd.prog laid1 ((World.doorLaid Tryd.prog 600 os).forCall (fun _ _=>0) ⟨#[],args,[]⟩).memory:=
 laidMetH_of_parts3 (fuel:=8) (laidMet_of_run' 8 (by kernel_rfl) (by kernel_rfl)) (by kernel_rfl) (by kernel_rfl)
theorem of_laid {W:World} (h:laidMetH Tryd.prog laid1 W):GlOk Gs W:=by
 obtain ⟨g,t,cs,fuel,p,hg,ht,hv,hd⟩:=h.funcs (List.mem_singleton.2 rfl)
 obtain rfl:=Option.some.inj (gKinds.symm.trans hg)
 obtain rfl:=Option.some.inj (tKinds.symm.trans ht)
 obtain ⟨xs,m,_,hx,hl,hlen,hel⟩:=DataW.trod_array Tryd.underlying123 hd
 rw [cellsA] at hl
 have hcell:∀ i,W.cell? ⟨0,i,none⟩=cs[i]?:=World.var?_cell hg hv
 obtain ⟨l⟩:=cs
 match l,hl with
 | [a,b],_=>
  match xs,hlen with
  | [x,y],_=>
   simp only [Prod.mk.injEq] at hx
   have hx1:=hx.1
   have h0:=hel 0 (by decide)
   have h1:=hel 1 (by decide)
   rw [cellsE] at h0 h1
   have e0:x.1=.held [40,115,107,101,119,98,97,108,100,47,104,97,105,114,46,104,111,114,115,101,41,46,109,97,110,101]:=by
    have:DataW.agg [DataW.held _,DataW.held _]=DataW.agg [x.1,y.1]:=hx1
    injection this with this
    injection this with this _
    exact this.symm
   have e1:y.1=.held [40,115,107,101,119,98,97,108,100,47,104,97,105,114,46,104,111,114,115,101,41,46,116,97,105,108]:=by
    have:DataW.agg [DataW.held _,DataW.held _]=DataW.agg [x.1,y.1]:=hx1
    injection this with this
    injection this with _ this
    injection this with this _
    exact this.symm
   obtain ⟨x1,x2⟩:=x
   obtain ⟨y1,y2⟩:=y
   simp only at e0 e1
   subst e0;subst e1
   obtain rfl:=func_of_trod (f0:=133) Tryd.underlying122 (by kernel_rfl) (show DataW.trod _ _ _ _ _ _ _ _ [a]=_ from h0)
   obtain rfl:=func_of_trod (f0:=135) Tryd.underlying122 (by kernel_rfl) (show DataW.trod _ _ _ _ _ _ _ _ [b]=_ from h1)
   have c0:=hcell 0
   have c1:=hcell 1
   intro g row hr
   rw [show Go.Abs.look Gs g=bif Nat.beq 0 g then some [.fn 133,.fn 135] else none from rfl] at hr
   cases hb:Nat.beq 0 g with
   | false=>simp [hb] at hr
   | true=>
    obtain rfl:=Nat.eq_of_beq_eq_true hb
    simp only [hb,cond_true,Option.some.injEq] at hr
    subst hr
    refine ⟨(cell_lt c0).1,fun j x hj=>?_⟩
    match j with
    | 0=>simp at hj;subst hj;exact ⟨_,c0,.fn 133⟩
    | 1=>simp at hj;subst hj;exact ⟨_,c1,.fn 135⟩
    | j+2=>simp at hj
end Go.Proofs.YtonjadhpjkbhnaaDoor
set_option maxRecDepth 100000
namespace Go.Proofs.YtonjadhpjkbhnaaDoor
open Go.ChangeShapes Go.WideShapes Go.ChangeAt Go.WideMaps Go.WideElems Go.RowKit Go.Abs Go.Proofs.Th
def Wi (n:Int):Prop:=-9223372036854775808≤n∧n≤9223372036854775807
theorem wi_of {n:Int} (h:(Lit.int .i64 n).wf=true):Wi n:=by
 simp only [Lit.wf,Bool.and_eq_true,decide_eq_true_eq] at h
 exact ⟨h.1,h.2⟩
theorem fit_map {α:Type} {sp:List Sp} {e:α→List D} {p:α→Prop} (h:∀ row,fitL sp row→∃ a,row=e a∧p a):∀ (xs:List (List D)),(∀ row,row∈xs→fitL sp row)→∃ l:List α,xs=l.map e∧∀ a,a∈l→p a
 | [],_=>⟨[],rfl,fun a h=>by cases h⟩
 | x::xs,hx=>by
  obtain ⟨a,e1,h1⟩:=h x (hx x (by simp))
  obtain ⟨l,e2,h2⟩:=fit_map h xs (fun r hr=>hx r (by simp [hr]))
  refine ⟨a::l,by rw [e1,e2];rfl,fun b hb=>?_⟩
  rcases List.mem_cons.1 hb with rfl | hb
  ·exact h1
  ·exact h2 b hb
theorem fit_i {ss:List Sp} {l:List D} (h:fitL (.i .i64::ss) l):∃ n r,l=I n::r∧Wi n∧fitL ss r:=by
 rw [fitL] at h;obtain ⟨x,xs,rfl,hx,h⟩:=h
 rw [Sp.fit] at hx;obtain ⟨n,rfl,hn⟩:=hx
 exact ⟨n,xs,rfl,wi_of hn,h⟩
theorem fit_sl {es ss:List Sp} {l:List D} (h:fitL (.sl es::ss) l):∃ ys r,l=.sl es.length ys::r∧ys.length≤maxLen∧(∀ row,row∈ys→fitL es row)∧fitL ss r:=by
 rw [fitL] at h;obtain ⟨x,xs,rfl,hx,h⟩:=h
 rw [Sp.fit] at hx;obtain ⟨n,rfl,h1,h2⟩:=hx
 exact ⟨n,xs,rfl,h1,h2,h⟩
theorem fit_nil {l:List D} (h:fitL [] l):l=[]:=by rwa [fitL] at h
def WHank (x:HairHank):Prop:=Wi x.Weight.Low∧Wi x.Weight.High∧Wi x.Shade.Low∧Wi x.Shade.High
def WHorse (x:HairHorse):Prop:=Wi x.Mane∧Wi x.Tail∧Wi x.Shade
structure WBook (b:HairBook):Prop where
 Hanks:b.Hanks.length≤maxLen∧∀ x,x∈b.Hanks→WHank x
 Horses:b.Horses.length≤maxLen∧∀ x,x∈b.Horses→WHorse x
 Dark:Wi b.Dark
 Near:Wi b.Near
 Match:Wi b.Match
theorem sp25:spT Tryd.prog 8 25=some [.sl [.i .i64,.i .i64,.i .i64,.i .i64],.sl [.i .i64,.i .i64,.i .i64],.i .i64,.i .i64,.i .i64]:=rfl
theorem fit_hank (row:List D) (h:fitL [.i .i64,.i .i64,.i .i64,.i .i64] row):∃ a,row=e58 a∧WHank a:=by
 obtain ⟨a,_,rfl,ha,h⟩:=fit_i h
 obtain ⟨b,_,rfl,hb,h⟩:=fit_i h
 obtain ⟨c,_,rfl,hc,h⟩:=fit_i h
 obtain ⟨d,_,rfl,hd,h⟩:=fit_i h
 obtain rfl:=fit_nil h
 exact ⟨⟨⟨a,b⟩,⟨c,d⟩⟩,rfl,ha,hb,hc,hd⟩
theorem fit_horse (row:List D) (h:fitL [.i .i64,.i .i64,.i .i64] row):∃ a,row=e69 a∧WHorse a:=by
 obtain ⟨a,_,rfl,ha,h⟩:=fit_i h
 obtain ⟨b,_,rfl,hb,h⟩:=fit_i h
 obtain ⟨c,_,rfl,hc,h⟩:=fit_i h
 obtain rfl:=fit_nil h
 exact ⟨⟨a,b,c⟩,rfl,ha,hb,hc⟩
theorem arg25 {W:World} {H:Type} {enc:TypeId×Value→H} {r:Reach} {b0:Nat} {v:Value} {d:DataW H} {ps:List MemPlace} (hval:Value.okWide Tryd.prog W r b0 25 v) (hd:DataW.Trod enc Tryd.prog W 0 (fun _=>true) true 25 v d ps) :
  ∃ b:HairBook,WBook b∧ArgR W (.agg [.d (.sl 4 (List.map e58 b.Hanks)),.d (.sl 3 (List.map e69 b.Horses)),.d (I b.Dark),.d (I b.Near),.d (I b.Match)]) v:=by
 obtain ⟨xs,h,hr⟩:=arg_agg Tryd.underlying25 rfl 8 sp25 hval hd
 obtain ⟨a4,_,rfl,l4,w4,h⟩:=fit_sl h
 obtain ⟨a9,_,rfl,l9,w9,h⟩:=fit_sl h
 obtain ⟨a0,_,rfl,w0,h⟩:=fit_i h
 obtain ⟨a1,_,rfl,w1,h⟩:=fit_i h
 obtain ⟨a2,_,rfl,w2,h⟩:=fit_i h
 obtain rfl:=fit_nil h
 obtain ⟨hs,rfl,hp⟩:=fit_map fit_hank _ w4
 obtain ⟨os,rfl,ht⟩:=fit_map fit_horse _ w9
 exact ⟨⟨hs,os,a0,a1,a2⟩,⟨⟨by simpa using l4,hp⟩,⟨by simpa using l9,ht⟩,w0,w1,w2⟩,hr⟩
theorem arg3 {W:World} {H:Type} {enc:TypeId×Value→H} {r:Reach} {b0:Nat} {v:Value} {d:DataW H} {ps:List MemPlace} (hval:Value.okWide Tryd.prog W r b0 3 v) (hd:DataW.Trod enc Tryd.prog W 0 (fun _=>true) true 3 v d ps) :
  ∃ n:Int,Wi n∧ArgR W (.d (I n)) v:=by
 obtain ⟨n,hw,hr⟩:=arg_int Tryd.underlying3 hval hd
 exact ⟨n,wi_of hw,hr⟩
end Go.Proofs.YtonjadhpjkbhnaaDoor
