/- Told functions, and that the program does so, part 2. Conditions: none. -/
import Derived.Test.YtgdkhppmlfmacaaDoorTda
set_option linter.unusedVariables false
set_option linter.unusedSimpArgs false
namespace Go.Proofs.Tl
open Go Go.Abs Go.Proofs
def g122_16 {S_:Type} (rec_:(List Int)→(Nat→Int)→HairBook→(List (Hair_dye×Span))→HairBook→(List (Hair_dye×Span))→S_→Option (Bool×S_)) (plan:(List Int)) (cut:(Nat→Int)) (o0_HairBook:HairBook) (mf:List (Hair_dye×Span)) (m0_HairBook:HairBook) (mf_1:List (Hair_dye×Span)) (need:Int):Int→HairHank→S_→Option (Ctl (S_) (Bool×S_)):=fun v p2 s_2=>bindC ((ixN 5 v).bind fun j1=>(g118 p2.Weight).bind fun r0_2=>bif (decide (r0_2<(wr ((cut j1)+need)))) then (some (.brk (.next s_2))) else (bif (decide (((plan.length:Int).tmod 2)=1)) then ((ixL plan (wr ((plan.length:Int) - 1))).bind fun p3=>(g87 m0_HairBook mf_1 (wr ((plan.length:Int).tdiv 2)) p3 v).bind fun r0_3=>bif (!r0_3) then (some (.brk (.next s_2))) else (some (.next ()))) else (some (.next ()))):Option (Ctl (Unit) (Ctl (S_) (Bool×S_)))) fun _=>(ixN 5 v).bind fun j2=>(ixN 5 v).bind fun j3=>(slcL plan 0 (plan.length:Int)).bind fun l=>(appL 8 l [v]).bind fun l1=>(rec_ l1 (aset cut j3 (wr ((cut j2)+need))) o0_HairBook mf m0_HairBook mf_1 s_2).bind fun (r0_7_1,s_5_1)=>bif (!r0_7_1) then (some (.brk (false,s_5_1))) else (some (.next s_5_1))
def g122 {S_:Type} (c_:(List Int)→(Nat→Int)→S_→Option (S_×Bool)):Nat→(List Int)→(Nat→Int)→HairBook→(List (Hair_dye×Span))→HairBook→(List (Hair_dye×Span))→S_→Option (Bool×S_)
 | 0,_,_,_,_,_,_,_=>none
 | n_+1,plan,cut,o0_HairBook,mf,m0_HairBook,mf_1,s_=>bif (decide ((plan.length:Int)=(wr (2*(o0_HairBook.Horses.length:Int))))) then ((c_ plan cut s_).bind fun (s_1,go)=>some (go,s_1)) else (((ixN 2 ((plan.length:Int).tmod 2)).bind fun j=>match j with | 0=>(ixL o0_HairBook.Horses (wr ((plan.length:Int).tdiv 2))).bind fun p=>(g154 p).bind fun r0=>some r0 | 1=>(ixL o0_HairBook.Horses (wr ((plan.length:Int).tdiv 2))).bind fun p1=>(g161 p1).bind fun r0_1=>some r0_1 | _=>none).bind fun need=>bindC (eachC (g122_16 (g122 c_ n_) plan cut o0_HairBook mf m0_HairBook mf_1 need) o0_HairBook.Hanks 0 s_) fun s_2=>some (true,s_2))
theorem k122 {S_:Type} (fr_:S_→Fr) (c_:(List Int)→(Nat→Int)→S_→Option (S_×Bool)) (hc_:∀ (a0:(List Int)) (a1:(Nat→Int)) s s2 b,c_ a0 a1 s=some (s2,b)→YCall Tryd.prog Gs (fr_ s) [.d (.sl 1 (List.map e3 a0)),.agg [jI (a1 0),jI (a1 1),jI (a1 2),jI (a1 3),jI (a1 4)]] (.d (.bool b)) (fr_ s2)):∀ (n_:Nat) (plan:(List Int)) (cut:(Nat→Int)) (o0_HairBook:HairBook) (mf:List (Hair_dye×Span)) (m0_HairBook:HairBook) (mf_1:List (Hair_dye×Span)) (s_:S_) (r:Bool×S_) (h:g122 c_ n_ plan cut o0_HairBook mf m0_HairBook mf_1 s_=some r),SCall Tryd.prog Gs 122 [.d (.sl 1 (List.map e3 plan)),.agg [jI (cut 0),jI (cut 1),jI (cut 2),jI (cut 3),jI (cut 4)],.ptr 0 0,.ptr 1 0,.ptr 2 0,.ptr 3 0,.ptr 4 0] [(0,.var 119 (catV (cv61 o0_HairBook) [.fmp (List.map m124_33 mf)])),(1,.var 187 [.yld]),(2,.var 133 [.d (.fn 118)]),(3,.var 108 [.clo 87 [.agg [.d (.sl 4 (List.map e65 m0_HairBook.Hanks)),.d (.sl 3 (List.map e67 m0_HairBook.Horses)),jI m0_HairBook.Dark,jI m0_HairBook.Near,jI m0_HairBook.Match,.fmp (List.map m124_33 mf_1)]] []]),(4,.var 187 [.clo 122 [] [.ptr 0 0,.ptr 1 0,.ptr 2 0,.ptr 3 0,.ptr 4 0]])] 5 (fr_ s_) (match r with | (r0_7,s_5)=>.d (.bool r0_7)) (match r with | (r0_7,s_5)=>[(0,.var 119 (catV (cv61 o0_HairBook) [.fmp (List.map m124_33 mf)])),(1,.var 187 [.yld]),(2,.var 133 [.d (.fn 118)]),(3,.var 108 [.clo 87 [.agg [.d (.sl 4 (List.map e65 m0_HairBook.Hanks)),.d (.sl 3 (List.map e67 m0_HairBook.Horses)),jI m0_HairBook.Dark,jI m0_HairBook.Near,jI m0_HairBook.Match,.fmp (List.map m124_33 mf_1)]] []]),(4,.var 187 [.clo 122 [] [.ptr 0 0,.ptr 1 0,.ptr 2 0,.ptr 3 0,.ptr 4 0]])]) 5 (fr_ (match r with | (r0_7,s_5)=>s_5)):=by
 intro n_
 induction n_ with
 | zero=>intro plan cut o0_HairBook mf m0_HairBook mf_1 s_ r h;cases h
 | succ n_ ih=>
  intro plan cut o0_HairBook mf m0_HairBook mf_1 s_ r h
  rw [g122] at h
  refine SCall.mkK Tryd.func122 c122 rfl rfl (by kernel_rfl) (fun Q_0 hR_0 hN_0=>?_)
  refine Sa ⟨[(0,.d (.sl 1 (List.map e3 plan))),pR 2 0,pR 3 1,pR 4 2,pR 5 3,pR 6 4,pR 8 5],[(5,.var 128 [jI (cut 0),jI (cut 1),jI (cut 2),jI (cut 3),jI (cut 4)]),(0,.var 119 (catV (cv61 o0_HairBook) [.fmp (List.map m124_33 mf)])),(1,.var 187 [.yld]),(2,.var 133 [.d (.fn 118)]),(3,.var 108 [.clo 87 [.agg [.d (.sl 4 (List.map e65 m0_HairBook.Hanks)),.d (.sl 3 (List.map e67 m0_HairBook.Horses)),jI m0_HairBook.Dark,jI m0_HairBook.Near,jI m0_HairBook.Match,.fmp (List.map m124_33 mf_1)]] []]),(4,.var 187 [.clo 122 [] [.ptr 0 0,.ptr 1 0,.ptr 2 0,.ptr 3 0,.ptr 4 0]])],6,(fr_ s_),[],5⟩ ?_
  refine AW.scope ?_
  refine AW.srwK (fun Q_1 hQ_1=>?_)
  refine Au 1 ⟨[(0,.d (.sl 1 (List.map e3 plan))),pR 2 0,pR 3 1,pR 4 2,pR 5 3,pR 6 4,pR 8 5,(15,.d (.sl 1 (List.map e3 plan)))],[(5,.var 128 [jI (cut 0),jI (cut 1),jI (cut 2),jI (cut 3),jI (cut 4)]),(0,.var 119 (catV (cv61 o0_HairBook) [.fmp (List.map m124_33 mf)])),(1,.var 187 [.yld]),(2,.var 133 [.d (.fn 118)]),(3,.var 108 [.clo 87 [.agg [.d (.sl 4 (List.map e65 m0_HairBook.Hanks)),.d (.sl 3 (List.map e67 m0_HairBook.Horses)),jI m0_HairBook.Dark,jI m0_HairBook.Near,jI m0_HairBook.Match,.fmp (List.map m124_33 mf_1)]] []]),(4,.var 187 [.clo 122 [] [.ptr 0 0,.ptr 1 0,.ptr 2 0,.ptr 3 0,.ptr 4 0]])],6,(fr_ s_),[],5⟩ ?_
  refine rL rfl ?_
  refine Au 1 ⟨[(0,.d (.sl 1 (List.map e3 plan))),pR 2 0,pR 3 1,pR 4 2,pR 5 3,pR 6 4,pR 8 5,(10,jI (plan.length:Int))],[(5,.var 128 [jI (cut 0),jI (cut 1),jI (cut 2),jI (cut 3),jI (cut 4)]),(0,.var 119 (catV (cv61 o0_HairBook) [.fmp (List.map m124_33 mf)])),(1,.var 187 [.yld]),(2,.var 133 [.d (.fn 118)]),(3,.var 108 [.clo 87 [.agg [.d (.sl 4 (List.map e65 m0_HairBook.Hanks)),.d (.sl 3 (List.map e67 m0_HairBook.Horses)),jI m0_HairBook.Dark,jI m0_HairBook.Near,jI m0_HairBook.Match,.fmp (List.map m124_33 mf_1)]] []]),(4,.var 187 [.clo 122 [] [.ptr 0 0,.ptr 1 0,.ptr 2 0,.ptr 3 0,.ptr 4 0]])],6,(fr_ s_),[],5⟩ ?_
  refine RW.nil (hQ_1 _ ?_)
  refine AW.seqK fun K_2 hK_2=>AW.srwK fun Q_3 hQ_3=>?_
  refine Au 4 ⟨[(0,.d (.sl 1 (List.map e3 plan))),pR 2 0,pR 3 1,pR 4 2,pR 5 3,pR 6 4,pR 8 5,(10,jI (plan.length:Int)),(17,jI (plan.length:Int)),(20,.d (.sl 3 (List.map e67 o0_HairBook.Horses)))],[(5,.var 128 [jI (cut 0),jI (cut 1),jI (cut 2),jI (cut 3),jI (cut 4)]),(0,.var 119 (catV (cv61 o0_HairBook) [.fmp (List.map m124_33 mf)])),(1,.var 187 [.yld]),(2,.var 133 [.d (.fn 118)]),(3,.var 108 [.clo 87 [.agg [.d (.sl 4 (List.map e65 m0_HairBook.Hanks)),.d (.sl 3 (List.map e67 m0_HairBook.Horses)),jI m0_HairBook.Dark,jI m0_HairBook.Near,jI m0_HairBook.Match,.fmp (List.map m124_33 mf_1)]] []]),(4,.var 187 [.clo 122 [] [.ptr 0 0,.ptr 1 0,.ptr 2 0,.ptr 3 0,.ptr 4 0]])],6,(fr_ s_),[],5⟩ ?_
  refine rL rfl ?_
  refine Au 2 ⟨[(0,.d (.sl 1 (List.map e3 plan))),pR 2 0,pR 3 1,pR 4 2,pR 5 3,pR 6 4,pR 8 5,(10,jI (plan.length:Int)),(23,.d (.bool (decide ((plan.length:Int)=(wr (2*(o0_HairBook.Horses.length:Int)))))))],[(5,.var 128 [jI (cut 0),jI (cut 1),jI (cut 2),jI (cut 3),jI (cut 4)]),(0,.var 119 (catV (cv61 o0_HairBook) [.fmp (List.map m124_33 mf)])),(1,.var 187 [.yld]),(2,.var 133 [.d (.fn 118)]),(3,.var 108 [.clo 87 [.agg [.d (.sl 4 (List.map e65 m0_HairBook.Hanks)),.d (.sl 3 (List.map e67 m0_HairBook.Horses)),jI m0_HairBook.Dark,jI m0_HairBook.Near,jI m0_HairBook.Match,.fmp (List.map m124_33 mf_1)]] []]),(4,.var 187 [.clo 122 [] [.ptr 0 0,.ptr 1 0,.ptr 2 0,.ptr 3 0,.ptr 4 0]])],6,(fr_ s_),[],5⟩ ?_
  refine RW.nil (hQ_3 _ ?_)
  refine AW.cond rfl (fun hb_4=>?_) (fun hb_4=>?_)
  ·have h:=ifT hb_4 h
   refine AW.srwK (fun Q_5 hQ_5=>?_)
   refine Au 3 ⟨[(24,.yld),(25,.d (.sl 1 (List.map e3 plan))),(26,.agg [jI (cut 0),jI (cut 1),jI (cut 2),jI (cut 3),jI (cut 4)])],[(0,.var 119 (catV (cv61 o0_HairBook) [.fmp (List.map m124_33 mf)])),(1,.var 187 [.yld]),(2,.var 133 [.d (.fn 118)]),(3,.var 108 [.clo 87 [.agg [.d (.sl 4 (List.map e65 m0_HairBook.Hanks)),.d (.sl 3 (List.map e67 m0_HairBook.Horses)),jI m0_HairBook.Dark,jI m0_HairBook.Near,jI m0_HairBook.Match,.fmp (List.map m124_33 mf_1)]] []]),(4,.var 187 [.clo 122 [] [.ptr 0 0,.ptr 1 0,.ptr 2 0,.ptr 3 0,.ptr 4 0]])],6,(fr_ s_),[],5⟩ ?_
   obtain ⟨⟨s_1,go⟩,hx_6,h⟩:=bsome h
   refine RW.one fokW (r_yield (zr:=[]) trivial rfl rfl (hc_ plan cut _ _ _ hx_6) trivial ⟨.refl _,.refl _,trivial⟩ rfl rfl rfl rfl (r_end ?_))
   refine Au 1 ⟨[(9,.d (.bool go))],[(0,.var 119 (catV (cv61 o0_HairBook) [.fmp (List.map m124_33 mf)])),(1,.var 187 [.yld]),(2,.var 133 [.d (.fn 118)]),(3,.var 108 [.clo 87 [.agg [.d (.sl 4 (List.map e65 m0_HairBook.Hanks)),.d (.sl 3 (List.map e67 m0_HairBook.Horses)),jI m0_HairBook.Dark,jI m0_HairBook.Near,jI m0_HairBook.Match,.fmp (List.map m124_33 mf_1)]] []]),(4,.var 187 [.clo 122 [] [.ptr 0 0,.ptr 1 0,.ptr 2 0,.ptr 3 0,.ptr 4 0]])],6,(fr_ s_1),[],5⟩ ?_
   refine RW.nil (hQ_5 _ ?_)
   obtain rfl:=Option.some.inj h
   exact rT hR_0 (.cons (.tmp rfl) .nil)
  ·have h:=ifF hb_4 h
   refine AW.skip (hK_2 _ ?_)
   obtain ⟨need,hx_7,h⟩:=bsome h
   refine AW.jnSK (fun (need:Int)=>⟨[(0,.d (.sl 1 (List.map e3 plan))),pR 2 0,pR 4 2,pR 5 3,pR 6 4,pR 8 5,(10,jI (plan.length:Int)),(11,jI need)],[(5,.var 128 [jI (cut 0),jI (cut 1),jI (cut 2),jI (cut 3),jI (cut 4)]),(0,.var 119 (catV (cv61 o0_HairBook) [.fmp (List.map m124_33 mf)])),(1,.var 187 [.yld]),(2,.var 133 [.d (.fn 118)]),(3,.var 108 [.clo 87 [.agg [.d (.sl 4 (List.map e65 m0_HairBook.Hanks)),.d (.sl 3 (List.map e67 m0_HairBook.Horses)),jI m0_HairBook.Dark,jI m0_HairBook.Near,jI m0_HairBook.Match,.fmp (List.map m124_33 mf_1)]] []]),(4,.var 187 [.clo 122 [] [.ptr 0 0,.ptr 1 0,.ptr 2 0,.ptr 3 0,.ptr 4 0]])],6,(fr_ s_),[],5⟩) (c:=need) (fun K_7 hK_7=>?_) ?_
   ·have h:=hx_7
    refine AW.drw fokW ?_
    refine aX 2 ⟨[(0,.d (.sl 1 (List.map e3 plan))),pR 2 0,pR 4 2,pR 5 3,pR 6 4,pR 8 5,(10,jI (plan.length:Int)),(29,jI ((plan.length:Int).tmod 2))],[(5,.var 128 [jI (cut 0),jI (cut 1),jI (cut 2),jI (cut 3),jI (cut 4)]),(0,.var 119 (catV (cv61 o0_HairBook) [.fmp (List.map m124_33 mf)])),(1,.var 187 [.yld]),(2,.var 133 [.d (.fn 118)]),(3,.var 108 [.clo 87 [.agg [.d (.sl 4 (List.map e65 m0_HairBook.Hanks)),.d (.sl 3 (List.map e67 m0_HairBook.Horses)),jI m0_HairBook.Dark,jI m0_HairBook.Near,jI m0_HairBook.Match,.fmp (List.map m124_33 mf_1)]] []]),(4,.var 187 [.clo 122 [] [.ptr 0 0,.ptr 1 0,.ptr 2 0,.ptr 3 0,.ptr 4 0]])],6,(fr_ s_),[],5⟩ ?_
    obtain ⟨j,hv_9,h⟩:=bsome h
    rcases j with _ | _ | j
    ·refine r_iaF trivial rfl rfl (ixN_ok hv_9).1 (ixN_ok hv_9).2.1 ?_
     refine r_loadF trivial rfl (u:=.fn 154) (by rw [(ixN_ok hv_9).2.2];rfl) ?_
     refine aX 5 ⟨[(0,.d (.sl 1 (List.map e3 plan))),pR 2 0,pR 4 2,pR 5 3,pR 6 4,pR 8 5,(10,jI (plan.length:Int)),(31,.d (.fn 154)),(34,.d (.sl 3 (List.map e67 o0_HairBook.Horses))),(36,jI (wr ((plan.length:Int).tdiv 2)))],[(5,.var 128 [jI (cut 0),jI (cut 1),jI (cut 2),jI (cut 3),jI (cut 4)]),(0,.var 119 (catV (cv61 o0_HairBook) [.fmp (List.map m124_33 mf)])),(1,.var 187 [.yld]),(2,.var 133 [.d (.fn 118)]),(3,.var 108 [.clo 87 [.agg [.d (.sl 4 (List.map e65 m0_HairBook.Hanks)),.d (.sl 3 (List.map e67 m0_HairBook.Horses)),jI m0_HairBook.Dark,jI m0_HairBook.Near,jI m0_HairBook.Match,.fmp (List.map m124_33 mf_1)]] []]),(4,.var 187 [.clo 122 [] [.ptr 0 0,.ptr 1 0,.ptr 2 0,.ptr 3 0,.ptr 4 0]])],6,(fr_ s_),[],5⟩ ?_
     obtain ⟨p,hv_10,h⟩:=bsome h
     refine r_iaD trivial rfl rfl (ixL_ok hv_10).1 (row:=e67 p) (mapget (ixL_ok hv_10).2) ?_
     refine aX 1 ⟨[(0,.d (.sl 1 (List.map e3 plan))),pR 2 0,pR 4 2,pR 5 3,pR 6 4,pR 8 5,(10,jI (plan.length:Int)),(31,.d (.fn 154)),(38,.agg [jI p.Mane,jI p.Tail,jI p.Shade])],[(5,.var 128 [jI (cut 0),jI (cut 1),jI (cut 2),jI (cut 3),jI (cut 4)]),(0,.var 119 (catV (cv61 o0_HairBook) [.fmp (List.map m124_33 mf)])),(1,.var 187 [.yld]),(2,.var 133 [.d (.fn 118)]),(3,.var 108 [.clo 87 [.agg [.d (.sl 4 (List.map e65 m0_HairBook.Hanks)),.d (.sl 3 (List.map e67 m0_HairBook.Horses)),jI m0_HairBook.Dark,jI m0_HairBook.Near,jI m0_HairBook.Match,.fmp (List.map m124_33 mf_1)]] []]),(4,.var 187 [.clo 122 [] [.ptr 0 0,.ptr 1 0,.ptr 2 0,.ptr 3 0,.ptr 4 0]])],6,(fr_ s_),[],5⟩ ?_
     obtain ⟨r0,hx_11,h⟩:=bsome h
     refine r_callvZ (zr:=[]) trivial rfl (.fn _) (by kernel_rfl) rfl (k154 p _ hx_11) trivial ⟨.refl _,trivial⟩ rfl rfl rfl rfl ?_
     refine aX 1 ⟨[(0,.d (.sl 1 (List.map e3 plan))),pR 2 0,pR 4 2,pR 5 3,pR 6 4,pR 8 5,(10,jI (plan.length:Int)),(11,jI r0)],[(5,.var 128 [jI (cut 0),jI (cut 1),jI (cut 2),jI (cut 3),jI (cut 4)]),(0,.var 119 (catV (cv61 o0_HairBook) [.fmp (List.map m124_33 mf)])),(1,.var 187 [.yld]),(2,.var 133 [.d (.fn 118)]),(3,.var 108 [.clo 87 [.agg [.d (.sl 4 (List.map e65 m0_HairBook.Hanks)),.d (.sl 3 (List.map e67 m0_HairBook.Horses)),jI m0_HairBook.Dark,jI m0_HairBook.Near,jI m0_HairBook.Match,.fmp (List.map m124_33 mf_1)]] []]),(4,.var 187 [.clo 122 [] [.ptr 0 0,.ptr 1 0,.ptr 2 0,.ptr 3 0,.ptr 4 0]])],6,(fr_ s_),[],5⟩ ?_
     refine Fi ⟨[(0,.d (.sl 1 (List.map e3 plan))),pR 2 0,pR 4 2,pR 5 3,pR 6 4,pR 8 5,(10,jI (plan.length:Int)),(11,jI r0)],[(5,.var 128 [jI (cut 0),jI (cut 1),jI (cut 2),jI (cut 3),jI (cut 4)]),(0,.var 119 (catV (cv61 o0_HairBook) [.fmp (List.map m124_33 mf)])),(1,.var 187 [.yld]),(2,.var 133 [.d (.fn 118)]),(3,.var 108 [.clo 87 [.agg [.d (.sl 4 (List.map e65 m0_HairBook.Hanks)),.d (.sl 3 (List.map e67 m0_HairBook.Horses)),jI m0_HairBook.Dark,jI m0_HairBook.Near,jI m0_HairBook.Match,.fmp (List.map m124_33 mf_1)]] []]),(4,.var 187 [.clo 122 [] [.ptr 0 0,.ptr 1 0,.ptr 2 0,.ptr 3 0,.ptr 4 0]])],6,(fr_ s_),[],5⟩ ?_
     obtain rfl:=Option.some.inj h
     exact hK_7 _ (Can.kp (by kernel_rfl))
    ·refine r_iaF trivial rfl rfl (ixN_ok hv_9).1 (ixN_ok hv_9).2.1 ?_
     refine r_loadF trivial rfl (u:=.fn 161) (by rw [(ixN_ok hv_9).2.2];rfl) ?_
     refine aX 5 ⟨[(0,.d (.sl 1 (List.map e3 plan))),pR 2 0,pR 4 2,pR 5 3,pR 6 4,pR 8 5,(10,jI (plan.length:Int)),(31,.d (.fn 161)),(34,.d (.sl 3 (List.map e67 o0_HairBook.Horses))),(36,jI (wr ((plan.length:Int).tdiv 2)))],[(5,.var 128 [jI (cut 0),jI (cut 1),jI (cut 2),jI (cut 3),jI (cut 4)]),(0,.var 119 (catV (cv61 o0_HairBook) [.fmp (List.map m124_33 mf)])),(1,.var 187 [.yld]),(2,.var 133 [.d (.fn 118)]),(3,.var 108 [.clo 87 [.agg [.d (.sl 4 (List.map e65 m0_HairBook.Hanks)),.d (.sl 3 (List.map e67 m0_HairBook.Horses)),jI m0_HairBook.Dark,jI m0_HairBook.Near,jI m0_HairBook.Match,.fmp (List.map m124_33 mf_1)]] []]),(4,.var 187 [.clo 122 [] [.ptr 0 0,.ptr 1 0,.ptr 2 0,.ptr 3 0,.ptr 4 0]])],6,(fr_ s_),[],5⟩ ?_
     obtain ⟨p1,hv_12,h⟩:=bsome h
     refine r_iaD trivial rfl rfl (ixL_ok hv_12).1 (row:=e67 p1) (mapget (ixL_ok hv_12).2) ?_
     refine aX 1 ⟨[(0,.d (.sl 1 (List.map e3 plan))),pR 2 0,pR 4 2,pR 5 3,pR 6 4,pR 8 5,(10,jI (plan.length:Int)),(31,.d (.fn 161)),(38,.agg [jI p1.Mane,jI p1.Tail,jI p1.Shade])],[(5,.var 128 [jI (cut 0),jI (cut 1),jI (cut 2),jI (cut 3),jI (cut 4)]),(0,.var 119 (catV (cv61 o0_HairBook) [.fmp (List.map m124_33 mf)])),(1,.var 187 [.yld]),(2,.var 133 [.d (.fn 118)]),(3,.var 108 [.clo 87 [.agg [.d (.sl 4 (List.map e65 m0_HairBook.Hanks)),.d (.sl 3 (List.map e67 m0_HairBook.Horses)),jI m0_HairBook.Dark,jI m0_HairBook.Near,jI m0_HairBook.Match,.fmp (List.map m124_33 mf_1)]] []]),(4,.var 187 [.clo 122 [] [.ptr 0 0,.ptr 1 0,.ptr 2 0,.ptr 3 0,.ptr 4 0]])],6,(fr_ s_),[],5⟩ ?_
     obtain ⟨r0_1,hx_13,h⟩:=bsome h
     refine r_callvZ (zr:=[]) trivial rfl (.fn _) (by kernel_rfl) rfl (k161 p1 _ hx_13) trivial ⟨.refl _,trivial⟩ rfl rfl rfl rfl ?_
     refine aX 1 ⟨[(0,.d (.sl 1 (List.map e3 plan))),pR 2 0,pR 4 2,pR 5 3,pR 6 4,pR 8 5,(10,jI (plan.length:Int)),(11,jI r0_1)],[(5,.var 128 [jI (cut 0),jI (cut 1),jI (cut 2),jI (cut 3),jI (cut 4)]),(0,.var 119 (catV (cv61 o0_HairBook) [.fmp (List.map m124_33 mf)])),(1,.var 187 [.yld]),(2,.var 133 [.d (.fn 118)]),(3,.var 108 [.clo 87 [.agg [.d (.sl 4 (List.map e65 m0_HairBook.Hanks)),.d (.sl 3 (List.map e67 m0_HairBook.Horses)),jI m0_HairBook.Dark,jI m0_HairBook.Near,jI m0_HairBook.Match,.fmp (List.map m124_33 mf_1)]] []]),(4,.var 187 [.clo 122 [] [.ptr 0 0,.ptr 1 0,.ptr 2 0,.ptr 3 0,.ptr 4 0]])],6,(fr_ s_),[],5⟩ ?_
     refine Fi ⟨[(0,.d (.sl 1 (List.map e3 plan))),pR 2 0,pR 4 2,pR 5 3,pR 6 4,pR 8 5,(10,jI (plan.length:Int)),(11,jI r0_1)],[(5,.var 128 [jI (cut 0),jI (cut 1),jI (cut 2),jI (cut 3),jI (cut 4)]),(0,.var 119 (catV (cv61 o0_HairBook) [.fmp (List.map m124_33 mf)])),(1,.var 187 [.yld]),(2,.var 133 [.d (.fn 118)]),(3,.var 108 [.clo 87 [.agg [.d (.sl 4 (List.map e65 m0_HairBook.Hanks)),.d (.sl 3 (List.map e67 m0_HairBook.Horses)),jI m0_HairBook.Dark,jI m0_HairBook.Near,jI m0_HairBook.Match,.fmp (List.map m124_33 mf_1)]] []]),(4,.var 187 [.clo 122 [] [.ptr 0 0,.ptr 1 0,.ptr 2 0,.ptr 3 0,.ptr 4 0]])],6,(fr_ s_),[],5⟩ ?_
     obtain rfl:=Option.some.inj h
     exact hK_7 _ (Can.kp (by kernel_rfl))
    ·cases h
   ·refine AW.seq (AW.skip ?_)
    refine AW.seqK fun K_14 hK_14=>AW.srwK fun Q_15 hQ_15=>?_
    refine Au 3 ⟨[(0,.d (.sl 1 (List.map e3 plan))),pR 4 2,pR 5 3,pR 6 4,pR 8 5,(10,jI (plan.length:Int)),(11,jI need),(42,.d (.sl 4 (List.map e65 o0_HairBook.Hanks)))],[(5,.var 128 [jI (cut 0),jI (cut 1),jI (cut 2),jI (cut 3),jI (cut 4)]),(0,.var 119 (catV (cv61 o0_HairBook) [.fmp (List.map m124_33 mf)])),(1,.var 187 [.yld]),(2,.var 133 [.d (.fn 118)]),(3,.var 108 [.clo 87 [.agg [.d (.sl 4 (List.map e65 m0_HairBook.Hanks)),.d (.sl 3 (List.map e67 m0_HairBook.Horses)),jI m0_HairBook.Dark,jI m0_HairBook.Near,jI m0_HairBook.Match,.fmp (List.map m124_33 mf_1)]] []]),(4,.var 187 [.clo 122 [] [.ptr 0 0,.ptr 1 0,.ptr 2 0,.ptr 3 0,.ptr 4 0]])],6,(fr_ s_),[],5⟩ ?_
    refine rL rfl ?_
    refine Au 1 ⟨[(0,.d (.sl 1 (List.map e3 plan))),pR 4 2,pR 5 3,pR 6 4,pR 8 5,(10,jI (plan.length:Int)),(11,jI need),(42,.d (.sl 4 (List.map e65 o0_HairBook.Hanks))),(43,jI (o0_HairBook.Hanks.length:Int)),(44,jI 0)],[(5,.var 128 [jI (cut 0),jI (cut 1),jI (cut 2),jI (cut 3),jI (cut 4)]),(0,.var 119 (catV (cv61 o0_HairBook) [.fmp (List.map m124_33 mf)])),(1,.var 187 [.yld]),(2,.var 133 [.d (.fn 118)]),(3,.var 108 [.clo 87 [.agg [.d (.sl 4 (List.map e65 m0_HairBook.Hanks)),.d (.sl 3 (List.map e67 m0_HairBook.Horses)),jI m0_HairBook.Dark,jI m0_HairBook.Near,jI m0_HairBook.Match,.fmp (List.map m124_33 mf_1)]] []]),(4,.var 187 [.clo 122 [] [.ptr 0 0,.ptr 1 0,.ptr 2 0,.ptr 3 0,.ptr 4 0]])],6,(fr_ s_),[],5⟩ ?_
    refine RW.nil (hQ_15 _ ?_)
    refine AW.block ?_
    refine AW.sln (t:=42) rfl (fun hN_16=>?_)
    rw [List.length_map] at hN_16
    obtain ⟨out_16,hx_16,hk_16⟩:=bsomeC h
    refine AW.evCK (fun (v:Int) (s_2:S_)=>⟨[(0,.d (.sl 1 (List.map e3 plan))),pR 4 2,pR 5 3,pR 6 4,pR 8 5,(10,jI (plan.length:Int)),(11,jI need),(42,.d (.sl 4 (List.map e65 o0_HairBook.Hanks))),(43,jI (o0_HairBook.Hanks.length:Int)),(44,jI v)],[(5,.var 128 [jI (cut 0),jI (cut 1),jI (cut 2),jI (cut 3),jI (cut 4)]),(0,.var 119 (catV (cv61 o0_HairBook) [.fmp (List.map m124_33 mf)])),(1,.var 187 [.yld]),(2,.var 133 [.d (.fn 118)]),(3,.var 108 [.clo 87 [.agg [.d (.sl 4 (List.map e65 m0_HairBook.Hanks)),.d (.sl 3 (List.map e67 m0_HairBook.Horses)),jI m0_HairBook.Dark,jI m0_HairBook.Near,jI m0_HairBook.Match,.fmp (List.map m124_33 mf_1)]] []]),(4,.var 187 [.clo 122 [] [.ptr 0 0,.ptr 1 0,.ptr 2 0,.ptr 3 0,.ptr 4 0]])],6,(fr_ s_2),[],5⟩) (g122_16 (g122 c_ n_) plan cut o0_HairBook mf m0_HairBook mf_1 need) hx_16 (Can.kp (by kernel_rfl)) (fun v p2 s_2 hi_16 hl_16 hp_16 c_16 h hb_16 K_16 hK_16=>?_) (fun v s_2 hi_16 hl_16 hout=>?_)
    ·unfold g122_16 at h
     refine Sa ⟨[(0,.d (.sl 1 (List.map e3 plan))),pR 4 2,pR 5 3,pR 6 4,pR 8 5,(10,jI (plan.length:Int)),(11,jI need),(42,.d (.sl 4 (List.map e65 o0_HairBook.Hanks))),(43,jI (o0_HairBook.Hanks.length:Int)),(44,jI v),(45,.d (.bool (decide (v<(o0_HairBook.Hanks.length:Int)))))],[(5,.var 128 [jI (cut 0),jI (cut 1),jI (cut 2),jI (cut 3),jI (cut 4)]),(0,.var 119 (catV (cv61 o0_HairBook) [.fmp (List.map m124_33 mf)])),(1,.var 187 [.yld]),(2,.var 133 [.d (.fn 118)]),(3,.var 108 [.clo 87 [.agg [.d (.sl 4 (List.map e65 m0_HairBook.Hanks)),.d (.sl 3 (List.map e67 m0_HairBook.Horses)),jI m0_HairBook.Dark,jI m0_HairBook.Near,jI m0_HairBook.Match,.fmp (List.map m124_33 mf_1)]] []]),(4,.var 187 [.clo 122 [] [.ptr 0 0,.ptr 1 0,.ptr 2 0,.ptr 3 0,.ptr 4 0]])],6,(fr_ s_2),[],5⟩ ?_
     refine AW.seqK (fun K_17 hK_17=>?_)
     refine AW.cond rfl (fun hb_18=>?_) (fun hb_18=>False.elim (by have:=of_decide_eq_false hb_18;omega))
     refine AW.skip (hK_17 _ ?_)
     refine AW.seqK (fun K_19 hK_19=>?_)
     refine AW.block ?_
     refine AW.srwK (fun Q_20 hQ_20=>?_)
     refine Au 1 ⟨[(0,.d (.sl 1 (List.map e3 plan))),pR 4 2,pR 5 3,pR 6 4,pR 8 5,(10,jI (plan.length:Int)),(11,jI need),(42,.d (.sl 4 (List.map e65 o0_HairBook.Hanks))),(43,jI (o0_HairBook.Hanks.length:Int)),(44,jI v),(46,jI v)],[(5,.var 128 [jI (cut 0),jI (cut 1),jI (cut 2),jI (cut 3),jI (cut 4)]),(0,.var 119 (catV (cv61 o0_HairBook) [.fmp (List.map m124_33 mf)])),(1,.var 187 [.yld]),(2,.var 133 [.d (.fn 118)]),(3,.var 108 [.clo 87 [.agg [.d (.sl 4 (List.map e65 m0_HairBook.Hanks)),.d (.sl 3 (List.map e67 m0_HairBook.Horses)),jI m0_HairBook.Dark,jI m0_HairBook.Near,jI m0_HairBook.Match,.fmp (List.map m124_33 mf_1)]] []]),(4,.var 187 [.clo 122 [] [.ptr 0 0,.ptr 1 0,.ptr 2 0,.ptr 3 0,.ptr 4 0]])],6,(fr_ s_2),[],5⟩ ?_
     refine RW.one fokW (r_iaD trivial rfl rfl hi_16 (row:=e65 p2) (mapget hp_16) (r_end ?_))
     refine Au 4 ⟨[(0,.d (.sl 1 (List.map e3 plan))),pR 4 2,pR 5 3,pR 6 4,pR 8 5,(10,jI (plan.length:Int)),(11,jI need),(12,jI v),pR 13 6,(42,.d (.sl 4 (List.map e65 o0_HairBook.Hanks))),(43,jI (o0_HairBook.Hanks.length:Int)),(44,jI v)],[(6,.var 65 (cv65 p2)),(5,.var 128 [jI (cut 0),jI (cut 1),jI (cut 2),jI (cut 3),jI (cut 4)]),(0,.var 119 (catV (cv61 o0_HairBook) [.fmp (List.map m124_33 mf)])),(1,.var 187 [.yld]),(2,.var 133 [.d (.fn 118)]),(3,.var 108 [.clo 87 [.agg [.d (.sl 4 (List.map e65 m0_HairBook.Hanks)),.d (.sl 3 (List.map e67 m0_HairBook.Horses)),jI m0_HairBook.Dark,jI m0_HairBook.Near,jI m0_HairBook.Match,.fmp (List.map m124_33 mf_1)]] []]),(4,.var 187 [.clo 122 [] [.ptr 0 0,.ptr 1 0,.ptr 2 0,.ptr 3 0,.ptr 4 0]])],7,(fr_ s_2),[],5⟩ ?_
     refine RW.nil (hQ_20 _ ?_)
     obtain ⟨c_21,hx_21,hk_21⟩:=bsomeC h
     refine AW.jnK (fun (_:Unit)=>⟨[(0,.d (.sl 1 (List.map e3 plan))),pR 4 2,pR 5 3,pR 6 4,pR 8 5,(10,jI (plan.length:Int)),(11,jI need),(12,jI v),(42,.d (.sl 4 (List.map e65 o0_HairBook.Hanks))),(43,jI (o0_HairBook.Hanks.length:Int)),(44,jI v)],[(5,.var 128 [jI (cut 0),jI (cut 1),jI (cut 2),jI (cut 3),jI (cut 4)]),(0,.var 119 (catV (cv61 o0_HairBook) [.fmp (List.map m124_33 mf)])),(1,.var 187 [.yld]),(2,.var 133 [.d (.fn 118)]),(3,.var 108 [.clo 87 [.agg [.d (.sl 4 (List.map e65 m0_HairBook.Hanks)),.d (.sl 3 (List.map e67 m0_HairBook.Horses)),jI m0_HairBook.Dark,jI m0_HairBook.Near,jI m0_HairBook.Match,.fmp (List.map m124_33 mf_1)]] []]),(4,.var 187 [.clo 122 [] [.ptr 0 0,.ptr 1 0,.ptr 2 0,.ptr 3 0,.ptr 4 0]])],7,(fr_ s_2),[],5⟩) (c:=c_21) (fun K_21 hK_21=>?_) (fun j_21 hj_21=>?_)
     ·have h:=hx_21
      refine AW.sdrwK fokW (fun Q_22 hQ_22=>?_)
      refine aX 1 ⟨[(0,.d (.sl 1 (List.map e3 plan))),pR 4 2,pR 5 3,pR 6 4,pR 8 5,(10,jI (plan.length:Int)),(11,jI need),(12,jI v),pR 13 6,(42,.d (.sl 4 (List.map e65 o0_HairBook.Hanks))),(43,jI (o0_HairBook.Hanks.length:Int)),(44,jI v),(49,jI v)],[(6,.var 65 (cv65 p2)),(5,.var 128 [jI (cut 0),jI (cut 1),jI (cut 2),jI (cut 3),jI (cut 4)]),(0,.var 119 (catV (cv61 o0_HairBook) [.fmp (List.map m124_33 mf)])),(1,.var 187 [.yld]),(2,.var 133 [.d (.fn 118)]),(3,.var 108 [.clo 87 [.agg [.d (.sl 4 (List.map e65 m0_HairBook.Hanks)),.d (.sl 3 (List.map e67 m0_HairBook.Horses)),jI m0_HairBook.Dark,jI m0_HairBook.Near,jI m0_HairBook.Match,.fmp (List.map m124_33 mf_1)]] []]),(4,.var 187 [.clo 122 [] [.ptr 0 0,.ptr 1 0,.ptr 2 0,.ptr 3 0,.ptr 4 0]])],7,(fr_ s_2),[],5⟩ ?_
      obtain ⟨j1,hv_23,h⟩:=bsome h
      refine r_iaV trivial rfl rfl rfl (ixN_ok hv_23).1 (ixN_ok hv_23).2.1 ?_
      refine r_loadV trivial rfl rfl (u:=jI (cut j1)) (agt (f:=fun k=>jI (cut k)) hv_23) ?_
      refine aX 6 ⟨[(0,.d (.sl 1 (List.map e3 plan))),pR 4 2,pR 5 3,pR 6 4,pR 8 5,(10,jI (plan.length:Int)),(11,jI need),(12,jI v),(42,.d (.sl 4 (List.map e65 o0_HairBook.Hanks))),(43,jI (o0_HairBook.Hanks.length:Int)),(44,jI v),(53,jI (wr ((cut j1)+need))),(55,.d (.fn 118)),(57,.agg [jI p2.Weight.Low,jI p2.Weight.High])],[(6,.var 65 (cv65 p2)),(5,.var 128 [jI (cut 0),jI (cut 1),jI (cut 2),jI (cut 3),jI (cut 4)]),(0,.var 119 (catV (cv61 o0_HairBook) [.fmp (List.map m124_33 mf)])),(1,.var 187 [.yld]),(2,.var 133 [.d (.fn 118)]),(3,.var 108 [.clo 87 [.agg [.d (.sl 4 (List.map e65 m0_HairBook.Hanks)),.d (.sl 3 (List.map e67 m0_HairBook.Horses)),jI m0_HairBook.Dark,jI m0_HairBook.Near,jI m0_HairBook.Match,.fmp (List.map m124_33 mf_1)]] []]),(4,.var 187 [.clo 122 [] [.ptr 0 0,.ptr 1 0,.ptr 2 0,.ptr 3 0,.ptr 4 0]])],7,(fr_ s_2),[],5⟩ ?_
      obtain ⟨r0_2,hx_24,h⟩:=bsome h
      refine r_callvZ (zr:=[]) trivial rfl (.fn _) (by kernel_rfl) rfl (k118 p2.Weight _ hx_24) trivial ⟨.refl _,trivial⟩ rfl rfl rfl rfl ?_
      refine aX 2 ⟨[(0,.d (.sl 1 (List.map e3 plan))),pR 4 2,pR 5 3,pR 6 4,pR 8 5,(10,jI (plan.length:Int)),(11,jI need),(12,jI v),(42,.d (.sl 4 (List.map e65 o0_HairBook.Hanks))),(43,jI (o0_HairBook.Hanks.length:Int)),(44,jI v),(60,.d (.bool (decide (r0_2<(wr ((cut j1)+need))))))],[(6,.var 65 (cv65 p2)),(5,.var 128 [jI (cut 0),jI (cut 1),jI (cut 2),jI (cut 3),jI (cut 4)]),(0,.var 119 (catV (cv61 o0_HairBook) [.fmp (List.map m124_33 mf)])),(1,.var 187 [.yld]),(2,.var 133 [.d (.fn 118)]),(3,.var 108 [.clo 87 [.agg [.d (.sl 4 (List.map e65 m0_HairBook.Hanks)),.d (.sl 3 (List.map e67 m0_HairBook.Horses)),jI m0_HairBook.Dark,jI m0_HairBook.Near,jI m0_HairBook.Match,.fmp (List.map m124_33 mf_1)]] []]),(4,.var 187 [.clo 122 [] [.ptr 0 0,.ptr 1 0,.ptr 2 0,.ptr 3 0,.ptr 4 0]])],7,(fr_ s_2),[],5⟩ ?_
      refine r_split 60 rfl (fun hb_25=>?_) (fun hb_25=>?_)
      ·have h:=ifT hb_25 h
       refine aX 17 ⟨[(0,.d (.sl 1 (List.map e3 plan))),pR 4 2,pR 5 3,pR 6 4,pR 8 5,(10,jI (plan.length:Int)),(11,jI need),(12,jI v),(42,.d (.sl 4 (List.map e65 o0_HairBook.Hanks))),(43,jI (o0_HairBook.Hanks.length:Int)),(44,jI v),(77,.d (.bool true))],[(6,.var 65 (cv65 p2)),(5,.var 128 [jI (cut 0),jI (cut 1),jI (cut 2),jI (cut 3),jI (cut 4)]),(0,.var 119 (catV (cv61 o0_HairBook) [.fmp (List.map m124_33 mf)])),(1,.var 187 [.yld]),(2,.var 133 [.d (.fn 118)]),(3,.var 108 [.clo 87 [.agg [.d (.sl 4 (List.map e65 m0_HairBook.Hanks)),.d (.sl 3 (List.map e67 m0_HairBook.Horses)),jI m0_HairBook.Dark,jI m0_HairBook.Near,jI m0_HairBook.Match,.fmp (List.map m124_33 mf_1)]] []]),(4,.var 187 [.clo 122 [] [.ptr 0 0,.ptr 1 0,.ptr 2 0,.ptr 3 0,.ptr 4 0]])],7,(fr_ s_2),[],5⟩ ?_
       refine Fi ⟨[(0,.d (.sl 1 (List.map e3 plan))),pR 4 2,pR 5 3,pR 6 4,pR 8 5,(10,jI (plan.length:Int)),(11,jI need),(12,jI v),(42,.d (.sl 4 (List.map e65 o0_HairBook.Hanks))),(43,jI (o0_HairBook.Hanks.length:Int)),(44,jI v),(77,.d (.bool true))],[(5,.var 128 [jI (cut 0),jI (cut 1),jI (cut 2),jI (cut 3),jI (cut 4)]),(0,.var 119 (catV (cv61 o0_HairBook) [.fmp (List.map m124_33 mf)])),(1,.var 187 [.yld]),(2,.var 133 [.d (.fn 118)]),(3,.var 108 [.clo 87 [.agg [.d (.sl 4 (List.map e65 m0_HairBook.Hanks)),.d (.sl 3 (List.map e67 m0_HairBook.Horses)),jI m0_HairBook.Dark,jI m0_HairBook.Near,jI m0_HairBook.Match,.fmp (List.map m124_33 mf_1)]] []]),(4,.var 187 [.clo 122 [] [.ptr 0 0,.ptr 1 0,.ptr 2 0,.ptr 3 0,.ptr 4 0]])],7,(fr_ s_2),[],5⟩ ?_
       refine hQ_22 _ ?_
       refine AW.condT rfl ?_
       refine AW.exit ?_
       refine hK_19 _ ?_
       refine Ra ⟨[(0,.d (.sl 1 (List.map e3 plan))),pR 4 2,pR 5 3,pR 6 4,pR 8 5,(10,jI (plan.length:Int)),(11,jI need),(42,.d (.sl 4 (List.map e65 o0_HairBook.Hanks))),(43,jI (o0_HairBook.Hanks.length:Int)),(44,jI (wr (v+1)))],[(5,.var 128 [jI (cut 0),jI (cut 1),jI (cut 2),jI (cut 3),jI (cut 4)]),(0,.var 119 (catV (cv61 o0_HairBook) [.fmp (List.map m124_33 mf)])),(1,.var 187 [.yld]),(2,.var 133 [.d (.fn 118)]),(3,.var 108 [.clo 87 [.agg [.d (.sl 4 (List.map e65 m0_HairBook.Hanks)),.d (.sl 3 (List.map e67 m0_HairBook.Horses)),jI m0_HairBook.Dark,jI m0_HairBook.Near,jI m0_HairBook.Match,.fmp (List.map m124_33 mf_1)]] []]),(4,.var 187 [.clo 122 [] [.ptr 0 0,.ptr 1 0,.ptr 2 0,.ptr 3 0,.ptr 4 0]])],7,(fr_ s_2),[],5⟩ ?_
       obtain rfl:=Option.some.inj h
       obtain rfl:=Aft.bk hk_21
       have ew:wr (v+1)=v+1:=inext (N:=(o0_HairBook.Hanks.length:Int)) (by omega) (by omega) (by omega)
       rw [ew]
       exact hK_16 _ _ rfl (Can.kp (by kernel_rfl))
      ·have h:=ifF hb_25 h
       refine aX 4 ⟨[(0,.d (.sl 1 (List.map e3 plan))),pR 4 2,pR 5 3,pR 6 4,pR 8 5,(10,jI (plan.length:Int)),(11,jI need),(12,jI v),(42,.d (.sl 4 (List.map e65 o0_HairBook.Hanks))),(43,jI (o0_HairBook.Hanks.length:Int)),(44,jI v),(60,.d (.bool false)),(64,.d (.bool (decide (((plan.length:Int).tmod 2)=1))))],[(6,.var 65 (cv65 p2)),(5,.var 128 [jI (cut 0),jI (cut 1),jI (cut 2),jI (cut 3),jI (cut 4)]),(0,.var 119 (catV (cv61 o0_HairBook) [.fmp (List.map m124_33 mf)])),(1,.var 187 [.yld]),(2,.var 133 [.d (.fn 118)]),(3,.var 108 [.clo 87 [.agg [.d (.sl 4 (List.map e65 m0_HairBook.Hanks)),.d (.sl 3 (List.map e67 m0_HairBook.Horses)),jI m0_HairBook.Dark,jI m0_HairBook.Near,jI m0_HairBook.Match,.fmp (List.map m124_33 mf_1)]] []]),(4,.var 187 [.clo 122 [] [.ptr 0 0,.ptr 1 0,.ptr 2 0,.ptr 3 0,.ptr 4 0]])],7,(fr_ s_2),[],5⟩ ?_
       refine r_split 64 rfl (fun hb_26=>?_) (fun hb_26=>?_)
       ·have h:=ifT hb_26 h
        refine aX 6 ⟨[(0,.d (.sl 1 (List.map e3 plan))),pR 4 2,pR 5 3,pR 6 4,pR 8 5,(10,jI (plan.length:Int)),(11,jI need),(12,jI v),(42,.d (.sl 4 (List.map e65 o0_HairBook.Hanks))),(43,jI (o0_HairBook.Hanks.length:Int)),(44,jI v),(60,.d (.bool false)),(64,.d (.bool true)),(65,.clo 87 [.agg [.d (.sl 4 (List.map e65 m0_HairBook.Hanks)),.d (.sl 3 (List.map e67 m0_HairBook.Horses)),jI m0_HairBook.Dark,jI m0_HairBook.Near,jI m0_HairBook.Match,.fmp (List.map m124_33 mf_1)]] []),(67,jI (wr ((plan.length:Int).tdiv 2))),(68,.d (.sl 1 (List.map e3 plan))),(70,jI (wr ((plan.length:Int) - 1)))],[(6,.var 65 (cv65 p2)),(5,.var 128 [jI (cut 0),jI (cut 1),jI (cut 2),jI (cut 3),jI (cut 4)]),(0,.var 119 (catV (cv61 o0_HairBook) [.fmp (List.map m124_33 mf)])),(1,.var 187 [.yld]),(2,.var 133 [.d (.fn 118)]),(3,.var 108 [.clo 87 [.agg [.d (.sl 4 (List.map e65 m0_HairBook.Hanks)),.d (.sl 3 (List.map e67 m0_HairBook.Horses)),jI m0_HairBook.Dark,jI m0_HairBook.Near,jI m0_HairBook.Match,.fmp (List.map m124_33 mf_1)]] []]),(4,.var 187 [.clo 122 [] [.ptr 0 0,.ptr 1 0,.ptr 2 0,.ptr 3 0,.ptr 4 0]])],7,(fr_ s_2),[],5⟩ ?_
        obtain ⟨p3,hv_27,h⟩:=bsome h
        refine r_iaD rfl rfl rfl (ixL_ok hv_27).1 (row:=e3 p3) (mapget (ixL_ok hv_27).2) ?_
        refine aX 2 ⟨[(0,.d (.sl 1 (List.map e3 plan))),pR 4 2,pR 5 3,pR 6 4,pR 8 5,(10,jI (plan.length:Int)),(11,jI need),(12,jI v),(42,.d (.sl 4 (List.map e65 o0_HairBook.Hanks))),(43,jI (o0_HairBook.Hanks.length:Int)),(44,jI v),(60,.d (.bool false)),(64,.d (.bool true)),(65,.clo 87 [.agg [.d (.sl 4 (List.map e65 m0_HairBook.Hanks)),.d (.sl 3 (List.map e67 m0_HairBook.Horses)),jI m0_HairBook.Dark,jI m0_HairBook.Near,jI m0_HairBook.Match,.fmp (List.map m124_33 mf_1)]] []),(67,jI (wr ((plan.length:Int).tdiv 2))),(72,jI p3),(73,jI v)],[(6,.var 65 (cv65 p2)),(5,.var 128 [jI (cut 0),jI (cut 1),jI (cut 2),jI (cut 3),jI (cut 4)]),(0,.var 119 (catV (cv61 o0_HairBook) [.fmp (List.map m124_33 mf)])),(1,.var 187 [.yld]),(2,.var 133 [.d (.fn 118)]),(3,.var 108 [.clo 87 [.agg [.d (.sl 4 (List.map e65 m0_HairBook.Hanks)),.d (.sl 3 (List.map e67 m0_HairBook.Horses)),jI m0_HairBook.Dark,jI m0_HairBook.Near,jI m0_HairBook.Match,.fmp (List.map m124_33 mf_1)]] []]),(4,.var 187 [.clo 122 [] [.ptr 0 0,.ptr 1 0,.ptr 2 0,.ptr 3 0,.ptr 4 0]])],7,(fr_ s_2),[],5⟩ ?_
        obtain ⟨r0_3,hx_28,h⟩:=bsome h
        refine r_callvZ (zr:=[]) rfl rfl (.clo _ _ _) (by kernel_rfl) rfl (k87 m0_HairBook mf_1 (wr ((plan.length:Int).tdiv 2)) p3 v _ hx_28) trivial ⟨.refl _,.refl _,.refl _,.refl _,trivial⟩ rfl rfl rfl rfl ?_
        refine aX 3 ⟨[(0,.d (.sl 1 (List.map e3 plan))),pR 4 2,pR 5 3,pR 6 4,pR 8 5,(10,jI (plan.length:Int)),(11,jI need),(12,jI v),(42,.d (.sl 4 (List.map e65 o0_HairBook.Hanks))),(43,jI (o0_HairBook.Hanks.length:Int)),(44,jI v),(77,.d (.bool (!r0_3)))],[(6,.var 65 (cv65 p2)),(5,.var 128 [jI (cut 0),jI (cut 1),jI (cut 2),jI (cut 3),jI (cut 4)]),(0,.var 119 (catV (cv61 o0_HairBook) [.fmp (List.map m124_33 mf)])),(1,.var 187 [.yld]),(2,.var 133 [.d (.fn 118)]),(3,.var 108 [.clo 87 [.agg [.d (.sl 4 (List.map e65 m0_HairBook.Hanks)),.d (.sl 3 (List.map e67 m0_HairBook.Horses)),jI m0_HairBook.Dark,jI m0_HairBook.Near,jI m0_HairBook.Match,.fmp (List.map m124_33 mf_1)]] []]),(4,.var 187 [.clo 122 [] [.ptr 0 0,.ptr 1 0,.ptr 2 0,.ptr 3 0,.ptr 4 0]])],7,(fr_ s_2),[],5⟩ ?_
        refine Fi ⟨[(0,.d (.sl 1 (List.map e3 plan))),pR 4 2,pR 5 3,pR 6 4,pR 8 5,(10,jI (plan.length:Int)),(11,jI need),(12,jI v),(42,.d (.sl 4 (List.map e65 o0_HairBook.Hanks))),(43,jI (o0_HairBook.Hanks.length:Int)),(44,jI v),(77,.d (.bool (!r0_3)))],[(5,.var 128 [jI (cut 0),jI (cut 1),jI (cut 2),jI (cut 3),jI (cut 4)]),(0,.var 119 (catV (cv61 o0_HairBook) [.fmp (List.map m124_33 mf)])),(1,.var 187 [.yld]),(2,.var 133 [.d (.fn 118)]),(3,.var 108 [.clo 87 [.agg [.d (.sl 4 (List.map e65 m0_HairBook.Hanks)),.d (.sl 3 (List.map e67 m0_HairBook.Horses)),jI m0_HairBook.Dark,jI m0_HairBook.Near,jI m0_HairBook.Match,.fmp (List.map m124_33 mf_1)]] []]),(4,.var 187 [.clo 122 [] [.ptr 0 0,.ptr 1 0,.ptr 2 0,.ptr 3 0,.ptr 4 0]])],7,(fr_ s_2),[],5⟩ ?_
        refine hQ_22 _ ?_
        refine AW.cond rfl (fun hb_29=>?_) (fun hb_29=>?_)
        ·have h:=ifT hb_29 h
         refine AW.exit ?_
         refine hK_19 _ ?_
         refine Ra ⟨[(0,.d (.sl 1 (List.map e3 plan))),pR 4 2,pR 5 3,pR 6 4,pR 8 5,(10,jI (plan.length:Int)),(11,jI need),(42,.d (.sl 4 (List.map e65 o0_HairBook.Hanks))),(43,jI (o0_HairBook.Hanks.length:Int)),(44,jI (wr (v+1)))],[(5,.var 128 [jI (cut 0),jI (cut 1),jI (cut 2),jI (cut 3),jI (cut 4)]),(0,.var 119 (catV (cv61 o0_HairBook) [.fmp (List.map m124_33 mf)])),(1,.var 187 [.yld]),(2,.var 133 [.d (.fn 118)]),(3,.var 108 [.clo 87 [.agg [.d (.sl 4 (List.map e65 m0_HairBook.Hanks)),.d (.sl 3 (List.map e67 m0_HairBook.Horses)),jI m0_HairBook.Dark,jI m0_HairBook.Near,jI m0_HairBook.Match,.fmp (List.map m124_33 mf_1)]] []]),(4,.var 187 [.clo 122 [] [.ptr 0 0,.ptr 1 0,.ptr 2 0,.ptr 3 0,.ptr 4 0]])],7,(fr_ s_2),[],5⟩ ?_
         obtain rfl:=Option.some.inj h
         obtain rfl:=Aft.bk hk_21
         have ew:wr (v+1)=v+1:=inext (N:=(o0_HairBook.Hanks.length:Int)) (by omega) (by omega) (by omega)
         rw [ew]
         exact hK_16 _ _ rfl (Can.kp (by kernel_rfl))
        ·have h:=ifF hb_29 h
         refine AW.skip ?_
         obtain rfl:=Option.some.inj h
         exact hK_21 _ _ rfl (Can.kp (by kernel_rfl))
       ·have h:=ifF hb_26 h
        refine aX 13 ⟨[(0,.d (.sl 1 (List.map e3 plan))),pR 4 2,pR 5 3,pR 6 4,pR 8 5,(10,jI (plan.length:Int)),(11,jI need),(12,jI v),(42,.d (.sl 4 (List.map e65 o0_HairBook.Hanks))),(43,jI (o0_HairBook.Hanks.length:Int)),(44,jI v),(77,.d (.bool false))],[(6,.var 65 (cv65 p2)),(5,.var 128 [jI (cut 0),jI (cut 1),jI (cut 2),jI (cut 3),jI (cut 4)]),(0,.var 119 (catV (cv61 o0_HairBook) [.fmp (List.map m124_33 mf)])),(1,.var 187 [.yld]),(2,.var 133 [.d (.fn 118)]),(3,.var 108 [.clo 87 [.agg [.d (.sl 4 (List.map e65 m0_HairBook.Hanks)),.d (.sl 3 (List.map e67 m0_HairBook.Horses)),jI m0_HairBook.Dark,jI m0_HairBook.Near,jI m0_HairBook.Match,.fmp (List.map m124_33 mf_1)]] []]),(4,.var 187 [.clo 122 [] [.ptr 0 0,.ptr 1 0,.ptr 2 0,.ptr 3 0,.ptr 4 0]])],7,(fr_ s_2),[],5⟩ ?_
        refine Fi ⟨[(0,.d (.sl 1 (List.map e3 plan))),pR 4 2,pR 5 3,pR 6 4,pR 8 5,(10,jI (plan.length:Int)),(11,jI need),(12,jI v),(42,.d (.sl 4 (List.map e65 o0_HairBook.Hanks))),(43,jI (o0_HairBook.Hanks.length:Int)),(44,jI v),(77,.d (.bool false))],[(5,.var 128 [jI (cut 0),jI (cut 1),jI (cut 2),jI (cut 3),jI (cut 4)]),(0,.var 119 (catV (cv61 o0_HairBook) [.fmp (List.map m124_33 mf)])),(1,.var 187 [.yld]),(2,.var 133 [.d (.fn 118)]),(3,.var 108 [.clo 87 [.agg [.d (.sl 4 (List.map e65 m0_HairBook.Hanks)),.d (.sl 3 (List.map e67 m0_HairBook.Horses)),jI m0_HairBook.Dark,jI m0_HairBook.Near,jI m0_HairBook.Match,.fmp (List.map m124_33 mf_1)]] []]),(4,.var 187 [.clo 122 [] [.ptr 0 0,.ptr 1 0,.ptr 2 0,.ptr 3 0,.ptr 4 0]])],7,(fr_ s_2),[],5⟩ ?_
        refine hQ_22 _ ?_
        refine AW.condF rfl ?_
        refine AW.skip ?_
        obtain rfl:=Option.some.inj h
        exact hK_21 _ _ rfl (Can.kp (by kernel_rfl))
     ·subst hj_21
      have h:=Aft.nx hk_21
      refine Sa ⟨[(0,.d (.sl 1 (List.map e3 plan))),pR 4 2,pR 5 3,pR 6 4,pR 8 5,(10,jI (plan.length:Int)),(11,jI need),(12,jI v),pR 14 7,(42,.d (.sl 4 (List.map e65 o0_HairBook.Hanks))),(43,jI (o0_HairBook.Hanks.length:Int)),(44,jI v)],[(7,.var 128 [jI (cut 0),jI (cut 1),jI (cut 2),jI (cut 3),jI (cut 4)]),(5,.var 128 [jI (cut 0),jI (cut 1),jI (cut 2),jI (cut 3),jI (cut 4)]),(0,.var 119 (catV (cv61 o0_HairBook) [.fmp (List.map m124_33 mf)])),(1,.var 187 [.yld]),(2,.var 133 [.d (.fn 118)]),(3,.var 108 [.clo 87 [.agg [.d (.sl 4 (List.map e65 m0_HairBook.Hanks)),.d (.sl 3 (List.map e67 m0_HairBook.Horses)),jI m0_HairBook.Dark,jI m0_HairBook.Near,jI m0_HairBook.Match,.fmp (List.map m124_33 mf_1)]] []]),(4,.var 187 [.clo 122 [] [.ptr 0 0,.ptr 1 0,.ptr 2 0,.ptr 3 0,.ptr 4 0]])],8,(fr_ s_2),[],5⟩ ?_
      refine AW.srwK (fun Q_30 hQ_30=>?_)
      refine Au 1 ⟨[(0,.d (.sl 1 (List.map e3 plan))),pR 4 2,pR 5 3,pR 6 4,pR 8 5,(10,jI (plan.length:Int)),(11,jI need),(12,jI v),pR 14 7,(42,.d (.sl 4 (List.map e65 o0_HairBook.Hanks))),(43,jI (o0_HairBook.Hanks.length:Int)),(44,jI v),(79,jI v)],[(7,.var 128 [jI (cut 0),jI (cut 1),jI (cut 2),jI (cut 3),jI (cut 4)]),(5,.var 128 [jI (cut 0),jI (cut 1),jI (cut 2),jI (cut 3),jI (cut 4)]),(0,.var 119 (catV (cv61 o0_HairBook) [.fmp (List.map m124_33 mf)])),(1,.var 187 [.yld]),(2,.var 133 [.d (.fn 118)]),(3,.var 108 [.clo 87 [.agg [.d (.sl 4 (List.map e65 m0_HairBook.Hanks)),.d (.sl 3 (List.map e67 m0_HairBook.Horses)),jI m0_HairBook.Dark,jI m0_HairBook.Near,jI m0_HairBook.Match,.fmp (List.map m124_33 mf_1)]] []]),(4,.var 187 [.clo 122 [] [.ptr 0 0,.ptr 1 0,.ptr 2 0,.ptr 3 0,.ptr 4 0]])],8,(fr_ s_2),[],5⟩ ?_
      obtain ⟨j2,hv_31,h⟩:=bsome h
      refine RW.one fokW (r_iaV trivial rfl rfl rfl (ixN_ok hv_31).1 (ixN_ok hv_31).2.1 (r_end ?_))
      refine RW.one fokW (r_loadV trivial rfl rfl (u:=jI (cut j2)) (agt (f:=fun k=>jI (cut k)) hv_31) (r_end ?_))
      refine Au 2 ⟨[(0,.d (.sl 1 (List.map e3 plan))),pR 4 2,pR 5 3,pR 6 4,pR 8 5,(10,jI (plan.length:Int)),(11,jI need),(12,jI v),pR 14 7,(42,.d (.sl 4 (List.map e65 o0_HairBook.Hanks))),(43,jI (o0_HairBook.Hanks.length:Int)),(44,jI v),(79,jI v),(83,jI (wr ((cut j2)+need)))],[(7,.var 128 [jI (cut 0),jI (cut 1),jI (cut 2),jI (cut 3),jI (cut 4)]),(5,.var 128 [jI (cut 0),jI (cut 1),jI (cut 2),jI (cut 3),jI (cut 4)]),(0,.var 119 (catV (cv61 o0_HairBook) [.fmp (List.map m124_33 mf)])),(1,.var 187 [.yld]),(2,.var 133 [.d (.fn 118)]),(3,.var 108 [.clo 87 [.agg [.d (.sl 4 (List.map e65 m0_HairBook.Hanks)),.d (.sl 3 (List.map e67 m0_HairBook.Horses)),jI m0_HairBook.Dark,jI m0_HairBook.Near,jI m0_HairBook.Match,.fmp (List.map m124_33 mf_1)]] []]),(4,.var 187 [.clo 122 [] [.ptr 0 0,.ptr 1 0,.ptr 2 0,.ptr 3 0,.ptr 4 0]])],8,(fr_ s_2),[],5⟩ ?_
      obtain ⟨j3,hv_32,h⟩:=bsome h
      refine RW.one fokW (r_iaV trivial rfl rfl rfl (ixN_ok hv_32).1 (ixN_ok hv_32).2.1 (r_end ?_))
      refine RW.one fokW (r_stX trivial rfl rfl rfl rfl rfl (aslot hv_32 rfl) (cs':=[jI ((aset cut j3 (wr ((cut j2)+need))) 0),jI ((aset cut j3 (wr ((cut j2)+need))) 1),jI ((aset cut j3 (wr ((cut j2)+need))) 2),jI ((aset cut j3 (wr ((cut j2)+need))) 3),jI ((aset cut j3 (wr ((cut j2)+need))) 4)]) (ast (w:=cut) (c:=fun z=>jI z) hv_32) (r_end ?_))
      refine RW.nil (hQ_30 _ ?_)
      refine AW.sdrwK fokW (fun Q_33 hQ_33=>?_)
      refine aX 4 ⟨[(0,.d (.sl 1 (List.map e3 plan))),pR 4 2,pR 5 3,pR 6 4,pR 8 5,(10,jI (plan.length:Int)),(11,jI need),(12,jI v),pR 14 7,(42,.d (.sl 4 (List.map e65 o0_HairBook.Hanks))),(43,jI (o0_HairBook.Hanks.length:Int)),(44,jI v),(85,.clo 122 [] [.ptr 0 0,.ptr 1 0,.ptr 2 0,.ptr 3 0,.ptr 4 0]),(86,.d (.sl 1 (List.map e3 plan))),(87,jI (plan.length:Int)),(88,jI (plan.length:Int))],[(7,.var 128 [jI ((aset cut j3 (wr ((cut j2)+need))) 0),jI ((aset cut j3 (wr ((cut j2)+need))) 1),jI ((aset cut j3 (wr ((cut j2)+need))) 2),jI ((aset cut j3 (wr ((cut j2)+need))) 3),jI ((aset cut j3 (wr ((cut j2)+need))) 4)]),(5,.var 128 [jI (cut 0),jI (cut 1),jI (cut 2),jI (cut 3),jI (cut 4)]),(0,.var 119 (catV (cv61 o0_HairBook) [.fmp (List.map m124_33 mf)])),(1,.var 187 [.yld]),(2,.var 133 [.d (.fn 118)]),(3,.var 108 [.clo 87 [.agg [.d (.sl 4 (List.map e65 m0_HairBook.Hanks)),.d (.sl 3 (List.map e67 m0_HairBook.Horses)),jI m0_HairBook.Dark,jI m0_HairBook.Near,jI m0_HairBook.Match,.fmp (List.map m124_33 mf_1)]] []]),(4,.var 187 [.clo 122 [] [.ptr 0 0,.ptr 1 0,.ptr 2 0,.ptr 3 0,.ptr 4 0]])],8,(fr_ s_2),[],5⟩ ?_
      obtain ⟨l,hv_34,h⟩:=bsome h
      refine r_slN trivial rfl rfl rfl DSl.d (slcL_ok hv_34).2.1 (by rw [List.length_map];exact (slcL_ok hv_34).2.2.1) rfl (slz hv_34 e3) ?_
      refine aX 2 ⟨[(0,.d (.sl 1 (List.map e3 plan))),pR 4 2,pR 5 3,pR 6 4,pR 8 5,(10,jI (plan.length:Int)),(11,jI need),pR 14 7,(42,.d (.sl 4 (List.map e65 o0_HairBook.Hanks))),(43,jI (o0_HairBook.Hanks.length:Int)),(44,jI v),(85,.clo 122 [] [.ptr 0 0,.ptr 1 0,.ptr 2 0,.ptr 3 0,.ptr 4 0]),(89,.fsl 1 (List.map e3 l)),(91,.own 8 (List.map e3 [v]).length)],[(8,.row 3 1 (List.map e3 [v])),(7,.var 128 [jI ((aset cut j3 (wr ((cut j2)+need))) 0),jI ((aset cut j3 (wr ((cut j2)+need))) 1),jI ((aset cut j3 (wr ((cut j2)+need))) 2),jI ((aset cut j3 (wr ((cut j2)+need))) 3),jI ((aset cut j3 (wr ((cut j2)+need))) 4)]),(5,.var 128 [jI (cut 0),jI (cut 1),jI (cut 2),jI (cut 3),jI (cut 4)]),(0,.var 119 (catV (cv61 o0_HairBook) [.fmp (List.map m124_33 mf)])),(1,.var 187 [.yld]),(2,.var 133 [.d (.fn 118)]),(3,.var 108 [.clo 87 [.agg [.d (.sl 4 (List.map e65 m0_HairBook.Hanks)),.d (.sl 3 (List.map e67 m0_HairBook.Horses)),jI m0_HairBook.Dark,jI m0_HairBook.Near,jI m0_HairBook.Match,.fmp (List.map m124_33 mf_1)]] []]),(4,.var 187 [.clo 122 [] [.ptr 0 0,.ptr 1 0,.ptr 2 0,.ptr 3 0,.ptr 4 0]])],9,(fr_ s_2),[],5⟩ ?_
      obtain ⟨l1,hv_35,h⟩:=bsome h
      refine r_apF trivial rfl rfl rfl rfl (by simp) (zs:=List.map e3 l1) (apz hv_35 e3) (apr hv_35 e3) ?_
      refine aX 1 ⟨[(0,.d (.sl 1 (List.map e3 plan))),pR 4 2,pR 5 3,pR 6 4,pR 8 5,(10,jI (plan.length:Int)),(11,jI need),(42,.d (.sl 4 (List.map e65 o0_HairBook.Hanks))),(43,jI (o0_HairBook.Hanks.length:Int)),(44,jI v),(85,.clo 122 [] [.ptr 0 0,.ptr 1 0,.ptr 2 0,.ptr 3 0,.ptr 4 0]),(92,.own 9 (List.map e3 l1).length),(93,.agg [jI ((aset cut j3 (wr ((cut j2)+need))) 0),jI ((aset cut j3 (wr ((cut j2)+need))) 1),jI ((aset cut j3 (wr ((cut j2)+need))) 2),jI ((aset cut j3 (wr ((cut j2)+need))) 3),jI ((aset cut j3 (wr ((cut j2)+need))) 4)])],[(9,.row 3 1 (List.map e3 l1)),(8,.row 3 1 (List.map e3 [v])),(7,.var 128 [jI ((aset cut j3 (wr ((cut j2)+need))) 0),jI ((aset cut j3 (wr ((cut j2)+need))) 1),jI ((aset cut j3 (wr ((cut j2)+need))) 2),jI ((aset cut j3 (wr ((cut j2)+need))) 3),jI ((aset cut j3 (wr ((cut j2)+need))) 4)]),(5,.var 128 [jI (cut 0),jI (cut 1),jI (cut 2),jI (cut 3),jI (cut 4)]),(0,.var 119 (catV (cv61 o0_HairBook) [.fmp (List.map m124_33 mf)])),(1,.var 187 [.yld]),(2,.var 133 [.d (.fn 118)]),(3,.var 108 [.clo 87 [.agg [.d (.sl 4 (List.map e65 m0_HairBook.Hanks)),.d (.sl 3 (List.map e67 m0_HairBook.Horses)),jI m0_HairBook.Dark,jI m0_HairBook.Near,jI m0_HairBook.Match,.fmp (List.map m124_33 mf_1)]] []]),(4,.var 187 [.clo 122 [] [.ptr 0 0,.ptr 1 0,.ptr 2 0,.ptr 3 0,.ptr 4 0]])],10,(fr_ s_2),[],5⟩ ?_
      obtain ⟨⟨r0_7_1,s_5_1⟩,hx_36,h⟩:=bsome h
      refine r_callvS (zr:=[(9,.row 3 1 (List.map e3 l1))]) [0,1,2,3,4] trivial rfl (.clo _ _ _) (by kernel_rfl) rfl (ih l1 (aset cut j3 (wr ((cut j2)+need))) o0_HairBook mf m0_HairBook mf_1 s_2 _ hx_36) ⟨rfl,rfl,rfl,rfl,rfl,rfl,trivial⟩ rfl rfl ⟨(.own rfl rfl),.refl _,.refl _,.refl _,.refl _,.refl _,.refl _,trivial⟩ rfl rfl rfl ?_
      refine aX 1 ⟨[(0,.d (.sl 1 (List.map e3 plan))),pR 4 2,pR 5 3,pR 6 4,pR 8 5,(10,jI (plan.length:Int)),(11,jI need),(42,.d (.sl 4 (List.map e65 o0_HairBook.Hanks))),(43,jI (o0_HairBook.Hanks.length:Int)),(44,jI v),(95,.d (.bool (!r0_7_1)))],[(0,.var 119 (catV (cv61 o0_HairBook) [.fmp (List.map m124_33 mf)])),(1,.var 187 [.yld]),(2,.var 133 [.d (.fn 118)]),(3,.var 108 [.clo 87 [.agg [.d (.sl 4 (List.map e65 m0_HairBook.Hanks)),.d (.sl 3 (List.map e67 m0_HairBook.Horses)),jI m0_HairBook.Dark,jI m0_HairBook.Near,jI m0_HairBook.Match,.fmp (List.map m124_33 mf_1)]] []]),(4,.var 187 [.clo 122 [] [.ptr 0 0,.ptr 1 0,.ptr 2 0,.ptr 3 0,.ptr 4 0]]),(9,.dead),(8,.row 3 1 (List.map e3 [v])),(7,.var 128 [jI ((aset cut j3 (wr ((cut j2)+need))) 0),jI ((aset cut j3 (wr ((cut j2)+need))) 1),jI ((aset cut j3 (wr ((cut j2)+need))) 2),jI ((aset cut j3 (wr ((cut j2)+need))) 3),jI ((aset cut j3 (wr ((cut j2)+need))) 4)]),(5,.var 128 [jI (cut 0),jI (cut 1),jI (cut 2),jI (cut 3),jI (cut 4)])],10,(fr_ s_5_1),[],5⟩ ?_
      refine Fi ⟨[(0,.d (.sl 1 (List.map e3 plan))),pR 4 2,pR 5 3,pR 6 4,pR 8 5,(10,jI (plan.length:Int)),(11,jI need),(42,.d (.sl 4 (List.map e65 o0_HairBook.Hanks))),(43,jI (o0_HairBook.Hanks.length:Int)),(44,jI v),(95,.d (.bool (!r0_7_1)))],[(0,.var 119 (catV (cv61 o0_HairBook) [.fmp (List.map m124_33 mf)])),(1,.var 187 [.yld]),(2,.var 133 [.d (.fn 118)]),(3,.var 108 [.clo 87 [.agg [.d (.sl 4 (List.map e65 m0_HairBook.Hanks)),.d (.sl 3 (List.map e67 m0_HairBook.Horses)),jI m0_HairBook.Dark,jI m0_HairBook.Near,jI m0_HairBook.Match,.fmp (List.map m124_33 mf_1)]] []]),(4,.var 187 [.clo 122 [] [.ptr 0 0,.ptr 1 0,.ptr 2 0,.ptr 3 0,.ptr 4 0]]),(5,.var 128 [jI (cut 0),jI (cut 1),jI (cut 2),jI (cut 3),jI (cut 4)])],10,(fr_ s_5_1),[],5⟩ ?_
      refine hQ_33 _ ?_
      refine AW.cond rfl (fun hb_37=>?_) (fun hb_37=>?_)
      ·have h:=ifT hb_37 h
       refine Sa ⟨[(9,.d (.bool false))],[(0,.var 119 (catV (cv61 o0_HairBook) [.fmp (List.map m124_33 mf)])),(1,.var 187 [.yld]),(2,.var 133 [.d (.fn 118)]),(3,.var 108 [.clo 87 [.agg [.d (.sl 4 (List.map e65 m0_HairBook.Hanks)),.d (.sl 3 (List.map e67 m0_HairBook.Horses)),jI m0_HairBook.Dark,jI m0_HairBook.Near,jI m0_HairBook.Match,.fmp (List.map m124_33 mf_1)]] []]),(4,.var 187 [.clo 122 [] [.ptr 0 0,.ptr 1 0,.ptr 2 0,.ptr 3 0,.ptr 4 0]])],10,(fr_ s_5_1),[],5⟩ ?_
       obtain rfl:=Option.some.inj h
       have e_1:=hb_16 _ rfl
       subst e_1
       obtain rfl:=Aft.bk hk_16
       exact rT hR_0 (.cons (.tmp rfl) .nil)
      ·have h:=ifF hb_37 h
       refine AW.skip (hK_19 _ ?_)
       refine Ra ⟨[(0,.d (.sl 1 (List.map e3 plan))),pR 4 2,pR 5 3,pR 6 4,pR 8 5,(10,jI (plan.length:Int)),(11,jI need),(42,.d (.sl 4 (List.map e65 o0_HairBook.Hanks))),(43,jI (o0_HairBook.Hanks.length:Int)),(44,jI (wr (v+1)))],[(0,.var 119 (catV (cv61 o0_HairBook) [.fmp (List.map m124_33 mf)])),(1,.var 187 [.yld]),(2,.var 133 [.d (.fn 118)]),(3,.var 108 [.clo 87 [.agg [.d (.sl 4 (List.map e65 m0_HairBook.Hanks)),.d (.sl 3 (List.map e67 m0_HairBook.Horses)),jI m0_HairBook.Dark,jI m0_HairBook.Near,jI m0_HairBook.Match,.fmp (List.map m124_33 mf_1)]] []]),(4,.var 187 [.clo 122 [] [.ptr 0 0,.ptr 1 0,.ptr 2 0,.ptr 3 0,.ptr 4 0]]),(5,.var 128 [jI (cut 0),jI (cut 1),jI (cut 2),jI (cut 3),jI (cut 4)])],10,(fr_ s_5_1),[],5⟩ ?_
       obtain rfl:=Option.some.inj h
       have ew:wr (v+1)=v+1:=inext (N:=(o0_HairBook.Hanks.length:Int)) (by omega) (by omega) (by omega)
       rw [ew]
       exact hK_16 _ _ rfl (Can.kp (by kernel_rfl))
    ·subst hout
     have h:=Aft.nx hk_16
     refine Sa ⟨[(0,.d (.sl 1 (List.map e3 plan))),pR 4 2,pR 5 3,pR 6 4,pR 8 5,(10,jI (plan.length:Int)),(11,jI need),(42,.d (.sl 4 (List.map e65 o0_HairBook.Hanks))),(43,jI (o0_HairBook.Hanks.length:Int)),(44,jI v),(45,.d (.bool (decide (v<(o0_HairBook.Hanks.length:Int)))))],[(5,.var 128 [jI (cut 0),jI (cut 1),jI (cut 2),jI (cut 3),jI (cut 4)]),(0,.var 119 (catV (cv61 o0_HairBook) [.fmp (List.map m124_33 mf)])),(1,.var 187 [.yld]),(2,.var 133 [.d (.fn 118)]),(3,.var 108 [.clo 87 [.agg [.d (.sl 4 (List.map e65 m0_HairBook.Hanks)),.d (.sl 3 (List.map e67 m0_HairBook.Horses)),jI m0_HairBook.Dark,jI m0_HairBook.Near,jI m0_HairBook.Match,.fmp (List.map m124_33 mf_1)]] []]),(4,.var 187 [.clo 122 [] [.ptr 0 0,.ptr 1 0,.ptr 2 0,.ptr 3 0,.ptr 4 0]])],6,(fr_ s_2),[],5⟩ ?_
     refine AW.seqK (fun K_38 hK_38=>?_)
     refine AW.cond rfl (fun hb_39=>False.elim (by have:=of_decide_eq_true hb_39;omega)) (fun hb_39=>?_)
     refine AW.exit ?_
     refine hK_14 _ ?_
     refine Sa ⟨[(9,.d (.bool true))],[(0,.var 119 (catV (cv61 o0_HairBook) [.fmp (List.map m124_33 mf)])),(1,.var 187 [.yld]),(2,.var 133 [.d (.fn 118)]),(3,.var 108 [.clo 87 [.agg [.d (.sl 4 (List.map e65 m0_HairBook.Hanks)),.d (.sl 3 (List.map e67 m0_HairBook.Horses)),jI m0_HairBook.Dark,jI m0_HairBook.Near,jI m0_HairBook.Match,.fmp (List.map m124_33 mf_1)]] []]),(4,.var 187 [.clo 122 [] [.ptr 0 0,.ptr 1 0,.ptr 2 0,.ptr 3 0,.ptr 4 0]])],6,(fr_ s_2),[],5⟩ ?_
     obtain rfl:=Option.some.inj h
     exact rT hR_0 (.cons (.tmp rfl) .nil)
def g121 {S_:Type} (c_:(List Int)→(Nat→Int)→S_→Option (S_×Bool)) (o0_HairBook:HairBook) (mf:List (Hair_dye×Span)) (m0_HairBook:HairBook) (mf_1:List (Hair_dye×Span)) (s_:S_):Option S_:=(g117).bind fun r0=>(g122 c_ 1000 ([]:(List Int)) r0 o0_HairBook mf m0_HairBook mf_1 s_).bind fun (r0_7,s_5)=>some s_5
theorem k121 {S_:Type} (fr_:S_→Fr) (c_:(List Int)→(Nat→Int)→S_→Option (S_×Bool)) (hc_:∀ (a0:(List Int)) (a1:(Nat→Int)) s s2 b,c_ a0 a1 s=some (s2,b)→YCall Tryd.prog Gs (fr_ s) [.d (.sl 1 (List.map e3 a0)),.agg [jI (a1 0),jI (a1 1),jI (a1 2),jI (a1 3),jI (a1 4)]] (.d (.bool b)) (fr_ s2)) (o0_HairBook:HairBook) (mf:List (Hair_dye×Span)) (m0_HairBook:HairBook) (mf_1:List (Hair_dye×Span)) (s_:S_) (r:S_) (h:g121 c_ o0_HairBook mf m0_HairBook mf_1 s_=some r):SCall Tryd.prog Gs 121 [.yld,.ptr 0 0,.ptr 1 0,.ptr 2 0] [(0,.var 119 (catV (cv61 o0_HairBook) [.fmp (List.map m124_33 mf)])),(1,.var 133 [.d (.fn 118)]),(2,.var 108 [.clo 87 [.agg [.d (.sl 4 (List.map e65 m0_HairBook.Hanks)),.d (.sl 3 (List.map e67 m0_HairBook.Horses)),jI m0_HairBook.Dark,jI m0_HairBook.Near,jI m0_HairBook.Match,.fmp (List.map m124_33 mf_1)]] []])] 3 (fr_ s_) (.tup []) [(0,.var 119 (catV (cv61 o0_HairBook) [.fmp (List.map m124_33 mf)])),(1,.var 133 [.d (.fn 118)]),(2,.var 108 [.clo 87 [.agg [.d (.sl 4 (List.map e65 m0_HairBook.Hanks)),.d (.sl 3 (List.map e67 m0_HairBook.Horses)),jI m0_HairBook.Dark,jI m0_HairBook.Near,jI m0_HairBook.Match,.fmp (List.map m124_33 mf_1)]] []])] 3 (fr_ r):=by
 unfold g121 at h
 refine SCall.mkK Tryd.func121 c121 rfl rfl (by kernel_rfl) (fun Q_0 hR_0 hN_0=>?_)
 refine Sa ⟨[pR 1 0,pR 2 1,pR 3 2,pR 4 3],[(3,.var 187 [.yld]),(0,.var 119 (catV (cv61 o0_HairBook) [.fmp (List.map m124_33 mf)])),(1,.var 133 [.d (.fn 118)]),(2,.var 108 [.clo 87 [.agg [.d (.sl 4 (List.map e65 m0_HairBook.Hanks)),.d (.sl 3 (List.map e67 m0_HairBook.Horses)),jI m0_HairBook.Dark,jI m0_HairBook.Near,jI m0_HairBook.Match,.fmp (List.map m124_33 mf_1)]] []])],4,(fr_ s_),[],3⟩ ?_
 refine Sa ⟨[pR 1 0,pR 2 1,pR 3 2,pR 4 3,pR 5 4],[(4,.var 187 [.d (.nilFn)]),(3,.var 187 [.yld]),(0,.var 119 (catV (cv61 o0_HairBook) [.fmp (List.map m124_33 mf)])),(1,.var 133 [.d (.fn 118)]),(2,.var 108 [.clo 87 [.agg [.d (.sl 4 (List.map e65 m0_HairBook.Hanks)),.d (.sl 3 (List.map e67 m0_HairBook.Horses)),jI m0_HairBook.Dark,jI m0_HairBook.Near,jI m0_HairBook.Match,.fmp (List.map m124_33 mf_1)]] []])],5,(fr_ s_),[],3⟩ ?_
 refine Sa ⟨[pR 5 4],[(4,.var 187 [.clo 122 [] [.ptr 0 0,.ptr 3 0,.ptr 1 0,.ptr 2 0,.ptr 4 0]]),(3,.var 187 [.yld]),(0,.var 119 (catV (cv61 o0_HairBook) [.fmp (List.map m124_33 mf)])),(1,.var 133 [.d (.fn 118)]),(2,.var 108 [.clo 87 [.agg [.d (.sl 4 (List.map e65 m0_HairBook.Hanks)),.d (.sl 3 (List.map e67 m0_HairBook.Horses)),jI m0_HairBook.Dark,jI m0_HairBook.Near,jI m0_HairBook.Match,.fmp (List.map m124_33 mf_1)]] []])],5,(fr_ s_),[],3⟩ ?_
 refine AW.drw fokW ?_
 refine aX 1 ⟨[(7,.clo 122 [] [.ptr 0 0,.ptr 3 0,.ptr 1 0,.ptr 2 0,.ptr 4 0])],[(4,.var 187 [.clo 122 [] [.ptr 0 0,.ptr 3 0,.ptr 1 0,.ptr 2 0,.ptr 4 0]]),(3,.var 187 [.yld]),(0,.var 119 (catV (cv61 o0_HairBook) [.fmp (List.map m124_33 mf)])),(1,.var 133 [.d (.fn 118)]),(2,.var 108 [.clo 87 [.agg [.d (.sl 4 (List.map e65 m0_HairBook.Hanks)),.d (.sl 3 (List.map e67 m0_HairBook.Horses)),jI m0_HairBook.Dark,jI m0_HairBook.Near,jI m0_HairBook.Match,.fmp (List.map m124_33 mf_1)]] []])],5,(fr_ s_),[],3⟩ ?_
 obtain ⟨r0,hx_2,h⟩:=bsome h
 refine r_call trivial rfl (k117 _ hx_2) rfl rfl ?_
 obtain ⟨⟨r0_7,s_5⟩,hx_3,h⟩:=bsome h
 refine r_callvS (zr:=[]) [0,3,1,2,4] trivial rfl (.clo _ _ _) (by kernel_rfl) rfl (k122 fr_ c_ hc_ 1000 ([]:(List Int)) r0 o0_HairBook mf m0_HairBook mf_1 s_ _ hx_3) ⟨rfl,rfl,rfl,rfl,rfl,trivial⟩ rfl rfl ⟨(.nil 1),.refl _,.refl _,.refl _,.refl _,.refl _,.refl _,trivial⟩ rfl rfl rfl ?_
 refine Fi ⟨[],[(0,.var 119 (catV (cv61 o0_HairBook) [.fmp (List.map m124_33 mf)])),(1,.var 133 [.d (.fn 118)]),(2,.var 108 [.clo 87 [.agg [.d (.sl 4 (List.map e65 m0_HairBook.Hanks)),.d (.sl 3 (List.map e67 m0_HairBook.Horses)),jI m0_HairBook.Dark,jI m0_HairBook.Near,jI m0_HairBook.Match,.fmp (List.map m124_33 mf_1)]] []])],5,(fr_ s_5),[],3⟩ ?_
 obtain rfl:=Option.some.inj h
 exact hN_0 _ (retX .nil (.refl _) rfl (by kernel_rfl) (by kernel_rfl))
def g82_r5 (b_HairBook:HairBook) (mf:List (Hair_dye×Span)):((List Int)×(Nat→Int))→((List Int)×Int×Bool)→Option (Ctl ((List Int)×Int×Bool) (Unit)):=fun (a,a1) (v,v1,v2)=>(g80).bind fun _=>(g78a b_HairBook mf a1).bind fun r0_3=>bif ((!v2)||(decide (r0_3<v1))) then (some (.next (a,r0_3,true))) else (some (.next (v,v1,v2)))
def g82 (b_HairBook:HairBook) (mf:List (Hair_dye×Span)):Option ((List Int)×Bool):=(g79).bind fun _=>(g86 b_HairBook mf b_HairBook mf).bind fun (o0_HairBook,mf1)=>(g121 (fun a a1 s=>rndC (g82_r5 b_HairBook mf) (a,a1) s) o0_HairBook mf1 b_HairBook mf (.next (([],0,false):(List Int)×Int×Bool))).bind fun out_5=>match out_5 with | .next (v,v1,v2)=>some (v,v2) | .brk _=>none
theorem k82 (b_HairBook:HairBook) (mf:List (Hair_dye×Span)) (r:(List Int)×Bool) (h:g82 b_HairBook mf=some r):SCall Tryd.prog Gs 82 [.agg [.d (.sl 4 (List.map e65 b_HairBook.Hanks)),.d (.sl 3 (List.map e67 b_HairBook.Horses)),jI b_HairBook.Dark,jI b_HairBook.Near,jI b_HairBook.Match,.fmp (List.map m124_33 mf)]] [] 0 Fr.emp (match r with | (r0,r1)=>.tup [.d (.sl 1 (List.map e3 r0)),.d (.bool r1)]) [] 0 Fr.emp:=by
 unfold g82 at h
 refine SCall.mkK Tryd.func82 c82 rfl rfl (by kernel_rfl) (fun Q_0 hR_0 hN_0=>?_)
 refine Sa (sT [pR 1 0] [(0,.var 119 (catV (cv61 b_HairBook) [.fmp (List.map m124_33 mf)]))] 1 0) ?_
 refine Sa (sT [pR 1 0,pR 4 1] [(1,.var 51 [.d (.nilSl)]),(0,.var 119 (catV (cv61 b_HairBook) [.fmp (List.map m124_33 mf)]))] 2 0) ?_
 refine Sa (sT [pR 1 0,pR 4 1,pR 5 2,pR 6 3] [(3,.var 4 [.d (.bool false)]),(2,.var 3 [jI 0]),(1,.var 51 [.d (.nilSl)]),(0,.var 119 (catV (cv61 b_HairBook) [.fmp (List.map m124_33 mf)]))] 4 0) ?_
 refine AW.seqK (fun K_1 hK_1=>?_)
 refine AW.sdrwK fokW (fun Q_2 hQ_2=>?_)
 refine aX 1 (sT [pR 1 0,pR 4 1,pR 5 2,pR 6 3,(10,.agg [.d (.sl 4 (List.map e65 b_HairBook.Hanks)),.d (.sl 3 (List.map e67 b_HairBook.Horses)),jI b_HairBook.Dark,jI b_HairBook.Near,jI b_HairBook.Match,.fmp (List.map m124_33 mf)])] [(3,.var 4 [.d (.bool false)]),(2,.var 3 [jI 0]),(1,.var 51 [.d (.nilSl)]),(0,.var 119 (catV (cv61 b_HairBook) [.fmp (List.map m124_33 mf)]))] 4 0) ?_
 obtain ⟨⟨⟩,hx_3,h⟩:=bsome h
 refine r_call trivial rfl (k79 _ hx_3) rfl rfl ?_
 refine aX 2 (sT [pR 1 0,pR 4 1,pR 5 2,pR 6 3,(10,.agg [.d (.sl 4 (List.map e65 b_HairBook.Hanks)),.d (.sl 3 (List.map e67 b_HairBook.Horses)),jI b_HairBook.Dark,jI b_HairBook.Near,jI b_HairBook.Match,.fmp (List.map m124_33 mf)]),(11,.agg [.d (.fn 118)]),(13,.clo 87 [.agg [.d (.sl 4 (List.map e65 b_HairBook.Hanks)),.d (.sl 3 (List.map e67 b_HairBook.Horses)),jI b_HairBook.Dark,jI b_HairBook.Near,jI b_HairBook.Match,.fmp (List.map m124_33 mf)]] [])] [(3,.var 4 [.d (.bool false)]),(2,.var 3 [jI 0]),(1,.var 51 [.d (.nilSl)]),(0,.var 119 (catV (cv61 b_HairBook) [.fmp (List.map m124_33 mf)]))] 4 0) ?_
 obtain ⟨⟨o0_HairBook,mf1⟩,hx_4,h⟩:=bsome h
 refine r_callS (zr:=[]) [] trivial rfl (k86 b_HairBook mf b_HairBook mf _ hx_4) trivial rfl rfl ⟨.refl _,.refl _,.refl _,trivial⟩ rfl rfl rfl ?_
 refine Fi (sT [pR 1 0,pR 4 1,pR 5 2,pR 6 3,(14,.clo 121 [] [.ptr 4 0,.ptr 5 0,.ptr 6 0])] [(4,.var 119 (catV (cv61 o0_HairBook) [.fmp (List.map m124_33 mf1)])),(5,.var 133 [.d (.fn 118)]),(6,.var 108 [.clo 87 [.agg [.d (.sl 4 (List.map e65 b_HairBook.Hanks)),.d (.sl 3 (List.map e67 b_HairBook.Horses)),jI b_HairBook.Dark,jI b_HairBook.Near,jI b_HairBook.Match,.fmp (List.map m124_33 mf)]] []]),(3,.var 4 [.d (.bool false)]),(2,.var 3 [jI 0]),(1,.var 51 [.d (.nilSl)]),(0,.var 119 (catV (cv61 b_HairBook) [.fmp (List.map m124_33 mf)]))] 7 0) ?_
 refine hQ_2 _ ?_
 refine AW.block ?_
 refine AW.can (Can.wkH 1 0 1 rfl rfl) ?_
 obtain ⟨out_5,hx_5,h⟩:=bsome h
 refine AW.rfX (fun (⟨v,v1,v2⟩:(List Int)×Int×Bool)=>[(7,.dm),(3,.var 4 [.d (.bool v2)]),(2,.var 3 [jI v1]),(1,.var 51 [.d (.sl 1 (List.map e3 v))]),(0,.var 119 (catV (cv61 b_HairBook) [.fmp (List.map m124_33 mf)]))]) (fun (_:Unit)=>[]) (fun _=>some .ret) (g82_r5 b_HairBook mf) (fun (⟨a,a1⟩:(List Int)×(Nat→Int))=>[.d (.sl 1 (List.map e3 a)),.agg [jI (a1 0),jI (a1 1),jI (a1 2),jI (a1 3),jI (a1 4)]]) (s0:=(([],0,false):(List Int)×Int×Bool)) (out:=out_5) [pR 1 0,pR 4 1,pR 5 2,pR 6 3] [(3,.var 4 [.d (.bool false)]),(2,.var 3 [jI 0]),(1,.var 51 [.d (.sl 1 (List.map e3 []))]),(0,.var 119 (catV (cv61 b_HairBook) [.fmp (List.map m124_33 mf)]))] [4,5,6] rfl (.clo _ _ _) (by kernel_rfl) (by kernel_rfl) (fun fr_ hY_5=>k121 fr_ _ (fun a a1 s s2 b h=>hY_5 (a,a1) s s2 b h) o0_HairBook mf1 b_HairBook mf (.next (([],0,false):(List Int)×Int×Bool)) _ hx_5) (by kernel_rfl) ⟨rfl,rfl,rfl,trivial⟩ rfl ⟨rfl,rfl⟩ rfl rfl (fun _=>rfl) (fun _=>rfl) (fun a_5 s_5 c_5 h l_5=>?_) (fun _=>rfl) ?_
 ·obtain ⟨a,a1⟩:=a_5
  obtain ⟨v,v1,v2⟩:=s_5
  unfold g82_r5 at h
  refine AW.sa (fokR l_5) [] (sT [pR 1 0,pR 4 1,pR 5 2,pR 6 3,(7,.d (.sl 1 (List.map e3 a))),(16,.agg [jI (a1 0),jI (a1 1),jI (a1 2),jI (a1 3),jI (a1 4)])] [(7,.dm),(3,.var 4 [.d (.bool v2)]),(2,.var 3 [jI v1]),(1,.var 51 [.d (.sl 1 (List.map e3 v))]),(0,.var 119 (catV (cv61 b_HairBook) [.fmp (List.map m124_33 mf)]))] 8 8) (by kernel_rfl) ?_
  refine AW.ra (fokR l_5) [] (sT [pR 1 0,pR 4 1,pR 5 2,pR 6 3,(7,.d (.sl 1 (List.map e3 a))),pR 8 8] [(8,.var 128 [jI (a1 0),jI (a1 1),jI (a1 2),jI (a1 3),jI (a1 4)]),(7,.dm),(3,.var 4 [.d (.bool v2)]),(2,.var 3 [jI v1]),(1,.var 51 [.d (.sl 1 (List.map e3 v))]),(0,.var 119 (catV (cv61 b_HairBook) [.fmp (List.map m124_33 mf)]))] 9 8) (by kernel_rfl) ?_
  refine AW.block ?_
  refine AW.sdrwK (fokR l_5) (fun Q_6 hQ_6=>?_)
  refine aX 2 (sT [pR 4 1,pR 5 2,pR 6 3,(7,.d (.sl 1 (List.map e3 a))),(17,.agg [.d (.sl 4 (List.map e65 b_HairBook.Hanks)),.d (.sl 3 (List.map e67 b_HairBook.Horses)),jI b_HairBook.Dark,jI b_HairBook.Near,jI b_HairBook.Match,.fmp (List.map m124_33 mf)]),(18,.agg [jI (a1 0),jI (a1 1),jI (a1 2),jI (a1 3),jI (a1 4)])] [(8,.var 128 [jI (a1 0),jI (a1 1),jI (a1 2),jI (a1 3),jI (a1 4)]),(7,.dm),(3,.var 4 [.d (.bool v2)]),(2,.var 3 [jI v1]),(1,.var 51 [.d (.sl 1 (List.map e3 v))]),(0,.var 119 (catV (cv61 b_HairBook) [.fmp (List.map m124_33 mf)]))] 9 8) ?_
  obtain ⟨⟨⟩,hx_7,h⟩:=bsome h
  refine r_call trivial rfl (k80 _ hx_7) rfl rfl ?_
  obtain ⟨r0_3,hx_8,h⟩:=bsome h
  refine r_call trivial rfl (k78a b_HairBook mf a1 _ hx_8) rfl rfl ?_
  refine aX 1 (sT [pR 4 1,pR 5 2,pR 6 3,(7,.d (.sl 1 (List.map e3 a))),(9,jI r0_3)] [(8,.var 128 [jI (a1 0),jI (a1 1),jI (a1 2),jI (a1 3),jI (a1 4)]),(7,.dm),(3,.var 4 [.d (.bool v2)]),(2,.var 3 [jI v1]),(1,.var 51 [.d (.sl 1 (List.map e3 v))]),(0,.var 119 (catV (cv61 b_HairBook) [.fmp (List.map m124_33 mf)]))] 9 8) ?_
  refine Fi (sT [pR 4 1,pR 5 2,pR 6 3,(7,.d (.sl 1 (List.map e3 a))),(9,jI r0_3)] [(7,.dm),(3,.var 4 [.d (.bool v2)]),(2,.var 3 [jI v1]),(1,.var 51 [.d (.sl 1 (List.map e3 v))]),(0,.var 119 (catV (cv61 b_HairBook) [.fmp (List.map m124_33 mf)]))] 9 8) ?_
  refine hQ_6 _ ?_
  refine AW.sa (fokR l_5) [23] (sT [pR 4 1,pR 5 2,pR 6 3,(7,.d (.sl 1 (List.map e3 a))),(9,jI r0_3),(27,.d (.bool ((!v2)||(decide (r0_3<v1)))))] [(7,.dm),(3,.var 4 [.d (.bool v2)]),(2,.var 3 [jI v1]),(1,.var 51 [.d (.sl 1 (List.map e3 v))]),(0,.var 119 (catV (cv61 b_HairBook) [.fmp (List.map m124_33 mf)]))] 9 8) (by kernel_rfl) ?_
  refine AW.cond rfl (fun hb_9=>?_) (fun hb_9=>?_)
  ·have h:=ifT hb_9 h
   refine AW.ra (fokR l_5) [] (sT [] [(3,.var 4 [.d (.bool true)]),(2,.var 3 [jI r0_3]),(1,.var 51 [.d (.sl 1 (List.map e3 a))]),(7,.dm),(0,.var 119 (catV (cv61 b_HairBook) [.fmp (List.map m124_33 mf)]))] 9 8) (by kernel_rfl) ?_
   obtain rfl:=Option.some.inj h
   exact ⟨(sT [] [(7,.dm),(3,.var 4 [.d (.bool true)]),(2,.var 3 [jI r0_3]),(1,.var 51 [.d (.sl 1 (List.map e3 a))]),(0,.var 119 (catV (cv61 b_HairBook) [.fmp (List.map m124_33 mf)]))] 8 8),Can.kp (by kernel_rfl),rdX trivial rfl (by kernel_rfl) (by kernel_rfl)⟩
  ·have h:=ifF hb_9 h
   refine AW.skip ?_
   obtain rfl:=Option.some.inj h
   exact ⟨(sT [] [(7,.dm),(3,.var 4 [.d (.bool v2)]),(2,.var 3 [jI v1]),(1,.var 51 [.d (.sl 1 (List.map e3 v))]),(0,.var 119 (catV (cv61 b_HairBook) [.fmp (List.map m124_33 mf)]))] 8 8),Can.kp (by kernel_rfl),rdX trivial rfl (by kernel_rfl) (by kernel_rfl)⟩
 ·rcases out_5 with ⟨v,v1,v2⟩ | _
  ·refine hK_1 _ ?_
   refine Sa ⟨[(2,.d (.sl 1 (List.map e3 v))),(3,.d (.bool v2))],[(7,.dm)],8,Fr.emp,[7],0⟩ ?_
   obtain rfl:=Option.some.inj h
   exact rT hR_0 (.cons (.tmp rfl) (.cons (.tmp rfl) .nil))
  ·cases h
def g31 (x:HairBook):Option ((List Int)×Int):=(g35 x).bind fun r0_9=>bif (decide (r0_9≠0)) then (some ([],r0_9)) else ((g81 x).bind fun (r0_HairBook,mf)=>(g82 r0_HairBook mf).bind fun (r0,r1)=>bif (!r1) then (some ([],4)) else ((slcL r0 0 (r0.length:Int)).bind fun l=>some (l,0)))
theorem k31 (x:HairBook) (r:(List Int)×Int) (h:g31 x=some r):SCall Tryd.prog Gs 31 [.agg [.d (.sl 4 (List.map e65 x.Hanks)),.d (.sl 3 (List.map e67 x.Horses)),jI x.Dark,jI x.Near,jI x.Match]] [] 0 Fr.emp (match r with | (r0_3,r1_3)=>.tup [.d (.sl 1 (List.map e3 r0_3)),jI r1_3]) [] 0 Fr.emp:=by
 unfold g31 at h
 refine SCall.mkK Tryd.func31 c31 rfl rfl (by kernel_rfl) (fun Q_0 hR_0 hN_0=>?_)
 refine Sa (sT [pR 1 0] [(0,.var 61 (cv61 x))] 1 0) ?_
 refine AW.seqK fun K_1 hK_1=>AW.srwK fun Q_2 hQ_2=>?_
 refine Au 1 (sT [pR 1 0,(7,.agg [.d (.sl 4 (List.map e65 x.Hanks)),.d (.sl 3 (List.map e67 x.Horses)),jI x.Dark,jI x.Near,jI x.Match])] [(0,.var 61 (cv61 x))] 1 0) ?_
 obtain ⟨r0_9,hx_3,h⟩:=bsome h
 refine rC (k35 x _ hx_3) ?_
 refine Au 1 (sT [pR 1 0,(4,jI r0_9)] [(0,.var 61 (cv61 x))] 1 0) ?_
 refine RW.nil (hQ_2 _ ?_)
 refine Sa (sT [pR 1 0,(4,jI r0_9),(10,.d (.bool (decide (r0_9≠0))))] [(0,.var 61 (cv61 x))] 1 0) ?_
 refine AW.cond rfl (fun hb_4=>?_) (fun hb_4=>?_)
 ·have h:=ifT hb_4 h
  refine Sa (sT [(2,.d (.nilSl)),(3,jI r0_9)] [] 1 0) ?_
  obtain rfl:=Option.some.inj h
  exact AW.ret (hR_0 _ (retX (.cons (.tmp rfl) (.cons (.tmp rfl) .nil)) (Frz.tup_of ⟨.nil 1,.refl _,trivial⟩) rfl (by kernel_rfl) (by kernel_rfl)))
 ·have h:=ifF hb_4 h
  refine AW.skip (hK_1 _ ?_)
  refine AW.srwK (fun Q_5 hQ_5=>?_)
  refine Au 1 (sT [(13,.agg [.d (.sl 4 (List.map e65 x.Hanks)),.d (.sl 3 (List.map e67 x.Horses)),jI x.Dark,jI x.Near,jI x.Match])] [] 1 0) ?_
  obtain ⟨⟨r0_HairBook,mf⟩,hx_6,h⟩:=bsome h
  refine rC (k81 x _ hx_6) ?_
  obtain ⟨⟨r0,r1⟩,hx_7,h⟩:=bsome h
  refine rC (k82 r0_HairBook mf _ hx_7) ?_
  refine Au 5 (sT [(5,.d (.sl 1 (List.map e3 r0))),(6,.d (.bool r1))] [] 1 0) ?_
  refine RW.nil (hQ_5 _ ?_)
  refine AW.seqK (fun K_8 hK_8=>?_)
  refine Sa (sT [(5,.d (.sl 1 (List.map e3 r0))),(19,.d (.bool (!r1)))] [] 1 0) ?_
  refine AW.cond rfl (fun hb_9=>?_) (fun hb_9=>?_)
  ·have h:=ifT hb_9 h
   refine Sa (sT [(2,.d (.nilSl)),(3,jI 4)] [] 1 0) ?_
   obtain rfl:=Option.some.inj h
   exact AW.ret (hR_0 _ (retX (.cons (.tmp rfl) (.cons (.tmp rfl) .nil)) (Frz.tup_of ⟨.nil 1,.refl _,trivial⟩) rfl (by kernel_rfl) (by kernel_rfl)))
  ·have h:=ifF hb_9 h
   refine AW.skip (hK_8 _ ?_)
   refine AW.srwK (fun Q_10 hQ_10=>?_)
   refine Au 2 (sT [(5,.d (.sl 1 (List.map e3 r0))),(20,.d (.sl 1 (List.map e3 r0))),(21,.d (.sl 1 (List.map e3 r0)))] [] 1 0) ?_
   refine rL rfl ?_
   refine Au 1 (sT [(20,.d (.sl 1 (List.map e3 r0))),(22,jI (r0.length:Int)),(23,.d (.sl 1 (List.map e3 r0)))] [] 1 0) ?_
   refine rL rfl ?_
   obtain ⟨l,hv_11,h⟩:=bsome h
   refine RW.one fokW (r_slN trivial rfl rfl rfl DSl.d (slcL_ok hv_11).2.1 (by rw [List.length_map];exact (slcL_ok hv_11).2.2.1) rfl (slz hv_11 e3) (r_end ?_))
   refine Au 2 (sT [(2,.fsl 1 (List.map e3 l)),(3,jI 0)] [] 1 0) ?_
   refine RW.nil (hQ_10 _ ?_)
   obtain rfl:=Option.some.inj h
   exact AW.ret (hR_0 _ (retX (.cons (.tmp rfl) (.cons (.tmp rfl) .nil)) (Frz.tup_of ⟨.fsl _ _,.refl _,trivial⟩) rfl (by kernel_rfl) (by kernel_rfl)))
def g84_r5:((List Int)×(Nat→Int))→(Unit)→Option (Ctl (Unit) (Unit)):=fun (a,a1) _=>some (.brk ())
def g84 (b_HairBook:HairBook) (mf:List (Hair_dye×Span)):Option Bool:=(g79).bind fun _=>(g86 b_HairBook mf b_HairBook mf).bind fun (o0_HairBook,mf1)=>(g121 (fun a a1 s=>rndC g84_r5 (a,a1) s) o0_HairBook mf1 b_HairBook mf (.next ())).bind fun out_5=>match out_5 with | .next _=>some false | .brk _=>some true
theorem k84 (b_HairBook:HairBook) (mf:List (Hair_dye×Span)) (r:Bool) (h:g84 b_HairBook mf=some r):SCall Tryd.prog Gs 84 [.agg [.d (.sl 4 (List.map e65 b_HairBook.Hanks)),.d (.sl 3 (List.map e67 b_HairBook.Horses)),jI b_HairBook.Dark,jI b_HairBook.Near,jI b_HairBook.Match,.fmp (List.map m124_33 mf)]] [] 0 Fr.emp (.d (.bool r)) [] 0 Fr.emp:=by
 unfold g84 at h
 refine SCall.mkK Tryd.func84 c84 rfl rfl (by kernel_rfl) (fun Q_0 hR_0 hN_0=>?_)
 refine Sa (sT [pR 1 0,pR 2 1] [(1,.var 4 [.d (.bool false)]),(0,.var 119 (catV (cv61 b_HairBook) [.fmp (List.map m124_33 mf)]))] 2 0) ?_
 refine AW.seqK (fun K_1 hK_1=>?_)
 refine AW.sdrwK fokW (fun Q_2 hQ_2=>?_)
 refine aX 1 (sT [pR 1 0,pR 2 1,(3,.agg [.d (.sl 4 (List.map e65 b_HairBook.Hanks)),.d (.sl 3 (List.map e67 b_HairBook.Horses)),jI b_HairBook.Dark,jI b_HairBook.Near,jI b_HairBook.Match,.fmp (List.map m124_33 mf)])] [(1,.var 4 [.d (.bool false)]),(0,.var 119 (catV (cv61 b_HairBook) [.fmp (List.map m124_33 mf)]))] 2 0) ?_
 obtain ⟨⟨⟩,hx_3,h⟩:=bsome h
 refine r_call trivial rfl (k79 _ hx_3) rfl rfl ?_
 refine aX 2 (sT [pR 2 1,(3,.agg [.d (.sl 4 (List.map e65 b_HairBook.Hanks)),.d (.sl 3 (List.map e67 b_HairBook.Horses)),jI b_HairBook.Dark,jI b_HairBook.Near,jI b_HairBook.Match,.fmp (List.map m124_33 mf)]),(4,.agg [.d (.fn 118)]),(6,.clo 87 [.agg [.d (.sl 4 (List.map e65 b_HairBook.Hanks)),.d (.sl 3 (List.map e67 b_HairBook.Horses)),jI b_HairBook.Dark,jI b_HairBook.Near,jI b_HairBook.Match,.fmp (List.map m124_33 mf)]] [])] [(1,.var 4 [.d (.bool false)]),(0,.var 119 (catV (cv61 b_HairBook) [.fmp (List.map m124_33 mf)]))] 2 0) ?_
 obtain ⟨⟨o0_HairBook,mf1⟩,hx_4,h⟩:=bsome h
 refine r_callS (zr:=[]) [] trivial rfl (k86 b_HairBook mf b_HairBook mf _ hx_4) trivial rfl rfl ⟨.refl _,.refl _,.refl _,trivial⟩ rfl rfl rfl ?_
 refine Fi (sT [pR 2 1,(7,.clo 121 [] [.ptr 2 0,.ptr 3 0,.ptr 4 0])] [(2,.var 119 (catV (cv61 o0_HairBook) [.fmp (List.map m124_33 mf1)])),(3,.var 133 [.d (.fn 118)]),(4,.var 108 [.clo 87 [.agg [.d (.sl 4 (List.map e65 b_HairBook.Hanks)),.d (.sl 3 (List.map e67 b_HairBook.Horses)),jI b_HairBook.Dark,jI b_HairBook.Near,jI b_HairBook.Match,.fmp (List.map m124_33 mf)]] []]),(1,.var 4 [.d (.bool false)])] 5 0) ?_
 refine hQ_2 _ ?_
 refine AW.block ?_
 obtain ⟨out_5,hx_5,h⟩:=bsome h
 refine AW.rfX (fun (_:Unit)=>[(5,.dm),(1,.var 4 [.d (.bool false)])]) (fun (_:Unit)=>[(5,.dm),(1,.var 4 [.d (.bool true)])]) (fun _=>some .ret) g84_r5 (fun (⟨a,a1⟩:(List Int)×(Nat→Int))=>[.d (.sl 1 (List.map e3 a)),.agg [jI (a1 0),jI (a1 1),jI (a1 2),jI (a1 3),jI (a1 4)]]) (s0:=()) (out:=out_5) [pR 2 1] [(1,.var 4 [.d (.bool false)])] [2,3,4] rfl (.clo _ _ _) (by kernel_rfl) (by kernel_rfl) (fun fr_ hY_5=>k121 fr_ _ (fun a a1 s s2 b h=>hY_5 (a,a1) s s2 b h) o0_HairBook mf1 b_HairBook mf (.next ()) _ hx_5) (by kernel_rfl) ⟨rfl,rfl,rfl,trivial⟩ rfl ⟨rfl,rfl⟩ rfl rfl (fun _=>rfl) (fun _=>rfl) (fun a_5 s_5 c_5 h l_5=>?_) (fun _=>rfl) ?_
 ·obtain ⟨a,a1⟩:=a_5
  unfold g84_r5 at h
  refine AW.skip ?_
  refine AW.block ?_
  refine AW.sa (fokR l_5) [] (sT [pR 2 1] [(1,.var 4 [.d (.bool true)]),(5,.dm)] 6 6) (by kernel_rfl) ?_
  refine AW.ret ?_
  obtain rfl:=Option.some.inj h
  exact ⟨(sT [] [(5,.dm),(1,.var 4 [.d (.bool true)])] 6 6),Can.kp (by kernel_rfl),rdX trivial rfl (by kernel_rfl) (by kernel_rfl)⟩
 ·rcases out_5 with _ | _
  ·refine hK_1 _ ?_
   refine Sa ⟨[pR 2 1],[(1,.var 4 [.d (.bool false)]),(5,.dm)],6,Fr.emp,[5],0⟩ ?_
   obtain rfl:=Option.some.inj h
   exact rT hR_0 (.cons (.one rfl rfl rfl) .nil)
  ·obtain rfl:=Option.some.inj h
   exact hR_0 _ (retX (.cons (.one rfl rfl rfl) .nil) (.refl _) rfl (by kernel_rfl) (by kernel_rfl))
def g137 (x:Int):Option Bool:=some (decide (x≠x))
theorem k137 (x:Int) (r:Bool) (h:g137 x=some r):SCall Tryd.prog Gs 137 [jI x] [] 0 Fr.emp (.d (.bool r)) [] 0 Fr.emp:=by
 unfold g137 at h
 refine SCall.mkK Tryd.func137 c137 rfl rfl (by kernel_rfl) (fun Q_0 hR_0 hN_0=>?_)
 refine Sa (sT [(0,jI x)] [] 0 0) ?_
 refine Sa (sT [(2,.d (.bool (decide (x≠x))))] [] 0 0) ?_
 obtain rfl:=Option.some.inj h
 exact rT hR_0 (.cons (.tmp rfl) .nil)
def g120 (x:Int) (y:Int):Option Int:=(g137 x).bind fun r0=>(g137 y).bind fun r0_1=>bif r0 then (bif r0_1 then (some 0) else (some (-1))) else (bif r0_1 then (some 1) else (bif (decide (x<y)) then (some (-1)) else (bif (decide (y<x)) then (some 1) else (some 0))))
theorem k120 (x:Int) (y:Int) (r:Int) (h:g120 x y=some r):SCall Tryd.prog Gs 120 [jI x,jI y] [] 0 Fr.emp (jI r) [] 0 Fr.emp:=by
 unfold g120 at h
 refine SCall.mkK Tryd.func120 c120 rfl rfl (by kernel_rfl) (fun Q_0 hR_0 hN_0=>?_)
 refine Sa (sT [(0,jI x),(1,jI y)] [] 0 0) ?_
 refine AW.srwK (fun Q_1 hQ_1=>?_)
 refine Au 1 (sT [(0,jI x),(1,jI y),(7,jI x)] [] 0 0) ?_
 obtain ⟨r0,hx_2,h⟩:=bsome h
 refine rC (k137 x _ hx_2) ?_
 refine Au 1 (sT [(0,jI x),(1,jI y),(5,.d (.bool r0))] [] 0 0) ?_
 refine RW.nil (hQ_1 _ ?_)
 refine AW.srwK (fun Q_3 hQ_3=>?_)
 refine Au 1 (sT [(0,jI x),(1,jI y),(5,.d (.bool r0)),(9,jI y)] [] 0 0) ?_
 obtain ⟨r0_1,hx_4,h⟩:=bsome h
 refine rC (k137 y _ hx_4) ?_
 refine Au 1 (sT [(0,jI x),(1,jI y),(5,.d (.bool r0)),(6,.d (.bool r0_1))] [] 0 0) ?_
 refine RW.nil (hQ_3 _ ?_)
 refine AW.seqK (fun K_5 hK_5=>?_)
 refine Sa (sT [(0,jI x),(1,jI y),(6,.d (.bool r0_1)),(11,.d (.bool r0))] [] 0 0) ?_
 refine AW.cond rfl (fun hb_6=>?_) (fun hb_6=>?_)
 ·have h:=ifT hb_6 h
  refine AW.seqK (fun K_7 hK_7=>?_)
  refine Sa (sT [(12,.d (.bool r0_1))] [] 0 0) ?_
  refine AW.cond rfl (fun hb_8=>?_) (fun hb_8=>?_)
  ·have h:=ifT hb_8 h
   refine Sa (sT [(4,jI 0)] [] 0 0) ?_
   obtain rfl:=Option.some.inj h
   exact rT hR_0 (.cons (.tmp rfl) .nil)
  ·have h:=ifF hb_8 h
   refine AW.skip (hK_7 _ ?_)
   refine Sa (sT [(4,jI (-1))] [] 0 0) ?_
   obtain rfl:=Option.some.inj h
   exact rT hR_0 (.cons (.tmp rfl) .nil)
 ·have h:=ifF hb_6 h
  refine AW.skip (hK_5 _ ?_)
  refine AW.seqK (fun K_9 hK_9=>?_)
  refine Sa (sT [(0,jI x),(1,jI y),(13,.d (.bool r0_1))] [] 0 0) ?_
  refine AW.cond rfl (fun hb_10=>?_) (fun hb_10=>?_)
  ·have h:=ifT hb_10 h
   refine Sa (sT [(4,jI 1)] [] 0 0) ?_
   obtain rfl:=Option.some.inj h
   exact rT hR_0 (.cons (.tmp rfl) .nil)
  ·have h:=ifF hb_10 h
   refine AW.skip (hK_9 _ ?_)
   refine AW.seqK (fun K_11 hK_11=>?_)
   refine Sa (sT [(0,jI x),(1,jI y),(16,.d (.bool (decide (x<y))))] [] 0 0) ?_
   refine AW.cond rfl (fun hb_12=>?_) (fun hb_12=>?_)
   ·have h:=ifT hb_12 h
    refine Sa (sT [(4,jI (-1))] [] 0 0) ?_
    obtain rfl:=Option.some.inj h
    exact rT hR_0 (.cons (.tmp rfl) .nil)
   ·have h:=ifF hb_12 h
    refine AW.skip (hK_11 _ ?_)
    refine AW.seqK (fun K_13 hK_13=>?_)
    refine Sa (sT [(19,.d (.bool (decide (y<x))))] [] 0 0) ?_
    refine AW.cond rfl (fun hb_14=>?_) (fun hb_14=>?_)
    ·have h:=ifT hb_14 h
     refine Sa (sT [(4,jI 1)] [] 0 0) ?_
     obtain rfl:=Option.some.inj h
     exact rT hR_0 (.cons (.tmp rfl) .nil)
    ·have h:=ifF hb_14 h
     refine AW.skip (hK_13 _ ?_)
     refine Sa (sT [(4,jI 0)] [] 0 0) ?_
     obtain rfl:=Option.some.inj h
     exact rT hR_0 (.cons (.tmp rfl) .nil)
def g83_3 (s2:(List Int)):Int→Int→Unit→Option (Ctl (Unit) (Int)):=fun v p _=>bif (decide ((s2.length:Int)≤v)) then (some (.brk 1)) else ((ixL s2 v).bind fun p1=>(g120 p p1).bind fun r0_7=>bif (decide (r0_7≠0)) then (some (.brk r0_7)) else (some (.next ())))
def g83 (s1:(List Int)) (s2:(List Int)):Option Int:=bindC (eachC (g83_3 s2) s1 0 ()) fun _=>bif (decide ((s1.length:Int)<(s2.length:Int))) then (some (-1)) else (some 0)
theorem k83 (s1:(List Int)) (s2:(List Int)) (r:Int) (h:g83 s1 s2=some r):SCall Tryd.prog Gs 83 [.d (.sl 1 (List.map e3 s1)),.d (.sl 1 (List.map e3 s2))] [] 0 Fr.emp (jI r) [] 0 Fr.emp:=by
 unfold g83 at h
 refine SCall.mkK Tryd.func83 c83 rfl rfl (by kernel_rfl) (fun Q_0 hR_0 hN_0=>?_)
 refine Sa (sT [(0,.d (.sl 1 (List.map e3 s1))),(1,.d (.sl 1 (List.map e3 s2)))] [] 0 0) ?_
 refine AW.seqK fun K_1 hK_1=>AW.srwK fun Q_2 hQ_2=>?_
 refine Au 1 (sT [(0,.d (.sl 1 (List.map e3 s1))),(1,.d (.sl 1 (List.map e3 s2))),(9,.d (.sl 1 (List.map e3 s1)))] [] 0 0) ?_
 refine rL rfl ?_
 refine Au 1 (sT [(0,.d (.sl 1 (List.map e3 s1))),(1,.d (.sl 1 (List.map e3 s2))),(9,.d (.sl 1 (List.map e3 s1))),(10,jI (s1.length:Int)),(11,jI 0)] [] 0 0) ?_
 refine RW.nil (hQ_2 _ ?_)
 refine AW.block ?_
 refine AW.sln (t:=0) rfl (fun hN_3=>?_)
 rw [List.length_map] at hN_3
 obtain ⟨out_3,hx_3,hk_3⟩:=bsomeC h
 refine AW.evCK (fun (v:Int) (_:Unit)=>(sT [(0,.d (.sl 1 (List.map e3 s1))),(1,.d (.sl 1 (List.map e3 s2))),(9,.d (.sl 1 (List.map e3 s1))),(10,jI (s1.length:Int)),(11,jI v)] [] 0 0)) (g83_3 s2) hx_3 (Can.kp (by kernel_rfl)) (fun v p s_3 hi_3 hl_3 hp_3 c_3 h hb_3 K_3 hK_3=>?_) (fun v s_3 hi_3 hl_3 hout=>?_)
 ·unfold g83_3 at h
  refine Sa (sT [(0,.d (.sl 1 (List.map e3 s1))),(1,.d (.sl 1 (List.map e3 s2))),(9,.d (.sl 1 (List.map e3 s1))),(10,jI (s1.length:Int)),(11,jI v),(12,.d (.bool (decide (v<(s1.length:Int)))))] [] 0 0) ?_
  refine AW.seqK (fun K_4 hK_4=>?_)
  refine AW.cond rfl (fun hb_5=>?_) (fun hb_5=>False.elim (by have:=of_decide_eq_false hb_5;omega))
  refine AW.skip (hK_4 _ ?_)
  refine AW.seqK (fun K_6 hK_6=>?_)
  refine AW.block ?_
  refine AW.srwK (fun Q_7 hQ_7=>?_)
  refine Au 1 (sT [(0,.d (.sl 1 (List.map e3 s1))),(1,.d (.sl 1 (List.map e3 s2))),(9,.d (.sl 1 (List.map e3 s1))),(10,jI (s1.length:Int)),(11,jI v),(13,jI v)] [] 0 0) ?_
  refine RW.one fokW (r_iaD trivial rfl rfl hi_3 (row:=e3 p) (mapget hp_3) (r_end ?_))
  refine Au 3 (sT [(0,.d (.sl 1 (List.map e3 s1))),(1,.d (.sl 1 (List.map e3 s2))),(5,jI v),(6,jI p),(9,.d (.sl 1 (List.map e3 s1))),(10,jI (s1.length:Int)),(11,jI v)] [] 0 0) ?_
  refine RW.nil (hQ_7 _ ?_)
  refine AW.seqK fun K_8 hK_8=>AW.srwK fun Q_9 hQ_9=>?_
  refine Au 2 (sT [(0,.d (.sl 1 (List.map e3 s1))),(1,.d (.sl 1 (List.map e3 s2))),(5,jI v),(6,jI p),(9,.d (.sl 1 (List.map e3 s1))),(10,jI (s1.length:Int)),(11,jI v),(16,jI v),(17,.d (.sl 1 (List.map e3 s2)))] [] 0 0) ?_
  refine rL rfl ?_
  refine Au 1 (sT [(0,.d (.sl 1 (List.map e3 s1))),(1,.d (.sl 1 (List.map e3 s2))),(5,jI v),(6,jI p),(9,.d (.sl 1 (List.map e3 s1))),(10,jI (s1.length:Int)),(11,jI v),(19,.d (.bool (decide ((s2.length:Int)≤v))))] [] 0 0) ?_
  refine RW.nil (hQ_9 _ ?_)
  refine AW.cond rfl (fun hb_10=>?_) (fun hb_10=>?_)
  ·have h:=ifT hb_10 h
   refine Sa (sT [(4,jI 1)] [] 0 0) ?_
   obtain rfl:=Option.some.inj h
   have e_1:=hb_3 _ rfl
   subst e_1
   obtain rfl:=Aft.bk hk_3
   exact rT hR_0 (.cons (.tmp rfl) .nil)
  ·have h:=ifF hb_10 h
   refine AW.skip (hK_8 _ ?_)
   refine AW.srwK (fun Q_11 hQ_11=>?_)
   refine Au 2 (sT [(0,.d (.sl 1 (List.map e3 s1))),(1,.d (.sl 1 (List.map e3 s2))),(6,jI p),(9,.d (.sl 1 (List.map e3 s1))),(10,jI (s1.length:Int)),(11,jI v),(20,.d (.sl 1 (List.map e3 s2))),(21,jI v)] [] 0 0) ?_
   obtain ⟨p1,hv_12,h⟩:=bsome h
   refine RW.one fokW (r_iaD trivial rfl rfl (ixL_ok hv_12).1 (row:=e3 p1) (mapget (ixL_ok hv_12).2) (r_end ?_))
   refine Au 2 (sT [(0,.d (.sl 1 (List.map e3 s1))),(1,.d (.sl 1 (List.map e3 s2))),(6,jI p),(7,jI p1),(9,.d (.sl 1 (List.map e3 s1))),(10,jI (s1.length:Int)),(11,jI v)] [] 0 0) ?_
   refine RW.nil (hQ_11 _ ?_)
   refine AW.srwK (fun Q_13 hQ_13=>?_)
   refine Au 2 (sT [(0,.d (.sl 1 (List.map e3 s1))),(1,.d (.sl 1 (List.map e3 s2))),(9,.d (.sl 1 (List.map e3 s1))),(10,jI (s1.length:Int)),(11,jI v),(24,jI p),(25,jI p1)] [] 0 0) ?_
   obtain ⟨r0_7,hx_14,h⟩:=bsome h
   refine rC (k120 p p1 _ hx_14) ?_
   refine Au 1 (sT [(0,.d (.sl 1 (List.map e3 s1))),(1,.d (.sl 1 (List.map e3 s2))),(8,jI r0_7),(9,.d (.sl 1 (List.map e3 s1))),(10,jI (s1.length:Int)),(11,jI v)] [] 0 0) ?_
   refine RW.nil (hQ_13 _ ?_)
   refine Sa (sT [(0,.d (.sl 1 (List.map e3 s1))),(1,.d (.sl 1 (List.map e3 s2))),(8,jI r0_7),(9,.d (.sl 1 (List.map e3 s1))),(10,jI (s1.length:Int)),(11,jI v),(28,.d (.bool (decide (r0_7≠0))))] [] 0 0) ?_
   refine AW.cond rfl (fun hb_15=>?_) (fun hb_15=>?_)
   ·have h:=ifT hb_15 h
    refine Sa (sT [(4,jI r0_7)] [] 0 0) ?_
    obtain rfl:=Option.some.inj h
    have e_1:=hb_3 _ rfl
    subst e_1
    obtain rfl:=Aft.bk hk_3
    exact rT hR_0 (.cons (.tmp rfl) .nil)
   ·have h:=ifF hb_15 h
    refine AW.skip (hK_6 _ ?_)
    refine Ra (sT [(0,.d (.sl 1 (List.map e3 s1))),(1,.d (.sl 1 (List.map e3 s2))),(9,.d (.sl 1 (List.map e3 s1))),(10,jI (s1.length:Int)),(11,jI (wr (v+1)))] [] 0 0) ?_
    obtain rfl:=Option.some.inj h
    have ew:wr (v+1)=v+1:=inext (N:=(s1.length:Int)) (by omega) (by omega) (by omega)
    rw [ew]
    exact hK_3 _ _ rfl (Can.kp (by kernel_rfl))
 ·subst hout
  have h:=Aft.nx hk_3
  refine Sa (sT [(0,.d (.sl 1 (List.map e3 s1))),(1,.d (.sl 1 (List.map e3 s2))),(9,.d (.sl 1 (List.map e3 s1))),(10,jI (s1.length:Int)),(11,jI v),(12,.d (.bool (decide (v<(s1.length:Int)))))] [] 0 0) ?_
  refine AW.seqK (fun K_16 hK_16=>?_)
  refine AW.cond rfl (fun hb_17=>False.elim (by have:=of_decide_eq_true hb_17;omega)) (fun hb_17=>?_)
  refine AW.exit ?_
  refine hK_1 _ ?_
  refine AW.seqK fun K_18 hK_18=>AW.srwK fun Q_19 hQ_19=>?_
  refine Au 1 (sT [(1,.d (.sl 1 (List.map e3 s2))),(31,.d (.sl 1 (List.map e3 s1)))] [] 0 0) ?_
  refine rL rfl ?_
  refine Au 1 (sT [(32,jI (s1.length:Int)),(33,.d (.sl 1 (List.map e3 s2)))] [] 0 0) ?_
  refine rL rfl ?_
  refine Au 1 (sT [(35,.d (.bool (decide ((s1.length:Int)<(s2.length:Int)))))] [] 0 0) ?_
  refine RW.nil (hQ_19 _ ?_)
  refine AW.cond rfl (fun hb_20=>?_) (fun hb_20=>?_)
  ·have h:=ifT hb_20 h
   refine Sa (sT [(4,jI (-1))] [] 0 0) ?_
   obtain rfl:=Option.some.inj h
   exact rT hR_0 (.cons (.tmp rfl) .nil)
  ·have h:=ifF hb_20 h
   refine AW.skip (hK_18 _ ?_)
   refine Sa (sT [(4,jI 0)] [] 0 0) ?_
   obtain rfl:=Option.some.inj h
   exact rT hR_0 (.cons (.tmp rfl) .nil)
def g32_14 (v1:Int):Int→HairHorse→((List Int)×(List HairHorse))→Option ((List Int)×(List HairHorse)):=fun v2 p (l,l1)=>(must (decide (0≤v2))).bind fun _=>bif (decide ((bAnd (shr64 v1 v2) 1)=1)) then ((appL 8 l [v2]).bind fun l2=>some (l2,l1)) else ((appL 24 l1 [p]).bind fun l3=>some (l,l3))
def g32_8 (x:HairBook):Int→((List Int)×Bool)→Option ((List Int)×Bool):=fun v1 (best1,found1)=>(eachS (g32_14 v1) x.Horses 0 (([],[]):(List Int)×(List HairHorse))).bind fun (l,l1)=>(bif found1 then (bif (decide ((best1.length:Int)<(l.length:Int))) then (some true) else (bif (decide ((l.length:Int)=(best1.length:Int))) then ((g83 l best1).bind fun r0_3=>some (decide (0≤r0_3))) else (some false))) else (some false)).bind fun v3=>bif v3 then (some (best1,found1)) else ((g81 (HairBook.mk x.Hanks l1 x.Dark x.Near x.Match)).bind fun (r0_HairBook,mf)=>(g84 r0_HairBook mf).bind fun r0_1=>bif r0_1 then (some (l,true)) else (some (best1,found1)))
def g32 (x:HairBook):Option ((List Int)×Int):=(g35 x).bind fun r0_9=>bif (decide (r0_9≠0)) then (some ([],r0_9)) else ((must (decide (0≤(x.Horses.length:Int)))).bind fun _=>(must (decide ((shl64 1 (x.Horses.length:Int))≤9223372036854775807))).bind fun _=>(forS (g32_8 x) ((((shl64 1 (x.Horses.length:Int)):Int) - 0).toNat) 0 (([],false):(List Int)×Bool)).bind fun (best1,found1)=>(slcL best1 0 (best1.length:Int)).bind fun l4=>some (l4,0))
theorem k32 (x:HairBook) (r:(List Int)×Int) (h:g32 x=some r):SCall Tryd.prog Gs 32 [.agg [.d (.sl 4 (List.map e65 x.Hanks)),.d (.sl 3 (List.map e67 x.Horses)),jI x.Dark,jI x.Near,jI x.Match]] [] 0 Fr.emp (match r with | (r0_2,r1_1)=>.tup [.d (.sl 1 (List.map e3 r0_2)),jI r1_1]) [] 0 Fr.emp:=by
 unfold g32 at h
 refine SCall.mkK Tryd.func32 c32 rfl rfl (by kernel_rfl) (fun Q_0 hR_0 hN_0=>?_)
 refine Sa (sT [pR 1 0] [(0,.var 61 (cv61 x))] 1 0) ?_
 refine AW.seqK fun K_1 hK_1=>AW.srwK fun Q_2 hQ_2=>?_
 refine Au 1 (sT [pR 1 0,(12,.agg [.d (.sl 4 (List.map e65 x.Hanks)),.d (.sl 3 (List.map e67 x.Horses)),jI x.Dark,jI x.Near,jI x.Match])] [(0,.var 61 (cv61 x))] 1 0) ?_
 obtain ⟨r0_9,hx_3,h⟩:=bsome h
 refine rC (k35 x _ hx_3) ?_
 refine Au 1 (sT [pR 1 0,(4,jI r0_9)] [(0,.var 61 (cv61 x))] 1 0) ?_
 refine RW.nil (hQ_2 _ ?_)
 refine Sa (sT [pR 1 0,(4,jI r0_9),(15,.d (.bool (decide (r0_9≠0))))] [(0,.var 61 (cv61 x))] 1 0) ?_
 refine AW.cond rfl (fun hb_4=>?_) (fun hb_4=>?_)
 ·have h:=ifT hb_4 h
  refine Sa (sT [(2,.d (.nilSl)),(3,jI r0_9)] [] 1 0) ?_
  obtain rfl:=Option.some.inj h
  exact AW.ret (hR_0 _ (retX (.cons (.tmp rfl) (.cons (.tmp rfl) .nil)) (Frz.tup_of ⟨.nil 1,.refl _,trivial⟩) rfl (by kernel_rfl) (by kernel_rfl)))
 ·have h:=ifF hb_4 h
  refine AW.skip (hK_1 _ ?_)
  refine Sa (sT [pR 1 0,(5,.d (.nilSl))] [(0,.var 61 (cv61 x))] 1 0) ?_
  refine Sa (sT [pR 1 0,(5,.d (.nilSl)),(6,.d (.bool false))] [(0,.var 61 (cv61 x))] 1 0) ?_
  refine AW.seqK fun K_5 hK_5=>AW.srwK fun Q_6 hQ_6=>?_
  refine Au 2 (sT [pR 1 0,(5,.d (.nilSl)),(6,.d (.bool false)),(18,.d (.sl 3 (List.map e67 x.Horses)))] [(0,.var 61 (cv61 x))] 1 0) ?_
  refine rL rfl ?_
  obtain ⟨_,hv_7,h⟩:=bsome h
  refine RW.one fokW (r_sh trivial rfl rfl (shl64_ok (of_decide_eq_true (must_ok hv_7))) (r_end ?_))
  refine Au 1 (sT [pR 1 0,(5,.d (.nilSl)),(6,.d (.bool false)),(20,jI (shl64 1 (x.Horses.length:Int))),(21,jI 0)] [(0,.var 61 (cv61 x))] 1 0) ?_
  refine RW.nil (hQ_6 _ ?_)
  refine AW.block ?_
  obtain ⟨_,hN_8,h⟩:=bsome h
  have hN_8:=of_decide_eq_true (must_ok hN_8)
  obtain ⟨out_8,hx_8,h⟩:=bsome h
  refine AW.lpSK (fun (v1:Int) (⟨best1,found1⟩:(List Int)×Bool)=>(sT [pR 1 0,(5,.d (.sl 1 (List.map e3 best1))),(6,.d (.bool found1)),(20,jI (shl64 1 (x.Horses.length:Int))),(21,jI v1)] [(0,.var 61 (cv61 x))] 1 0)) (g32_8 x) ((shl64 1 (x.Horses.length:Int))) hx_8 (Can.trans (Can.wkE 5 1 rfl) (Can.kp (by kernel_rfl))) (fun v1 s_8 hi_8 hl_8 c_8 h K_8 hK_8=>?_) (fun v1 s_8 hi_8 hl_8 hout=>?_)
  ·obtain ⟨best1,found1⟩:=s_8
   unfold g32_8 at h
   refine Sa (sT [pR 1 0,(5,.d (.sl 1 (List.map e3 best1))),(6,.d (.bool found1)),(20,jI (shl64 1 (x.Horses.length:Int))),(21,jI v1),(22,.d (.bool (decide (v1<(shl64 1 (x.Horses.length:Int))))))] [(0,.var 61 (cv61 x))] 1 0) ?_
   refine AW.seqK (fun K_9 hK_9=>?_)
   refine AW.cond rfl (fun hb_10=>?_) (fun hb_10=>False.elim (by have:=of_decide_eq_false hb_10;omega))
   refine AW.skip (hK_9 _ ?_)
   refine AW.seqK (fun K_11 hK_11=>?_)
   refine AW.block ?_
   refine Sa (sT [pR 1 0,(5,.d (.sl 1 (List.map e3 best1))),(6,.d (.bool found1)),(7,jI v1),(20,jI (shl64 1 (x.Horses.length:Int))),(21,jI v1)] [(0,.var 61 (cv61 x))] 1 0) ?_
   refine Sa (sT [pR 1 0,(5,.d (.sl 1 (List.map e3 best1))),(6,.d (.bool found1)),(7,jI v1),pR 8 1,(20,jI (shl64 1 (x.Horses.length:Int))),(21,jI v1)] [(1,.var 61 (cv61 x)),(0,.var 61 (cv61 x))] 2 0) ?_
   refine Sa (sT [pR 1 0,(5,.d (.sl 1 (List.map e3 best1))),(6,.d (.bool found1)),(7,jI v1),pR 8 1,(20,jI (shl64 1 (x.Horses.length:Int))),(21,jI v1)] [(1,.var 61 [.d (.sl 4 (List.map e65 x.Hanks)),.d (.nilSl),jI x.Dark,jI x.Near,jI x.Match]),(0,.var 61 (cv61 x))] 2 0) ?_
   refine Sa (sT [pR 1 0,(5,.d (.sl 1 (List.map e3 best1))),(6,.d (.bool found1)),(7,jI v1),pR 8 1,(9,.d (.nilSl)),(20,jI (shl64 1 (x.Horses.length:Int))),(21,jI v1)] [(1,.var 61 [.d (.sl 4 (List.map e65 x.Hanks)),.d (.nilSl),jI x.Dark,jI x.Near,jI x.Match]),(0,.var 61 (cv61 x))] 2 0) ?_
   refine AW.seqK fun K_12 hK_12=>AW.srwK fun Q_13 hQ_13=>?_
   refine Au 2 (sT [pR 1 0,(5,.d (.sl 1 (List.map e3 best1))),(6,.d (.bool found1)),(7,jI v1),pR 8 1,(9,.d (.nilSl)),(20,jI (shl64 1 (x.Horses.length:Int))),(21,jI v1),(27,.d (.sl 3 (List.map e67 x.Horses)))] [(1,.var 61 [.d (.sl 4 (List.map e65 x.Hanks)),.d (.nilSl),jI x.Dark,jI x.Near,jI x.Match]),(0,.var 61 (cv61 x))] 2 0) ?_
   refine rL rfl ?_
   refine Au 1 (sT [pR 1 0,(5,.d (.sl 1 (List.map e3 best1))),(6,.d (.bool found1)),(7,jI v1),pR 8 1,(9,.d (.nilSl)),(20,jI (shl64 1 (x.Horses.length:Int))),(21,jI v1),(27,.d (.sl 3 (List.map e67 x.Horses))),(28,jI (x.Horses.length:Int)),(29,jI 0)] [(1,.var 61 [.d (.sl 4 (List.map e65 x.Hanks)),.d (.nilSl),jI x.Dark,jI x.Near,jI x.Match]),(0,.var 61 (cv61 x))] 2 0) ?_
   refine RW.nil (hQ_13 _ ?_)
   refine AW.block ?_
   refine AW.sln (t:=27) rfl (fun hN_14=>?_)
   rw [List.length_map] at hN_14
   obtain ⟨out_14,hx_14,h⟩:=bsome h
   refine AW.evSK (fun (v2:Int) (⟨l,l1⟩:(List Int)×(List HairHorse))=>(sT [pR 1 0,(5,.d (.sl 1 (List.map e3 best1))),(6,.d (.bool found1)),(7,jI v1),pR 8 1,(9,.own 2 (List.map e3 l).length),(20,jI (shl64 1 (x.Horses.length:Int))),(21,jI v1),(27,.d (.sl 3 (List.map e67 x.Horses))),(28,jI (x.Horses.length:Int)),(29,jI v2)] [(1,.var 61 [.d (.sl 4 (List.map e65 x.Hanks)),.own 3 (List.map e67 l1).length,jI x.Dark,jI x.Near,jI x.Match]),(3,.row 67 3 (List.map e67 l1)),(2,.row 3 1 (List.map e3 l)),(0,.var 61 (cv61 x))] 4 0)) (g32_14 v1) hx_14 (Can.trans (Can.thawT 9 3 1 rfl rfl) (Can.trans (Can.thawH 1 1 61 67 3 rfl rfl rfl) (Can.kp (by kernel_rfl)))) (fun v2 p s_14 hi_14 hl_14 hp_14 c_14 h K_14 hK_14=>?_) (fun v2 s_14 hi_14 hl_14 hout=>?_)
   ·obtain ⟨l,l1⟩:=s_14
    unfold g32_14 at h
    refine Sa (sT [pR 1 0,(5,.d (.sl 1 (List.map e3 best1))),(6,.d (.bool found1)),(7,jI v1),pR 8 1,(9,.own 2 (List.map e3 l).length),(20,jI (shl64 1 (x.Horses.length:Int))),(21,jI v1),(27,.d (.sl 3 (List.map e67 x.Horses))),(28,jI (x.Horses.length:Int)),(29,jI v2),(30,.d (.bool (decide (v2<(x.Horses.length:Int)))))] [(1,.var 61 [.d (.sl 4 (List.map e65 x.Hanks)),.own 3 (List.map e67 l1).length,jI x.Dark,jI x.Near,jI x.Match]),(3,.row 67 3 (List.map e67 l1)),(2,.row 3 1 (List.map e3 l)),(0,.var 61 (cv61 x))] 4 0) ?_
    refine AW.seqK (fun K_15 hK_15=>?_)
    refine AW.cond rfl (fun hb_16=>?_) (fun hb_16=>False.elim (by have:=of_decide_eq_false hb_16;omega))
    refine AW.skip (hK_15 _ ?_)
    refine AW.seqK (fun K_17 hK_17=>?_)
    refine AW.block ?_
    refine AW.srwK (fun Q_18 hQ_18=>?_)
    refine Au 1 (sT [pR 1 0,(5,.d (.sl 1 (List.map e3 best1))),(6,.d (.bool found1)),(7,jI v1),pR 8 1,(9,.own 2 (List.map e3 l).length),(20,jI (shl64 1 (x.Horses.length:Int))),(21,jI v1),(27,.d (.sl 3 (List.map e67 x.Horses))),(28,jI (x.Horses.length:Int)),(29,jI v2),(31,jI v2)] [(1,.var 61 [.d (.sl 4 (List.map e65 x.Hanks)),.own 3 (List.map e67 l1).length,jI x.Dark,jI x.Near,jI x.Match]),(3,.row 67 3 (List.map e67 l1)),(2,.row 3 1 (List.map e3 l)),(0,.var 61 (cv61 x))] 4 0) ?_
    refine RW.one fokW (r_iaD trivial rfl rfl hi_14 (row:=e67 p) (mapget hp_14) (r_end ?_))
    refine Au 4 (sT [pR 1 0,(5,.d (.sl 1 (List.map e3 best1))),(6,.d (.bool found1)),(7,jI v1),pR 8 1,(9,.own 2 (List.map e3 l).length),(10,jI v2),pR 11 4,(20,jI (shl64 1 (x.Horses.length:Int))),(21,jI v1),(27,.d (.sl 3 (List.map e67 x.Horses))),(28,jI (x.Horses.length:Int)),(29,jI v2)] [(4,.var 67 [jI p.Mane,jI p.Tail,jI p.Shade]),(1,.var 61 [.d (.sl 4 (List.map e65 x.Hanks)),.own 3 (List.map e67 l1).length,jI x.Dark,jI x.Near,jI x.Match]),(3,.row 67 3 (List.map e67 l1)),(2,.row 3 1 (List.map e3 l)),(0,.var 61 (cv61 x))] 5 0) ?_
    refine RW.nil (hQ_18 _ ?_)
    refine AW.srwK (fun Q_19 hQ_19=>?_)
    refine Au 2 (sT [pR 1 0,(5,.d (.sl 1 (List.map e3 best1))),(6,.d (.bool found1)),(7,jI v1),pR 8 1,(9,.own 2 (List.map e3 l).length),(10,jI v2),pR 11 4,(20,jI (shl64 1 (x.Horses.length:Int))),(21,jI v1),(27,.d (.sl 3 (List.map e67 x.Horses))),(28,jI (x.Horses.length:Int)),(29,jI v2),(34,jI v1),(35,jI v2)] [(4,.var 67 [jI p.Mane,jI p.Tail,jI p.Shade]),(1,.var 61 [.d (.sl 4 (List.map e65 x.Hanks)),.own 3 (List.map e67 l1).length,jI x.Dark,jI x.Near,jI x.Match]),(3,.row 67 3 (List.map e67 l1)),(2,.row 3 1 (List.map e3 l)),(0,.var 61 (cv61 x))] 5 0) ?_
    obtain ⟨_,hv_20,h⟩:=bsome h
    refine RW.one fokW (r_sh trivial rfl rfl (shr64_ok (of_decide_eq_true (must_ok hv_20))) (r_end ?_))
    refine Au 2 (sT [pR 1 0,(5,.d (.sl 1 (List.map e3 best1))),(6,.d (.bool found1)),(7,jI v1),pR 8 1,(9,.own 2 (List.map e3 l).length),(10,jI v2),pR 11 4,(20,jI (shl64 1 (x.Horses.length:Int))),(21,jI v1),(27,.d (.sl 3 (List.map e67 x.Horses))),(28,jI (x.Horses.length:Int)),(29,jI v2),(38,.d (.bool (decide ((bAnd (shr64 v1 v2) 1)=1))))] [(4,.var 67 [jI p.Mane,jI p.Tail,jI p.Shade]),(1,.var 61 [.d (.sl 4 (List.map e65 x.Hanks)),.own 3 (List.map e67 l1).length,jI x.Dark,jI x.Near,jI x.Match]),(3,.row 67 3 (List.map e67 l1)),(2,.row 3 1 (List.map e3 l)),(0,.var 61 (cv61 x))] 5 0) ?_
    refine RW.nil (hQ_19 _ ?_)
    refine AW.cond rfl (fun hb_21=>?_) (fun hb_21=>?_)
    ·have h:=ifT hb_21 h
     refine AW.rw ?_
     refine Au 3 (sT [pR 1 0,(5,.d (.sl 1 (List.map e3 best1))),(6,.d (.bool found1)),(7,jI v1),pR 8 1,(20,jI (shl64 1 (x.Horses.length:Int))),(21,jI v1),(27,.d (.sl 3 (List.map e67 x.Horses))),(28,jI (x.Horses.length:Int)),(29,jI v2),(39,.own 2 (List.map e3 l).length),(41,.own 5 (List.map e3 [v2]).length)] [(5,.row 3 1 (List.map e3 [v2])),(1,.var 61 [.d (.sl 4 (List.map e65 x.Hanks)),.own 3 (List.map e67 l1).length,jI x.Dark,jI x.Near,jI x.Match]),(3,.row 67 3 (List.map e67 l1)),(2,.row 3 1 (List.map e3 l)),(0,.var 61 (cv61 x))] 6 0) ?_
     obtain ⟨l2,hv_23,h⟩:=bsome h
     refine RW.one fokW (r_apO trivial rfl rfl rfl rfl rfl rfl (apz hv_23 e3) (apr hv_23 e3) (r_end ?_))
     refine Au 1 (sT [pR 1 0,(5,.d (.sl 1 (List.map e3 best1))),(6,.d (.bool found1)),(7,jI v1),pR 8 1,(9,.own 2 (List.map e3 l2).length),(20,jI (shl64 1 (x.Horses.length:Int))),(21,jI v1),(27,.d (.sl 3 (List.map e67 x.Horses))),(28,jI (x.Horses.length:Int)),(29,jI v2)] [(2,.row 3 1 (List.map e3 l2)),(1,.var 61 [.d (.sl 4 (List.map e65 x.Hanks)),.own 3 (List.map e67 l1).length,jI x.Dark,jI x.Near,jI x.Match]),(3,.row 67 3 (List.map e67 l1)),(0,.var 61 (cv61 x))] 6 0) ?_
     refine RW.nil ?_
     refine hK_17 _ ?_
     refine Ra (sT [pR 1 0,(5,.d (.sl 1 (List.map e3 best1))),(6,.d (.bool found1)),(7,jI v1),pR 8 1,(9,.own 2 (List.map e3 l2).length),(20,jI (shl64 1 (x.Horses.length:Int))),(21,jI v1),(27,.d (.sl 3 (List.map e67 x.Horses))),(28,jI (x.Horses.length:Int)),(29,jI (wr (v2+1)))] [(2,.row 3 1 (List.map e3 l2)),(1,.var 61 [.d (.sl 4 (List.map e65 x.Hanks)),.own 3 (List.map e67 l1).length,jI x.Dark,jI x.Near,jI x.Match]),(3,.row 67 3 (List.map e67 l1)),(0,.var 61 (cv61 x))] 6 0) ?_
     obtain rfl:=Option.some.inj h
     have ew:wr (v2+1)=v2+1:=inext (N:=(x.Horses.length:Int)) (by omega) (by omega) (by omega)
     rw [ew]
     exact hK_14 _ (Can.kp (by kernel_rfl))
    ·have h:=ifF hb_21 h
     refine AW.rw ?_
     refine Au 4 (sT [pR 1 0,(5,.d (.sl 1 (List.map e3 best1))),(6,.d (.bool found1)),(7,jI v1),pR 8 1,(9,.own 2 (List.map e3 l).length),(20,jI (shl64 1 (x.Horses.length:Int))),(21,jI v1),(27,.d (.sl 3 (List.map e67 x.Horses))),(28,jI (x.Horses.length:Int)),(29,jI v2),(44,.own 3 (List.map e67 l1).length),(46,.own 5 (List.map e67 [p]).length)] [(5,.row 67 3 (List.map e67 [p])),(1,.var 61 [.d (.sl 4 (List.map e65 x.Hanks)),.own 3 (List.map e67 l1).length,jI x.Dark,jI x.Near,jI x.Match]),(3,.row 67 3 (List.map e67 l1)),(2,.row 3 1 (List.map e3 l)),(0,.var 61 (cv61 x))] 6 0) ?_
     obtain ⟨l3,hv_25,h⟩:=bsome h
     refine RW.one fokW (r_apO trivial rfl rfl rfl rfl rfl rfl (apz hv_25 e67) (apr hv_25 e67) (r_end ?_))
     refine Au 2 (sT [pR 1 0,(5,.d (.sl 1 (List.map e3 best1))),(6,.d (.bool found1)),(7,jI v1),pR 8 1,(9,.own 2 (List.map e3 l).length),(20,jI (shl64 1 (x.Horses.length:Int))),(21,jI v1),(27,.d (.sl 3 (List.map e67 x.Horses))),(28,jI (x.Horses.length:Int)),(29,jI v2)] [(1,.var 61 [.d (.sl 4 (List.map e65 x.Hanks)),.own 3 (List.map e67 l3).length,jI x.Dark,jI x.Near,jI x.Match]),(3,.row 67 3 (List.map e67 l3)),(2,.row 3 1 (List.map e3 l)),(0,.var 61 (cv61 x))] 6 0) ?_
     refine RW.nil ?_
     refine hK_17 _ ?_
     refine Ra (sT [pR 1 0,(5,.d (.sl 1 (List.map e3 best1))),(6,.d (.bool found1)),(7,jI v1),pR 8 1,(9,.own 2 (List.map e3 l).length),(20,jI (shl64 1 (x.Horses.length:Int))),(21,jI v1),(27,.d (.sl 3 (List.map e67 x.Horses))),(28,jI (x.Horses.length:Int)),(29,jI (wr (v2+1)))] [(1,.var 61 [.d (.sl 4 (List.map e65 x.Hanks)),.own 3 (List.map e67 l3).length,jI x.Dark,jI x.Near,jI x.Match]),(3,.row 67 3 (List.map e67 l3)),(2,.row 3 1 (List.map e3 l)),(0,.var 61 (cv61 x))] 6 0) ?_
     obtain rfl:=Option.some.inj h
     have ew:wr (v2+1)=v2+1:=inext (N:=(x.Horses.length:Int)) (by omega) (by omega) (by omega)
     rw [ew]
     exact hK_14 _ (Can.kp (by kernel_rfl))
   ·obtain ⟨l,l1⟩:=s_14
    subst hout
    refine Sa (sT [pR 1 0,(5,.d (.sl 1 (List.map e3 best1))),(6,.d (.bool found1)),(7,jI v1),pR 8 1,(9,.own 2 (List.map e3 l).length),(20,jI (shl64 1 (x.Horses.length:Int))),(21,jI v1),(27,.d (.sl 3 (List.map e67 x.Horses))),(28,jI (x.Horses.length:Int)),(29,jI v2),(30,.d (.bool (decide (v2<(x.Horses.length:Int)))))] [(1,.var 61 [.d (.sl 4 (List.map e65 x.Hanks)),.own 3 (List.map e67 l1).length,jI x.Dark,jI x.Near,jI x.Match]),(3,.row 67 3 (List.map e67 l1)),(2,.row 3 1 (List.map e3 l)),(0,.var 61 (cv61 x))] 4 0) ?_
    refine AW.seqK (fun K_26 hK_26=>?_)
    refine AW.cond rfl (fun hb_27=>False.elim (by have:=of_decide_eq_true hb_27;omega)) (fun hb_27=>?_)
    refine AW.exit ?_
    refine hK_12 _ ?_
    refine AW.seqK fun K_28 hK_28=>AW.srwK fun Q_29 hQ_29=>?_
    refine Au 2 (sT [pR 1 0,(5,.d (.sl 1 (List.map e3 best1))),(6,.d (.bool found1)),pR 8 1,(9,.own 2 (List.map e3 l).length),(20,jI (shl64 1 (x.Horses.length:Int))),(21,jI v1),(51,.d (.bool found1))] [(1,.var 61 [.d (.sl 4 (List.map e65 x.Hanks)),.own 3 (List.map e67 l1).length,jI x.Dark,jI x.Near,jI x.Match]),(3,.row 67 3 (List.map e67 l1)),(2,.row 3 1 (List.map e3 l)),(0,.var 61 (cv61 x))] 4 0) ?_
    obtain ⟨v3,hx_30,h⟩:=bsome h
    refine RW.cut fokW 19 ((sT [pR 1 0,(5,.d (.sl 1 (List.map e3 best1))),(6,.d (.bool found1)),pR 8 1,(9,.own 2 (List.map e3 l).length),(20,jI (shl64 1 (x.Horses.length:Int))),(21,jI v1),(70,.d (.bool v3))] [(1,.var 61 [.d (.sl 4 (List.map e65 x.Hanks)),.own 3 (List.map e67 l1).length,jI x.Dark,jI x.Near,jI x.Match]),(3,.row 67 3 (List.map e67 l1)),(2,.row 3 1 (List.map e3 l)),(0,.var 61 (cv61 x))] 4 0)) ?_ ?_
    ·refine r_split 51 rfl (fun hb_34=>?_) (fun hb_34=>?_)
     ·have h:=ifT hb_34 hx_30
      refine aX 1 (sT [pR 1 0,(5,.d (.sl 1 (List.map e3 best1))),(6,.d (.bool found1)),pR 8 1,(9,.own 2 (List.map e3 l).length),(20,jI (shl64 1 (x.Horses.length:Int))),(21,jI v1),(51,.d (.bool true)),(52,.own 2 (List.map e3 l).length)] [(1,.var 61 [.d (.sl 4 (List.map e65 x.Hanks)),.own 3 (List.map e67 l1).length,jI x.Dark,jI x.Near,jI x.Match]),(3,.row 67 3 (List.map e67 l1)),(2,.row 3 1 (List.map e3 l)),(0,.var 61 (cv61 x))] 4 0) ?_
      refine r_lenY rfl rfl lenm ?_
      refine aX 1 (sT [pR 1 0,(5,.d (.sl 1 (List.map e3 best1))),(6,.d (.bool found1)),pR 8 1,(9,.own 2 (List.map e3 l).length),(20,jI (shl64 1 (x.Horses.length:Int))),(21,jI v1),(51,.d (.bool true)),(53,jI (l.length:Int)),(54,.d (.sl 1 (List.map e3 best1)))] [(1,.var 61 [.d (.sl 4 (List.map e65 x.Hanks)),.own 3 (List.map e67 l1).length,jI x.Dark,jI x.Near,jI x.Match]),(3,.row 67 3 (List.map e67 l1)),(2,.row 3 1 (List.map e3 l)),(0,.var 61 (cv61 x))] 4 0) ?_
      refine r_lenX rfl rfl lenm ?_
      refine aX 2 (sT [pR 1 0,(5,.d (.sl 1 (List.map e3 best1))),(6,.d (.bool found1)),pR 8 1,(9,.own 2 (List.map e3 l).length),(20,jI (shl64 1 (x.Horses.length:Int))),(21,jI v1),(51,.d (.bool true)),(57,.d (.bool (decide ((best1.length:Int)<(l.length:Int)))))] [(1,.var 61 [.d (.sl 4 (List.map e65 x.Hanks)),.own 3 (List.map e67 l1).length,jI x.Dark,jI x.Near,jI x.Match]),(3,.row 67 3 (List.map e67 l1)),(2,.row 3 1 (List.map e3 l)),(0,.var 61 (cv61 x))] 4 0) ?_
      refine r_split 57 rfl (fun hb_31=>?_) (fun hb_31=>?_)
      ·have h:=ifT hb_31 h
       refine aX 13 (sT [pR 1 0,(5,.d (.sl 1 (List.map e3 best1))),(6,.d (.bool found1)),pR 8 1,(9,.own 2 (List.map e3 l).length),(20,jI (shl64 1 (x.Horses.length:Int))),(21,jI v1),(70,.d (.bool true))] [(1,.var 61 [.d (.sl 4 (List.map e65 x.Hanks)),.own 3 (List.map e67 l1).length,jI x.Dark,jI x.Near,jI x.Match]),(3,.row 67 3 (List.map e67 l1)),(2,.row 3 1 (List.map e3 l)),(0,.var 61 (cv61 x))] 4 0) ?_
       obtain rfl:=Option.some.inj h
       refine RunC.finJ (Can.kp (by kernel_rfl))
      ·have h:=ifF hb_31 h
       refine aX 1 (sT [pR 1 0,(5,.d (.sl 1 (List.map e3 best1))),(6,.d (.bool found1)),pR 8 1,(9,.own 2 (List.map e3 l).length),(20,jI (shl64 1 (x.Horses.length:Int))),(21,jI v1),(51,.d (.bool true)),(57,.d (.bool false)),(58,.own 2 (List.map e3 l).length)] [(1,.var 61 [.d (.sl 4 (List.map e65 x.Hanks)),.own 3 (List.map e67 l1).length,jI x.Dark,jI x.Near,jI x.Match]),(3,.row 67 3 (List.map e67 l1)),(2,.row 3 1 (List.map e3 l)),(0,.var 61 (cv61 x))] 4 0) ?_
       refine r_lenY rfl rfl lenm ?_
       refine aX 1 (sT [pR 1 0,(5,.d (.sl 1 (List.map e3 best1))),(6,.d (.bool found1)),pR 8 1,(9,.own 2 (List.map e3 l).length),(20,jI (shl64 1 (x.Horses.length:Int))),(21,jI v1),(51,.d (.bool true)),(57,.d (.bool false)),(59,jI (l.length:Int)),(60,.d (.sl 1 (List.map e3 best1)))] [(1,.var 61 [.d (.sl 4 (List.map e65 x.Hanks)),.own 3 (List.map e67 l1).length,jI x.Dark,jI x.Near,jI x.Match]),(3,.row 67 3 (List.map e67 l1)),(2,.row 3 1 (List.map e3 l)),(0,.var 61 (cv61 x))] 4 0) ?_
       refine r_lenX rfl rfl lenm ?_
       refine aX 2 (sT [pR 1 0,(5,.d (.sl 1 (List.map e3 best1))),(6,.d (.bool found1)),pR 8 1,(9,.own 2 (List.map e3 l).length),(20,jI (shl64 1 (x.Horses.length:Int))),(21,jI v1),(51,.d (.bool true)),(57,.d (.bool false)),(63,.d (.bool (decide ((l.length:Int)=(best1.length:Int)))))] [(1,.var 61 [.d (.sl 4 (List.map e65 x.Hanks)),.own 3 (List.map e67 l1).length,jI x.Dark,jI x.Near,jI x.Match]),(3,.row 67 3 (List.map e67 l1)),(2,.row 3 1 (List.map e3 l)),(0,.var 61 (cv61 x))] 4 0) ?_
       refine r_split 63 rfl (fun hb_32=>?_) (fun hb_32=>?_)
       ·have h:=ifT hb_32 h
        refine aX 2 (sT [pR 1 0,(5,.d (.sl 1 (List.map e3 best1))),(6,.d (.bool found1)),pR 8 1,(9,.own 2 (List.map e3 l).length),(20,jI (shl64 1 (x.Horses.length:Int))),(21,jI v1),(51,.d (.bool true)),(57,.d (.bool false)),(63,.d (.bool true)),(64,.own 2 (List.map e3 l).length),(65,.d (.sl 1 (List.map e3 best1)))] [(1,.var 61 [.d (.sl 4 (List.map e65 x.Hanks)),.own 3 (List.map e67 l1).length,jI x.Dark,jI x.Near,jI x.Match]),(3,.row 67 3 (List.map e67 l1)),(2,.row 3 1 (List.map e3 l)),(0,.var 61 (cv61 x))] 4 0) ?_
        obtain ⟨r0_3,hx_33,h⟩:=bsome h
        refine r_callF (rs:=[(2,.row 3 1 (List.map e3 l))]) rfl rfl (k83 l best1 _ hx_33) ⟨rfl,trivial⟩ ⟨(.own rfl rfl),.refl _,trivial⟩ rfl rfl rfl ?_
        refine aX 4 (sT [pR 1 0,(5,.d (.sl 1 (List.map e3 best1))),(6,.d (.bool found1)),pR 8 1,(9,.own 2 (List.map e3 l).length),(20,jI (shl64 1 (x.Horses.length:Int))),(21,jI v1),(70,.d (.bool (decide (0≤r0_3))))] [(1,.var 61 [.d (.sl 4 (List.map e65 x.Hanks)),.own 3 (List.map e67 l1).length,jI x.Dark,jI x.Near,jI x.Match]),(3,.row 67 3 (List.map e67 l1)),(2,.row 3 1 (List.map e3 l)),(0,.var 61 (cv61 x))] 4 0) ?_
        obtain rfl:=Option.some.inj h
        refine RunC.finJ (Can.kp (by kernel_rfl))
       ·have h:=ifF hb_32 h
        refine aX 7 (sT [pR 1 0,(5,.d (.sl 1 (List.map e3 best1))),(6,.d (.bool found1)),pR 8 1,(9,.own 2 (List.map e3 l).length),(20,jI (shl64 1 (x.Horses.length:Int))),(21,jI v1),(70,.d (.bool false))] [(1,.var 61 [.d (.sl 4 (List.map e65 x.Hanks)),.own 3 (List.map e67 l1).length,jI x.Dark,jI x.Near,jI x.Match]),(3,.row 67 3 (List.map e67 l1)),(2,.row 3 1 (List.map e3 l)),(0,.var 61 (cv61 x))] 4 0) ?_
        obtain rfl:=Option.some.inj h
        refine RunC.finJ (Can.kp (by kernel_rfl))
     ·have h:=ifF hb_34 hx_30
      refine aX 19 (sT [pR 1 0,(5,.d (.sl 1 (List.map e3 best1))),(6,.d (.bool found1)),pR 8 1,(9,.own 2 (List.map e3 l).length),(20,jI (shl64 1 (x.Horses.length:Int))),(21,jI v1),(70,.d (.bool false))] [(1,.var 61 [.d (.sl 4 (List.map e65 x.Hanks)),.own 3 (List.map e67 l1).length,jI x.Dark,jI x.Near,jI x.Match]),(3,.row 67 3 (List.map e67 l1)),(2,.row 3 1 (List.map e3 l)),(0,.var 61 (cv61 x))] 4 0) ?_
      obtain rfl:=Option.some.inj h
      refine RunC.finJ (Can.kp (by kernel_rfl))
    ·refine RW.nil (hQ_29 _ ?_)
     refine AW.cond rfl (fun hb_35=>?_) (fun hb_35=>?_)
     ·have h:=ifT hb_35 h
      refine AW.exit ?_
      refine hK_11 _ ?_
      refine Ra (sT [pR 1 0,(5,.d (.sl 1 (List.map e3 best1))),(6,.d (.bool found1)),(20,jI (shl64 1 (x.Horses.length:Int))),(21,jI (wr (v1+1)))] [(0,.var 61 (cv61 x))] 4 0) ?_
      obtain rfl:=Option.some.inj h
      have ew:wr (v1+1)=v1+1:=inext (N:=(shl64 1 (x.Horses.length:Int))) (by omega) (by omega) (by omega)
      rw [ew]
      exact hK_8 _ (Can.kp (by kernel_rfl))
     ·have h:=ifF hb_35 h
      refine AW.skip (hK_28 _ ?_)
      refine AW.srwK (fun Q_36 hQ_36=>?_)
      refine Au 1 (sT [pR 1 0,(5,.d (.sl 1 (List.map e3 best1))),(6,.d (.bool found1)),(9,.own 2 (List.map e3 l).length),(20,jI (shl64 1 (x.Horses.length:Int))),(21,jI v1),(71,.agg [.d (.sl 4 (List.map e65 x.Hanks)),.own 3 (List.map e67 l1).length,jI x.Dark,jI x.Near,jI x.Match])] [(3,.row 67 3 (List.map e67 l1)),(2,.row 3 1 (List.map e3 l)),(0,.var 61 (cv61 x))] 4 0) ?_
      obtain ⟨⟨r0_HairBook,mf⟩,hx_37,h⟩:=bsome h
      refine RW.one fokW (r_callZ (zr:=[(3,.row 67 3 (List.map e67 l1))]) trivial rfl (k81 (HairBook.mk x.Hanks l1 x.Dark x.Near x.Match) _ hx_37) ⟨rfl,trivial⟩ ⟨(Frz.agg_of ⟨.refl _,(.own rfl rfl),.refl _,.refl _,.refl _,trivial⟩),trivial⟩ rfl rfl rfl rfl (r_end ?_))
      obtain ⟨r0_1,hx_38,h⟩:=bsome h
      refine rC (k84 r0_HairBook mf _ hx_38) ?_
      refine RW.nil (hQ_36 _ ?_)
      refine AW.cond rfl (fun hb_39=>?_) (fun hb_39=>?_)
      ·have h:=ifT hb_39 h
       refine Ra (sT [pR 1 0,(5,.own 2 (List.map e3 l).length),(6,.d (.bool true)),(20,jI (shl64 1 (x.Horses.length:Int))),(21,jI v1)] [(2,.row 3 1 (List.map e3 l)),(0,.var 61 (cv61 x))] 4 0) ?_
       refine hK_11 _ ?_
       refine Ra (sT [pR 1 0,(5,.own 2 (List.map e3 l).length),(6,.d (.bool true)),(20,jI (shl64 1 (x.Horses.length:Int))),(21,jI (wr (v1+1)))] [(2,.row 3 1 (List.map e3 l)),(0,.var 61 (cv61 x))] 4 0) ?_
       obtain rfl:=Option.some.inj h
       have ew:wr (v1+1)=v1+1:=inext (N:=(shl64 1 (x.Horses.length:Int))) (by omega) (by omega) (by omega)
       rw [ew]
       exact hK_8 _ (Can.trans (Can.fzE 5 2 rfl rfl rfl) (Can.kp (by kernel_rfl)))
      ·have h:=ifF hb_39 h
       refine AW.skip (hK_11 _ ?_)
       refine Ra (sT [pR 1 0,(5,.d (.sl 1 (List.map e3 best1))),(6,.d (.bool found1)),(20,jI (shl64 1 (x.Horses.length:Int))),(21,jI (wr (v1+1)))] [(0,.var 61 (cv61 x))] 4 0) ?_
       obtain rfl:=Option.some.inj h
       have ew:wr (v1+1)=v1+1:=inext (N:=(shl64 1 (x.Horses.length:Int))) (by omega) (by omega) (by omega)
       rw [ew]
       exact hK_8 _ (Can.kp (by kernel_rfl))
  ·obtain ⟨best1,found1⟩:=s_8
   subst hout
   refine Sa (sT [pR 1 0,(5,.d (.sl 1 (List.map e3 best1))),(6,.d (.bool found1)),(20,jI (shl64 1 (x.Horses.length:Int))),(21,jI v1),(22,.d (.bool (decide (v1<(shl64 1 (x.Horses.length:Int))))))] [(0,.var 61 (cv61 x))] 1 0) ?_
   refine AW.seqK (fun K_40 hK_40=>?_)
   refine AW.cond rfl (fun hb_41=>False.elim (by have:=of_decide_eq_true hb_41;omega)) (fun hb_41=>?_)
   refine AW.exit ?_
   refine hK_5 _ ?_
   refine AW.srwK (fun Q_42 hQ_42=>?_)
   refine Au 2 (sT [(5,.d (.sl 1 (List.map e3 best1))),(76,.d (.sl 1 (List.map e3 best1))),(77,.d (.sl 1 (List.map e3 best1)))] [] 1 0) ?_
   refine rL rfl ?_
   refine Au 1 (sT [(76,.d (.sl 1 (List.map e3 best1))),(78,jI (best1.length:Int)),(79,.d (.sl 1 (List.map e3 best1)))] [] 1 0) ?_
   refine rL rfl ?_
   obtain ⟨l4,hv_43,h⟩:=bsome h
   refine RW.one fokW (r_slN trivial rfl rfl rfl DSl.d (slcL_ok hv_43).2.1 (by rw [List.length_map];exact (slcL_ok hv_43).2.2.1) rfl (slz hv_43 e3) (r_end ?_))
   refine Au 2 (sT [(2,.fsl 1 (List.map e3 l4)),(3,jI 0)] [] 1 0) ?_
   refine RW.nil (hQ_42 _ ?_)
   obtain rfl:=Option.some.inj h
   exact AW.ret (hR_0 _ (retX (.cons (.tmp rfl) (.cons (.tmp rfl) .nil)) (Frz.tup_of ⟨.fsl _ _,.refl _,trivial⟩) rfl (by kernel_rfl) (by kernel_rfl)))
def g85 (_HairBook:HairBook) (mf:List (Hair_dye×Span)) (o0:Int):Option Bool:=(g69 o0 0 20).bind fun r0=>some r0
theorem k85 (_HairBook:HairBook) (mf:List (Hair_dye×Span)) (o0:Int) (r:Bool) (h:g85 _HairBook mf o0=some r):SCall Tryd.prog Gs 85 [.agg [.d (.sl 4 (List.map e65 _HairBook.Hanks)),.d (.sl 3 (List.map e67 _HairBook.Horses)),jI _HairBook.Dark,jI _HairBook.Near,jI _HairBook.Match,.fmp (List.map m124_33 mf)],.ptr 0 0] [(0,.var 3 [jI o0])] 1 Fr.emp (.d (.bool r)) [(0,.var 3 [jI o0])] 1 Fr.emp:=by
 unfold g85 at h
 refine SCall.mkK Tryd.func85 c85 rfl rfl (by kernel_rfl) (fun Q_0 hR_0 hN_0=>?_)
 refine Sa (sT [pR 1 0] [(0,.var 3 [jI o0])] 2 1) ?_
 refine AW.srwK (fun Q_1 hQ_1=>?_)
 refine Au 1 (sT [(4,jI o0)] [(0,.var 3 [jI o0])] 2 1) ?_
 obtain ⟨r0,hx_2,h⟩:=bsome h
 refine rC (k69 o0 0 20 _ hx_2) ?_
 refine Au 1 (sT [(3,.d (.bool r0))] [(0,.var 3 [jI o0])] 2 1) ?_
 refine RW.nil (hQ_1 _ ?_)
 obtain rfl:=Option.some.inj h
 exact rT hR_0 (.cons (.tmp rfl) .nil)
def g67d (x:HairBook) (o0:Int):Option (Ctl (HairBook×Int) (HairBook×(List (Hair_dye×Span))×Int)):=(g35 x).bind fun r0_9=>bif (decide (r0_9≠0)) then (some (.next ((HairBook.mk [] [] 0 0 0),r0_9))) else ((g81 x).bind fun (r0_HairBook,mf)=>(g85 r0_HairBook mf o0).bind fun r0_1=>bif (!r0_1) then (some (.brk (r0_HairBook,mf,61))) else (some (.brk (r0_HairBook,mf,0))))
def y6 (o0:Int):List (Nat×Blk):=[(2,.var 119 [.d (.nilSl),.d (.nilSl),jI 0,jI 0,jI 0,.d (.nilMap)]),(0,.var 3 [jI o0])]
theorem k67d (x:HairBook) (o0:Int) (r:Ctl (HairBook×Int) (HairBook×(List (Hair_dye×Span))×Int)) (h:g67d x o0=some r):SCall Tryd.prog Gs 67 [.agg [.d (.sl 4 (List.map e65 x.Hanks)),.d (.sl 3 (List.map e67 x.Horses)),jI x.Dark,jI x.Near,jI x.Match],.clo 85 [] [.ptr 0 0]] [(0,.var 3 [jI o0])] 1 Fr.emp (match r with | .next (r0_HairBook4,r1_1)=>.tup [.agg [.d (.sl 4 (List.map e65 r0_HairBook4.Hanks)),.d (.sl 3 (List.map e67 r0_HairBook4.Horses)),jI r0_HairBook4.Dark,jI r0_HairBook4.Near,jI r0_HairBook4.Match,.d (.nilMap)],jI r1_1] | .brk (r0_HairBook5,mf2,r1_2)=>.tup [.agg [.d (.sl 4 (List.map e65 r0_HairBook5.Hanks)),.d (.sl 3 (List.map e67 r0_HairBook5.Horses)),jI r0_HairBook5.Dark,jI r0_HairBook5.Near,jI r0_HairBook5.Match,.fmp (List.map m124_33 mf2)],jI r1_2]) (match r with | .next (r0_HairBook4,r1_1)=>[(0,.var 3 [jI o0])] | .brk (r0_HairBook5,mf2,r1_2)=>[(0,.var 3 [jI o0])]) 1 Fr.emp:=by
 unfold g67d at h
 refine SCall.mkK Tryd.func67 c67 rfl (by rcases r with _ | _<;>rfl) (by rcases r with _ | _<;>kernel_rfl) (fun Q_0 hR_0 hN_0=>?_)
 refine Sa (sT [(1,.clo 85 [] [.ptr 0 0]),pR 2 1,pR 4 2] [(2,.var 119 [.d (.nilSl),.d (.nilSl),jI 0,jI 0,jI 0,.d (.nilMap)]),(1,.var 61 (cv61 x)),(0,.var 3 [jI o0])] 3 1) ?_
 refine AW.seqK fun K_1 hK_1=>AW.srwK fun Q_2 hQ_2=>?_
 refine Au 1 (sT [(1,.clo 85 [] [.ptr 0 0]),pR 2 1,pR 4 2,(8,.agg [.d (.sl 4 (List.map e65 x.Hanks)),.d (.sl 3 (List.map e67 x.Horses)),jI x.Dark,jI x.Near,jI x.Match])] [(2,.var 119 [.d (.nilSl),.d (.nilSl),jI 0,jI 0,jI 0,.d (.nilMap)]),(1,.var 61 (cv61 x)),(0,.var 3 [jI o0])] 3 1) ?_
 obtain ⟨r0_9,hx_3,h⟩:=bsome h
 refine rC (k35 x _ hx_3) ?_
 refine Au 1 (sT [(1,.clo 85 [] [.ptr 0 0]),pR 2 1,pR 4 2,(6,jI r0_9)] [(2,.var 119 [.d (.nilSl),.d (.nilSl),jI 0,jI 0,jI 0,.d (.nilMap)]),(1,.var 61 (cv61 x)),(0,.var 3 [jI o0])] 3 1) ?_
 refine RW.nil (hQ_2 _ ?_)
 refine Sa (sT [(1,.clo 85 [] [.ptr 0 0]),pR 2 1,pR 4 2,(6,jI r0_9),(11,.d (.bool (decide (r0_9≠0))))] [(2,.var 119 [.d (.nilSl),.d (.nilSl),jI 0,jI 0,jI 0,.d (.nilMap)]),(1,.var 61 (cv61 x)),(0,.var 3 [jI o0])] 3 1) ?_
 refine AW.cond rfl (fun hb_4=>?_) (fun hb_4=>?_)
 ·have h:=ifT hb_4 h
  refine Sa (sT [pR 4 2,(5,jI r0_9)] (y6 o0) 3 1) ?_
  obtain rfl:=Option.some.inj h
  exact AW.ret (hR_0 _ (retX (.cons (.agg rfl rfl (Nat.le_of_ble_eq_true rfl)) (.cons (.tmp rfl) .nil)) (Frz.tup_of ⟨Frz.agg_of ⟨(.nil 4),(.nil 3),.refl _,.refl _,.refl _,.refl _,trivial⟩,.refl _,trivial⟩) rfl (by kernel_rfl) (by kernel_rfl)))
 ·have h:=ifF hb_4 h
  refine AW.skip (hK_1 _ ?_)
  refine AW.srwK (fun Q_5 hQ_5=>?_)
  refine Au 1 (sT [(1,.clo 85 [] [.ptr 0 0]),pR 4 2,(14,.agg [.d (.sl 4 (List.map e65 x.Hanks)),.d (.sl 3 (List.map e67 x.Horses)),jI x.Dark,jI x.Near,jI x.Match])] (y6 o0) 3 1) ?_
  obtain ⟨⟨r0_HairBook,mf⟩,hx_6,h⟩:=bsome h
  refine rC (k81 x _ hx_6) ?_
  refine Au 2 (sT [(1,.clo 85 [] [.ptr 0 0]),pR 4 2,pR 7 3] [(3,.var 119 (catV (cv61 r0_HairBook) [.fmp (List.map m124_33 mf)])),(2,.var 119 [.d (.nilSl),.d (.nilSl),jI 0,jI 0,jI 0,.d (.nilMap)]),(0,.var 3 [jI o0])] 4 1) ?_
  refine RW.nil (hQ_5 _ ?_)
  refine AW.seqK fun K_7 hK_7=>AW.srwK fun Q_8 hQ_8=>?_
  refine Au 2 (sT [pR 4 2,pR 7 3,(16,.clo 85 [] [.ptr 0 0]),(17,.agg [.d (.sl 4 (List.map e65 r0_HairBook.Hanks)),.d (.sl 3 (List.map e67 r0_HairBook.Horses)),jI r0_HairBook.Dark,jI r0_HairBook.Near,jI r0_HairBook.Match,.fmp (List.map m124_33 mf)])] [(3,.var 119 (catV (cv61 r0_HairBook) [.fmp (List.map m124_33 mf)])),(2,.var 119 [.d (.nilSl),.d (.nilSl),jI 0,jI 0,jI 0,.d (.nilMap)]),(0,.var 3 [jI o0])] 4 1) ?_
  obtain ⟨r0_1,hx_9,h⟩:=bsome h
  refine RW.one fokW (r_callvE (zr:=[]) [0] trivial rfl (.clo _ _ _) (by kernel_rfl) rfl (k85 r0_HairBook mf o0 _ hx_9) ⟨rfl,trivial⟩ rfl rfl ⟨.refl _,.refl _,trivial⟩ rfl rfl rfl (r_end ?_))
  refine Au 1 (sT [pR 4 2,pR 7 3,(19,.d (.bool (!r0_1)))] [(0,.var 3 [jI o0]),(3,.var 119 (catV (cv61 r0_HairBook) [.fmp (List.map m124_33 mf)])),(2,.var 119 [.d (.nilSl),.d (.nilSl),jI 0,jI 0,jI 0,.d (.nilMap)])] 4 1) ?_
  refine RW.nil (hQ_8 _ ?_)
  refine AW.cond rfl (fun hb_10=>?_) (fun hb_10=>?_)
  ·have h:=ifT hb_10 h
   refine Sa (sT [pR 4 2,(5,jI 61)] [(2,.var 119 (catV (cv61 r0_HairBook) [.fmp (List.map m124_33 mf)])),(0,.var 3 [jI o0])] 4 1) ?_
   obtain rfl:=Option.some.inj h
   exact rT hR_0 (.cons (.agg rfl rfl (Nat.le_of_ble_eq_true rfl)) (.cons (.tmp rfl) .nil))
  ·have h:=ifF hb_10 h
   refine AW.skip (hK_7 _ ?_)
   refine Sa (sT [pR 4 2,(5,jI 0)] [(2,.var 119 (catV (cv61 r0_HairBook) [.fmp (List.map m124_33 mf)])),(0,.var 3 [jI o0])] 4 1) ?_
   obtain rfl:=Option.some.inj h
   exact rT hR_0 (.cons (.agg rfl rfl (Nat.le_of_ble_eq_true rfl)) (.cons (.tmp rfl) .nil))
end Go.Proofs.Tl
namespace Go.Proofs.Tl
open Go Go.Abs Go.Proofs
def g33_r22 (l1:List HairHank):((List Int)×(Nat→Int))→(Int)→Option (Ctl (Int) (Unit)):=fun (a,a1) v=>(ixN 5 (wr ((l1.length:Int) - 1))).bind fun j=>some (.next (min v (a1 j)))
def g33 (x:HairBook) (shade:Int):Option (Int×Int):=(g67d x shade).bind fun r_26=>match r_26 with | .next (r0_HairBook4,r1_1)=>(must (decide (r1_1≠0))).bind fun _=>some (0,r1_1) | .brk (r0_HairBook5,mf2,r1_2)=>bif (decide (r1_2≠0)) then (some (0,r1_2)) else ((g84 r0_HairBook5 mf2).bind fun r0_1=>bif r0_1 then (some (0,0)) else ((slcL x.Hanks 0 (x.Hanks.length:Int)).bind fun l=>(appL 32 l [(HairHank.mk (Span.mk 60 60) (Span.mk shade shade))]).bind fun l1=>(g81 (HairBook.mk l1 x.Horses x.Dark x.Near x.Match)).bind fun (r0_HairBook,mf)=>(g79).bind fun _=>(g86 r0_HairBook mf r0_HairBook mf).bind fun (o0_HairBook,mf1)=>(g121 (fun a a1 s=>rndC (g33_r22 l1) (a,a1) s) o0_HairBook mf1 r0_HairBook mf (.next 61)).bind fun out_22=>match out_22 with | .next v=>bif (decide (60<v)) then (some (0,4)) else (some (v,0)) | .brk _=>none))
def y7 (l1:List HairHank) (x:HairBook):List (Nat×Blk):=[(0,.var 61 [.own 6 (List.map e65 l1).length,.d (.sl 3 (List.map e67 x.Horses)),jI x.Dark,jI x.Near,jI x.Match]),(6,.row 65 4 (List.map e65 l1))]
theorem k33 (x:HairBook) (shade:Int) (r:Int×Int) (h:g33 x shade=some r):SCall Tryd.prog Gs 33 [.agg [.d (.sl 4 (List.map e65 x.Hanks)),.d (.sl 3 (List.map e67 x.Horses)),jI x.Dark,jI x.Near,jI x.Match],jI shade] [] 0 Fr.emp (match r with | (r0_5,r1_6)=>.tup [jI r0_5,jI r1_6]) [] 0 Fr.emp:=by
 unfold g33 at h
 refine SCall.mkK Tryd.func33 c33 rfl rfl (by kernel_rfl) (fun Q_0 hR_0 hN_0=>?_)
 refine Sa (sT [pR 2 0,pR 3 1] [(1,.var 3 [jI shade]),(0,.var 61 (cv61 x))] 2 0) ?_
 refine AW.srwK (fun Q_1 hQ_1=>?_)
 refine Au 2 (sT [pR 2 0,pR 3 1,(15,.agg [.d (.sl 4 (List.map e65 x.Hanks)),.d (.sl 3 (List.map e67 x.Horses)),jI x.Dark,jI x.Near,jI x.Match]),(16,.clo 85 [] [.ptr 1 0])] [(1,.var 3 [jI shade]),(0,.var 61 (cv61 x))] 2 0) ?_
 obtain ⟨r_26,hx_2,h⟩:=bsome h
 rcases r_26 with (⟨r0_HairBook4,r1_1⟩ | (⟨r0_HairBook5,mf2,r1_2⟩))
 ·refine RW.one fokW (r_callS (zr:=[]) [1] trivial rfl (k67d x shade _ hx_2) ⟨rfl,trivial⟩ rfl rfl ⟨.refl _,.refl _,trivial⟩ rfl rfl rfl (r_end ?_))
  obtain ⟨_,hv_3,h⟩:=bsome h
  have hf_4:=must_ok hv_3
  refine Au 6 (sT [pR 2 0,pR 3 1,pR 6 2,(7,jI r1_1)] [(2,.var 119 (catV (cv61 r0_HairBook4) [.d (.nilMap)])),(1,.var 3 [jI shade]),(0,.var 61 (cv61 x))] 3 0) ?_
  refine RW.nil (hQ_1 _ ?_)
  refine AW.seqK (fun K_5 hK_5=>?_)
  refine Sa (sT [pR 2 0,pR 3 1,pR 6 2,(7,jI r1_1),(21,.d (.bool (decide (r1_1≠0))))] [(2,.var 119 (catV (cv61 r0_HairBook4) [.d (.nilMap)])),(1,.var 3 [jI shade]),(0,.var 61 (cv61 x))] 3 0) ?_
  refine AW.cond rfl (fun hb_6=>?_) (fun hb_6=>False.elim (by rw [hf_4] at hb_6;cases hb_6))
  refine Sa (sT [(4,jI 0),(5,jI r1_1)] [] 3 0) ?_
  obtain rfl:=Option.some.inj h
  exact rT hR_0 (.cons (.tmp rfl) (.cons (.tmp rfl) .nil))
 ·refine RW.one fokW (r_callS (zr:=[]) [1] trivial rfl (k67d x shade _ hx_2) ⟨rfl,trivial⟩ rfl rfl ⟨.refl _,.refl _,trivial⟩ rfl rfl rfl (r_end ?_))
  refine Au 6 (sT [pR 2 0,pR 3 1,pR 6 2,(7,jI r1_2)] [(2,.var 119 (catV (cv61 r0_HairBook5) [.fmp (List.map m124_33 mf2)])),(1,.var 3 [jI shade]),(0,.var 61 (cv61 x))] 3 0) ?_
  refine RW.nil (hQ_1 _ ?_)
  refine AW.seqK (fun K_7 hK_7=>?_)
  refine Sa (sT [pR 2 0,pR 3 1,pR 6 2,(7,jI r1_2),(21,.d (.bool (decide (r1_2≠0))))] [(2,.var 119 (catV (cv61 r0_HairBook5) [.fmp (List.map m124_33 mf2)])),(1,.var 3 [jI shade]),(0,.var 61 (cv61 x))] 3 0) ?_
  refine AW.cond rfl (fun hb_8=>?_) (fun hb_8=>?_)
  ·have h:=ifT hb_8 h
   refine Sa (sT [(4,jI 0),(5,jI r1_2)] [] 3 0) ?_
   obtain rfl:=Option.some.inj h
   exact rT hR_0 (.cons (.tmp rfl) (.cons (.tmp rfl) .nil))
  ·have h:=ifF hb_8 h
   refine AW.skip (hK_7 _ ?_)
   refine AW.seqK fun K_9 hK_9=>AW.srwK fun Q_10 hQ_10=>?_
   refine Au 1 (sT [pR 2 0,pR 3 1,(23,.agg [.d (.sl 4 (List.map e65 r0_HairBook5.Hanks)),.d (.sl 3 (List.map e67 r0_HairBook5.Horses)),jI r0_HairBook5.Dark,jI r0_HairBook5.Near,jI r0_HairBook5.Match,.fmp (List.map m124_33 mf2)])] [(1,.var 3 [jI shade]),(0,.var 61 (cv61 x))] 3 0) ?_
   obtain ⟨r0_1,hx_11,h⟩:=bsome h
   refine rC (k84 r0_HairBook5 mf2 _ hx_11) ?_
   refine RW.nil (hQ_10 _ ?_)
   refine AW.cond rfl (fun hb_12=>?_) (fun hb_12=>?_)
   ·have h:=ifT hb_12 h
    refine Sa (sT [(4,jI 0),(5,jI 0)] [] 3 0) ?_
    obtain rfl:=Option.some.inj h
    exact rT hR_0 (.cons (.tmp rfl) (.cons (.tmp rfl) .nil))
   ·have h:=ifF hb_12 h
    refine AW.skip (hK_9 _ ?_)
    refine Sa (sT [pR 2 0,pR 8 3,pR 9 4] [(4,.var 33 [jI shade,jI shade]),(3,.var 33 [jI 60,jI 60]),(0,.var 61 (cv61 x))] 5 0) ?_
    refine AW.sdrwK fokW (fun Q_13 hQ_13=>?_)
    refine aX 4 (sT [pR 2 0,pR 8 3,pR 9 4,(30,.d (.sl 4 (List.map e65 x.Hanks))),(32,.d (.sl 4 (List.map e65 x.Hanks)))] [(4,.var 33 [jI shade,jI shade]),(3,.var 33 [jI 60,jI 60]),(0,.var 61 (cv61 x))] 5 0) ?_
    refine r_lenX trivial rfl lenm ?_
    refine aX 2 (sT [pR 2 0,pR 8 3,pR 9 4,(30,.d (.sl 4 (List.map e65 x.Hanks))),(33,jI (x.Hanks.length:Int)),(35,.d (.sl 4 (List.map e65 x.Hanks)))] [(4,.var 33 [jI shade,jI shade]),(3,.var 33 [jI 60,jI 60]),(0,.var 61 (cv61 x))] 5 0) ?_
    refine r_lenX trivial rfl lenm ?_
    obtain ⟨l,hv_14,h⟩:=bsome h
    refine r_slN trivial rfl rfl rfl DSl.d (slcL_ok hv_14).2.1 (by rw [List.length_map];exact (slcL_ok hv_14).2.2.1) rfl (slz hv_14 e65) ?_
    refine aX 4 (sT [pR 2 0,(37,.fsl 4 (List.map e65 l)),(41,.own 5 (List.map e65 [(HairHank.mk (Span.mk 60 60) (Span.mk shade shade))]).length)] [(5,.row 65 4 (List.map e65 [(HairHank.mk (Span.mk 60 60) (Span.mk shade shade))])),(4,.var 33 [jI shade,jI shade]),(3,.var 33 [jI 60,jI 60]),(0,.var 61 (cv61 x))] 6 0) ?_
    obtain ⟨l1,hv_15,h⟩:=bsome h
    refine r_apF trivial rfl rfl rfl rfl (by simp) (zs:=List.map e65 l1) (apz hv_15 e65) (apr hv_15 e65) ?_
    refine aX 2 (sT [pR 2 0] [(0,.var 61 [.own 6 (List.map e65 l1).length,.d (.sl 3 (List.map e67 x.Horses)),jI x.Dark,jI x.Near,jI x.Match]),(6,.row 65 4 (List.map e65 l1)),(5,.row 65 4 (List.map e65 [(HairHank.mk (Span.mk 60 60) (Span.mk shade shade))])),(4,.var 33 [jI shade,jI shade]),(3,.var 33 [jI 60,jI 60])] 7 0) ?_
    refine Fi (sT [pR 2 0] (y7 l1 x) 7 0) ?_
    refine hQ_13 _ ?_
    refine AW.srwK (fun Q_16 hQ_16=>?_)
    refine Au 1 (sT [pR 2 0,(44,.agg [.own 6 (List.map e65 l1).length,.d (.sl 3 (List.map e67 x.Horses)),jI x.Dark,jI x.Near,jI x.Match])] (y7 l1 x) 7 0) ?_
    obtain ⟨⟨r0_HairBook,mf⟩,hx_17,h⟩:=bsome h
    refine RW.one fokW (r_callZ (zr:=[(6,.row 65 4 (List.map e65 l1))]) trivial rfl (k81 (HairBook.mk l1 x.Horses x.Dark x.Near x.Match) _ hx_17) ⟨rfl,trivial⟩ ⟨(Frz.agg_of ⟨(.own rfl rfl),.refl _,.refl _,.refl _,.refl _,trivial⟩),trivial⟩ rfl rfl rfl rfl (r_end ?_))
    refine Au 4 (sT [pR 2 0,pR 10 7,pR 11 8] [(8,.var 3 [jI 61]),(7,.var 119 (catV (cv61 r0_HairBook) [.fmp (List.map m124_33 mf)])),(6,.dead),(0,.var 61 [.own 6 (List.map e65 l1).length,.d (.sl 3 (List.map e67 x.Horses)),jI x.Dark,jI x.Near,jI x.Match])] 9 0) ?_
    refine RW.nil (hQ_16 _ ?_)
    refine AW.seqK (fun K_18 hK_18=>?_)
    refine AW.sdrwK fokW (fun Q_19 hQ_19=>?_)
    refine aX 1 (sT [pR 2 0,pR 10 7,pR 11 8,(46,.agg [.d (.sl 4 (List.map e65 r0_HairBook.Hanks)),.d (.sl 3 (List.map e67 r0_HairBook.Horses)),jI r0_HairBook.Dark,jI r0_HairBook.Near,jI r0_HairBook.Match,.fmp (List.map m124_33 mf)])] [(8,.var 3 [jI 61]),(7,.var 119 (catV (cv61 r0_HairBook) [.fmp (List.map m124_33 mf)])),(6,.dead),(0,.var 61 [.own 6 (List.map e65 l1).length,.d (.sl 3 (List.map e67 x.Horses)),jI x.Dark,jI x.Near,jI x.Match])] 9 0) ?_
    obtain ⟨⟨⟩,hx_20,h⟩:=bsome h
    refine r_call trivial rfl (k79 _ hx_20) rfl rfl ?_
    refine aX 2 (sT [pR 2 0,pR 11 8,(46,.agg [.d (.sl 4 (List.map e65 r0_HairBook.Hanks)),.d (.sl 3 (List.map e67 r0_HairBook.Horses)),jI r0_HairBook.Dark,jI r0_HairBook.Near,jI r0_HairBook.Match,.fmp (List.map m124_33 mf)]),(47,.agg [.d (.fn 118)]),(49,.clo 87 [.agg [.d (.sl 4 (List.map e65 r0_HairBook.Hanks)),.d (.sl 3 (List.map e67 r0_HairBook.Horses)),jI r0_HairBook.Dark,jI r0_HairBook.Near,jI r0_HairBook.Match,.fmp (List.map m124_33 mf)]] [])] [(8,.var 3 [jI 61]),(7,.var 119 (catV (cv61 r0_HairBook) [.fmp (List.map m124_33 mf)])),(6,.dead),(0,.var 61 [.own 6 (List.map e65 l1).length,.d (.sl 3 (List.map e67 x.Horses)),jI x.Dark,jI x.Near,jI x.Match])] 9 0) ?_
    obtain ⟨⟨o0_HairBook,mf1⟩,hx_21,h⟩:=bsome h
    refine r_callS (zr:=[]) [] trivial rfl (k86 r0_HairBook mf r0_HairBook mf _ hx_21) trivial rfl rfl ⟨.refl _,.refl _,.refl _,trivial⟩ rfl rfl rfl ?_
    refine Fi (sT [pR 2 0,pR 11 8,(50,.clo 121 [] [.ptr 9 0,.ptr 10 0,.ptr 11 0])] [(9,.var 119 (catV (cv61 o0_HairBook) [.fmp (List.map m124_33 mf1)])),(10,.var 133 [.d (.fn 118)]),(11,.var 108 [.clo 87 [.agg [.d (.sl 4 (List.map e65 r0_HairBook.Hanks)),.d (.sl 3 (List.map e67 r0_HairBook.Horses)),jI r0_HairBook.Dark,jI r0_HairBook.Near,jI r0_HairBook.Match,.fmp (List.map m124_33 mf)]] []]),(8,.var 3 [jI 61]),(6,.dead),(0,.var 61 [.own 6 (List.map e65 l1).length,.d (.sl 3 (List.map e67 x.Horses)),jI x.Dark,jI x.Near,jI x.Match])] 12 0) ?_
    refine hQ_19 _ ?_
    refine AW.block ?_
    obtain ⟨out_22,hx_22,h⟩:=bsome h
    refine AW.rfX (fun (v:Int)=>[(12,.dm),(8,.var 3 [jI v]),(6,.dead),(0,.var 61 [.own 6 (List.map e65 l1).length,.d (.sl 3 (List.map e67 x.Horses)),jI x.Dark,jI x.Near,jI x.Match])]) (fun (_:Unit)=>[]) (fun _=>some .ret) (g33_r22 l1) (fun (⟨a,a1⟩:(List Int)×(Nat→Int))=>[.d (.sl 1 (List.map e3 a)),.agg [jI (a1 0),jI (a1 1),jI (a1 2),jI (a1 3),jI (a1 4)]]) (s0:=61) (out:=out_22) [pR 2 0,pR 11 8] [(8,.var 3 [jI 61]),(6,.dead),(0,.var 61 [.own 6 (List.map e65 l1).length,.d (.sl 3 (List.map e67 x.Horses)),jI x.Dark,jI x.Near,jI x.Match])] [9,10,11] rfl (.clo _ _ _) (by kernel_rfl) (by kernel_rfl) (fun fr_ hY_22=>k121 fr_ _ (fun a a1 s s2 b h=>hY_22 (a,a1) s s2 b h) o0_HairBook mf1 r0_HairBook mf (.next 61) _ hx_22) (by kernel_rfl) ⟨rfl,rfl,rfl,trivial⟩ rfl ⟨rfl,rfl⟩ rfl rfl (fun _=>rfl) (fun _=>rfl) (fun a_22 s_22 c_22 h l_22=>?_) (fun _=>rfl) ?_
    ·obtain ⟨a,a1⟩:=a_22
     have ⟨v,e_22⟩:∃ x,x=s_22:=⟨_,rfl⟩
     subst e_22
     unfold g33_r22 at h
     refine AW.ra (fokR l_22) [] (sT [pR 2 0,pR 11 8,pR 13 13] [(13,.var 128 [jI (a1 0),jI (a1 1),jI (a1 2),jI (a1 3),jI (a1 4)]),(12,.dm),(8,.var 3 [jI v]),(6,.dead),(0,.var 61 [.own 6 (List.map e65 l1).length,.d (.sl 3 (List.map e67 x.Horses)),jI x.Dark,jI x.Near,jI x.Match])] 14 13) (by kernel_rfl) ?_
     refine AW.block ?_
     refine AW.drw (fokR l_22) ?_
     refine aX 3 (sT [pR 11 8,pR 13 13,(53,jI v),(55,.own 6 (List.map e65 l1).length)] [(13,.var 128 [jI (a1 0),jI (a1 1),jI (a1 2),jI (a1 3),jI (a1 4)]),(12,.dm),(8,.var 3 [jI v]),(6,.dead),(0,.var 61 [.own 6 (List.map e65 l1).length,.d (.sl 3 (List.map e67 x.Horses)),jI x.Dark,jI x.Near,jI x.Match])] 14 13) ?_
     refine r_lenY trivial rfl lenm ?_
     refine aX 1 (sT [pR 11 8,pR 13 13,(53,jI v),(57,jI (wr ((l1.length:Int) - 1)))] [(13,.var 128 [jI (a1 0),jI (a1 1),jI (a1 2),jI (a1 3),jI (a1 4)]),(12,.dm),(8,.var 3 [jI v]),(6,.dead),(0,.var 61 [.own 6 (List.map e65 l1).length,.d (.sl 3 (List.map e67 x.Horses)),jI x.Dark,jI x.Near,jI x.Match])] 14 13) ?_
     obtain ⟨j,hv_24,h⟩:=bsome h
     refine r_iaV trivial rfl rfl rfl (ixN_ok hv_24).1 (ixN_ok hv_24).2.1 ?_
     refine r_loadV trivial rfl rfl (u:=jI (a1 j)) (agt (f:=fun k=>jI (a1 k)) hv_24) ?_
     refine aX 2 (sT [] [(8,.var 3 [jI (min v (a1 j))]),(13,.var 128 [jI (a1 0),jI (a1 1),jI (a1 2),jI (a1 3),jI (a1 4)]),(12,.dm),(6,.dead),(0,.var 61 [.own 6 (List.map e65 l1).length,.d (.sl 3 (List.map e67 x.Horses)),jI x.Dark,jI x.Near,jI x.Match])] 14 13) ?_
     refine Fi (sT [] [(8,.var 3 [jI (min v (a1 j))]),(12,.dm),(6,.dead),(0,.var 61 [.own 6 (List.map e65 l1).length,.d (.sl 3 (List.map e67 x.Horses)),jI x.Dark,jI x.Near,jI x.Match])] 14 13) ?_
     obtain rfl:=Option.some.inj h
     exact ⟨(sT [] [(12,.dm),(8,.var 3 [jI (min v (a1 j))]),(6,.dead),(0,.var 61 [.own 6 (List.map e65 l1).length,.d (.sl 3 (List.map e67 x.Horses)),jI x.Dark,jI x.Near,jI x.Match])] 13 13),Can.kp (by kernel_rfl),rdX trivial rfl (by kernel_rfl) (by kernel_rfl)⟩
    ·rcases out_22 with v | _
     ·refine hK_18 _ ?_
      refine AW.seqK (fun K_25 hK_25=>?_)
      refine Sa ⟨[pR 11 8,(62,.d (.bool (decide (60<v))))],[(12,.dm),(8,.var 3 [jI v])],13,Fr.emp,[12],0⟩ ?_
      refine AW.cond rfl (fun hb_26=>?_) (fun hb_26=>?_)
      ·have h:=ifT hb_26 h
       refine Sa ⟨[(4,jI 0),(5,jI 4)],[(12,.dm)],13,Fr.emp,[12],0⟩ ?_
       obtain rfl:=Option.some.inj h
       exact rT hR_0 (.cons (.tmp rfl) (.cons (.tmp rfl) .nil))
      ·have h:=ifF hb_26 h
       refine AW.skip (hK_25 _ ?_)
       refine Sa ⟨[(4,jI v),(5,jI 0)],[(12,.dm)],13,Fr.emp,[12],0⟩ ?_
       obtain rfl:=Option.some.inj h
       exact rT hR_0 (.cons (.tmp rfl) (.cons (.tmp rfl) .nil))
     ·cases h
def g86a (b_HairBook:HairBook) (mf:List (Hair_dye×Span)) (m0_HairBook:HairBook) (mf_1:List (Hair_dye×Span)):Option (HairBook×(List (Hair_dye×Span))):=some (b_HairBook,mf)
theorem k86a (b_HairBook:HairBook) (mf:List (Hair_dye×Span)) (m0_HairBook:HairBook) (mf_1:List (Hair_dye×Span)) (r:HairBook×(List (Hair_dye×Span))) (h:g86a b_HairBook mf m0_HairBook mf_1=some r):SCall Tryd.prog Gs 86 [.agg [.d (.sl 4 (List.map e65 b_HairBook.Hanks)),.d (.sl 3 (List.map e67 b_HairBook.Horses)),jI b_HairBook.Dark,jI b_HairBook.Near,jI b_HairBook.Match,.fmp (List.map m124_33 mf)],.agg [.d (.fn 119)],.clo 87 [.agg [.d (.sl 4 (List.map e65 m0_HairBook.Hanks)),.d (.sl 3 (List.map e67 m0_HairBook.Horses)),jI m0_HairBook.Dark,jI m0_HairBook.Near,jI m0_HairBook.Match,.fmp (List.map m124_33 mf_1)]] []] [] 0 Fr.emp (match r with | (o0_HairBook,mf1)=>.clo 121 [] [.ptr 0 0,.ptr 1 0,.ptr 2 0]) (match r with | (o0_HairBook,mf1)=>[(0,.var 119 (catV (cv61 o0_HairBook) [.fmp (List.map m124_33 mf1)])),(1,.var 133 [.d (.fn 119)]),(2,.var 108 [.clo 87 [.agg [.d (.sl 4 (List.map e65 m0_HairBook.Hanks)),.d (.sl 3 (List.map e67 m0_HairBook.Horses)),jI m0_HairBook.Dark,jI m0_HairBook.Near,jI m0_HairBook.Match,.fmp (List.map m124_33 mf_1)]] []])]) 3 Fr.emp:=by
 unfold g86a at h
 refine SCall.mkK Tryd.func86 c86 rfl rfl (by kernel_rfl) (fun Q_0 hR_0 hN_0=>?_)
 refine Sa (sT [pR 3 0,pR 4 1,pR 5 2] [(2,.var 108 [.clo 87 [.agg [.d (.sl 4 (List.map e65 m0_HairBook.Hanks)),.d (.sl 3 (List.map e67 m0_HairBook.Horses)),jI m0_HairBook.Dark,jI m0_HairBook.Near,jI m0_HairBook.Match,.fmp (List.map m124_33 mf_1)]] []]),(1,.var 133 [.d (.fn 119)]),(0,.var 119 (catV (cv61 b_HairBook) [.fmp (List.map m124_33 mf)]))] 3 0) ?_
 refine Sa (sT [(6,.clo 121 [] [.ptr 0 0,.ptr 1 0,.ptr 2 0])] [(2,.var 108 [.clo 87 [.agg [.d (.sl 4 (List.map e65 m0_HairBook.Hanks)),.d (.sl 3 (List.map e67 m0_HairBook.Horses)),jI m0_HairBook.Dark,jI m0_HairBook.Near,jI m0_HairBook.Match,.fmp (List.map m124_33 mf_1)]] []]),(1,.var 133 [.d (.fn 119)]),(0,.var 119 (catV (cv61 b_HairBook) [.fmp (List.map m124_33 mf)]))] 3 0) ?_
 obtain rfl:=Option.some.inj h
 exact rT hR_0 (.cons (.tmp rfl) .nil)
def g122a_16 {S_:Type} (rec_:(List Int)→(Nat→Int)→HairBook→(List (Hair_dye×Span))→HairBook→(List (Hair_dye×Span))→S_→Option (Bool×S_)) (plan:(List Int)) (cut:(Nat→Int)) (o0_HairBook:HairBook) (mf:List (Hair_dye×Span)) (m0_HairBook:HairBook) (mf_1:List (Hair_dye×Span)) (need:Int):Int→HairHank→S_→Option (Ctl (S_) (Bool×S_)):=fun v p2 s_2=>bindC ((ixN 5 v).bind fun j1=>(g119 p2.Weight).bind fun r0_2=>bif (decide (r0_2<(wr ((cut j1)+need)))) then (some (.brk (.next s_2))) else (bif (decide (((plan.length:Int).tmod 2)=1)) then ((ixL plan (wr ((plan.length:Int) - 1))).bind fun p3=>(g87 m0_HairBook mf_1 (wr ((plan.length:Int).tdiv 2)) p3 v).bind fun r0_3=>bif (!r0_3) then (some (.brk (.next s_2))) else (some (.next ()))) else (some (.next ()))):Option (Ctl (Unit) (Ctl (S_) (Bool×S_)))) fun _=>(ixN 5 v).bind fun j2=>(ixN 5 v).bind fun j3=>(slcL plan 0 (plan.length:Int)).bind fun l=>(appL 8 l [v]).bind fun l1=>(rec_ l1 (aset cut j3 (wr ((cut j2)+need))) o0_HairBook mf m0_HairBook mf_1 s_2).bind fun (r0_7_1,s_5_1)=>bif (!r0_7_1) then (some (.brk (false,s_5_1))) else (some (.next s_5_1))
def g122a {S_:Type} (c_:(List Int)→(Nat→Int)→S_→Option (S_×Bool)):Nat→(List Int)→(Nat→Int)→HairBook→(List (Hair_dye×Span))→HairBook→(List (Hair_dye×Span))→S_→Option (Bool×S_)
 | 0,_,_,_,_,_,_,_=>none
 | n_+1,plan,cut,o0_HairBook,mf,m0_HairBook,mf_1,s_=>bif (decide ((plan.length:Int)=(wr (2*(o0_HairBook.Horses.length:Int))))) then ((c_ plan cut s_).bind fun (s_1,go)=>some (go,s_1)) else (((ixN 2 ((plan.length:Int).tmod 2)).bind fun j=>match j with | 0=>(ixL o0_HairBook.Horses (wr ((plan.length:Int).tdiv 2))).bind fun p=>(g154 p).bind fun r0=>some r0 | 1=>(ixL o0_HairBook.Horses (wr ((plan.length:Int).tdiv 2))).bind fun p1=>(g161 p1).bind fun r0_1=>some r0_1 | _=>none).bind fun need=>bindC (eachC (g122a_16 (g122a c_ n_) plan cut o0_HairBook mf m0_HairBook mf_1 need) o0_HairBook.Hanks 0 s_) fun s_2=>some (true,s_2))
theorem k122a {S_:Type} (fr_:S_→Fr) (c_:(List Int)→(Nat→Int)→S_→Option (S_×Bool)) (hc_:∀ (a0:(List Int)) (a1:(Nat→Int)) s s2 b,c_ a0 a1 s=some (s2,b)→YCall Tryd.prog Gs (fr_ s) [.d (.sl 1 (List.map e3 a0)),.agg [jI (a1 0),jI (a1 1),jI (a1 2),jI (a1 3),jI (a1 4)]] (.d (.bool b)) (fr_ s2)):∀ (n_:Nat) (plan:(List Int)) (cut:(Nat→Int)) (o0_HairBook:HairBook) (mf:List (Hair_dye×Span)) (m0_HairBook:HairBook) (mf_1:List (Hair_dye×Span)) (s_:S_) (r:Bool×S_) (h:g122a c_ n_ plan cut o0_HairBook mf m0_HairBook mf_1 s_=some r),SCall Tryd.prog Gs 122 [.d (.sl 1 (List.map e3 plan)),.agg [jI (cut 0),jI (cut 1),jI (cut 2),jI (cut 3),jI (cut 4)],.ptr 0 0,.ptr 1 0,.ptr 2 0,.ptr 3 0,.ptr 4 0] [(0,.var 119 (catV (cv61 o0_HairBook) [.fmp (List.map m124_33 mf)])),(1,.var 187 [.yld]),(2,.var 133 [.d (.fn 119)]),(3,.var 108 [.clo 87 [.agg [.d (.sl 4 (List.map e65 m0_HairBook.Hanks)),.d (.sl 3 (List.map e67 m0_HairBook.Horses)),jI m0_HairBook.Dark,jI m0_HairBook.Near,jI m0_HairBook.Match,.fmp (List.map m124_33 mf_1)]] []]),(4,.var 187 [.clo 122 [] [.ptr 0 0,.ptr 1 0,.ptr 2 0,.ptr 3 0,.ptr 4 0]])] 5 (fr_ s_) (match r with | (r0_7,s_5)=>.d (.bool r0_7)) (match r with | (r0_7,s_5)=>[(0,.var 119 (catV (cv61 o0_HairBook) [.fmp (List.map m124_33 mf)])),(1,.var 187 [.yld]),(2,.var 133 [.d (.fn 119)]),(3,.var 108 [.clo 87 [.agg [.d (.sl 4 (List.map e65 m0_HairBook.Hanks)),.d (.sl 3 (List.map e67 m0_HairBook.Horses)),jI m0_HairBook.Dark,jI m0_HairBook.Near,jI m0_HairBook.Match,.fmp (List.map m124_33 mf_1)]] []]),(4,.var 187 [.clo 122 [] [.ptr 0 0,.ptr 1 0,.ptr 2 0,.ptr 3 0,.ptr 4 0]])]) 5 (fr_ (match r with | (r0_7,s_5)=>s_5)):=by
 intro n_
 induction n_ with
 | zero=>intro plan cut o0_HairBook mf m0_HairBook mf_1 s_ r h;cases h
 | succ n_ ih=>
  intro plan cut o0_HairBook mf m0_HairBook mf_1 s_ r h
  rw [g122a] at h
  refine SCall.mkK Tryd.func122 c122 rfl rfl (by kernel_rfl) (fun Q_0 hR_0 hN_0=>?_)
  refine Sa ⟨[(0,.d (.sl 1 (List.map e3 plan))),pR 2 0,pR 3 1,pR 4 2,pR 5 3,pR 6 4,pR 8 5],[(5,.var 128 [jI (cut 0),jI (cut 1),jI (cut 2),jI (cut 3),jI (cut 4)]),(0,.var 119 (catV (cv61 o0_HairBook) [.fmp (List.map m124_33 mf)])),(1,.var 187 [.yld]),(2,.var 133 [.d (.fn 119)]),(3,.var 108 [.clo 87 [.agg [.d (.sl 4 (List.map e65 m0_HairBook.Hanks)),.d (.sl 3 (List.map e67 m0_HairBook.Horses)),jI m0_HairBook.Dark,jI m0_HairBook.Near,jI m0_HairBook.Match,.fmp (List.map m124_33 mf_1)]] []]),(4,.var 187 [.clo 122 [] [.ptr 0 0,.ptr 1 0,.ptr 2 0,.ptr 3 0,.ptr 4 0]])],6,(fr_ s_),[],5⟩ ?_
  refine AW.scope ?_
  refine AW.srwK (fun Q_1 hQ_1=>?_)
  refine Au 1 ⟨[(0,.d (.sl 1 (List.map e3 plan))),pR 2 0,pR 3 1,pR 4 2,pR 5 3,pR 6 4,pR 8 5,(15,.d (.sl 1 (List.map e3 plan)))],[(5,.var 128 [jI (cut 0),jI (cut 1),jI (cut 2),jI (cut 3),jI (cut 4)]),(0,.var 119 (catV (cv61 o0_HairBook) [.fmp (List.map m124_33 mf)])),(1,.var 187 [.yld]),(2,.var 133 [.d (.fn 119)]),(3,.var 108 [.clo 87 [.agg [.d (.sl 4 (List.map e65 m0_HairBook.Hanks)),.d (.sl 3 (List.map e67 m0_HairBook.Horses)),jI m0_HairBook.Dark,jI m0_HairBook.Near,jI m0_HairBook.Match,.fmp (List.map m124_33 mf_1)]] []]),(4,.var 187 [.clo 122 [] [.ptr 0 0,.ptr 1 0,.ptr 2 0,.ptr 3 0,.ptr 4 0]])],6,(fr_ s_),[],5⟩ ?_
  refine rL rfl ?_
  refine Au 1 ⟨[(0,.d (.sl 1 (List.map e3 plan))),pR 2 0,pR 3 1,pR 4 2,pR 5 3,pR 6 4,pR 8 5,(10,jI (plan.length:Int))],[(5,.var 128 [jI (cut 0),jI (cut 1),jI (cut 2),jI (cut 3),jI (cut 4)]),(0,.var 119 (catV (cv61 o0_HairBook) [.fmp (List.map m124_33 mf)])),(1,.var 187 [.yld]),(2,.var 133 [.d (.fn 119)]),(3,.var 108 [.clo 87 [.agg [.d (.sl 4 (List.map e65 m0_HairBook.Hanks)),.d (.sl 3 (List.map e67 m0_HairBook.Horses)),jI m0_HairBook.Dark,jI m0_HairBook.Near,jI m0_HairBook.Match,.fmp (List.map m124_33 mf_1)]] []]),(4,.var 187 [.clo 122 [] [.ptr 0 0,.ptr 1 0,.ptr 2 0,.ptr 3 0,.ptr 4 0]])],6,(fr_ s_),[],5⟩ ?_
  refine RW.nil (hQ_1 _ ?_)
  refine AW.seqK fun K_2 hK_2=>AW.srwK fun Q_3 hQ_3=>?_
  refine Au 4 ⟨[(0,.d (.sl 1 (List.map e3 plan))),pR 2 0,pR 3 1,pR 4 2,pR 5 3,pR 6 4,pR 8 5,(10,jI (plan.length:Int)),(17,jI (plan.length:Int)),(20,.d (.sl 3 (List.map e67 o0_HairBook.Horses)))],[(5,.var 128 [jI (cut 0),jI (cut 1),jI (cut 2),jI (cut 3),jI (cut 4)]),(0,.var 119 (catV (cv61 o0_HairBook) [.fmp (List.map m124_33 mf)])),(1,.var 187 [.yld]),(2,.var 133 [.d (.fn 119)]),(3,.var 108 [.clo 87 [.agg [.d (.sl 4 (List.map e65 m0_HairBook.Hanks)),.d (.sl 3 (List.map e67 m0_HairBook.Horses)),jI m0_HairBook.Dark,jI m0_HairBook.Near,jI m0_HairBook.Match,.fmp (List.map m124_33 mf_1)]] []]),(4,.var 187 [.clo 122 [] [.ptr 0 0,.ptr 1 0,.ptr 2 0,.ptr 3 0,.ptr 4 0]])],6,(fr_ s_),[],5⟩ ?_
  refine rL rfl ?_
  refine Au 2 ⟨[(0,.d (.sl 1 (List.map e3 plan))),pR 2 0,pR 3 1,pR 4 2,pR 5 3,pR 6 4,pR 8 5,(10,jI (plan.length:Int)),(23,.d (.bool (decide ((plan.length:Int)=(wr (2*(o0_HairBook.Horses.length:Int)))))))],[(5,.var 128 [jI (cut 0),jI (cut 1),jI (cut 2),jI (cut 3),jI (cut 4)]),(0,.var 119 (catV (cv61 o0_HairBook) [.fmp (List.map m124_33 mf)])),(1,.var 187 [.yld]),(2,.var 133 [.d (.fn 119)]),(3,.var 108 [.clo 87 [.agg [.d (.sl 4 (List.map e65 m0_HairBook.Hanks)),.d (.sl 3 (List.map e67 m0_HairBook.Horses)),jI m0_HairBook.Dark,jI m0_HairBook.Near,jI m0_HairBook.Match,.fmp (List.map m124_33 mf_1)]] []]),(4,.var 187 [.clo 122 [] [.ptr 0 0,.ptr 1 0,.ptr 2 0,.ptr 3 0,.ptr 4 0]])],6,(fr_ s_),[],5⟩ ?_
  refine RW.nil (hQ_3 _ ?_)
  refine AW.cond rfl (fun hb_4=>?_) (fun hb_4=>?_)
  ·have h:=ifT hb_4 h
   refine AW.srwK (fun Q_5 hQ_5=>?_)
   refine Au 3 ⟨[(24,.yld),(25,.d (.sl 1 (List.map e3 plan))),(26,.agg [jI (cut 0),jI (cut 1),jI (cut 2),jI (cut 3),jI (cut 4)])],[(0,.var 119 (catV (cv61 o0_HairBook) [.fmp (List.map m124_33 mf)])),(1,.var 187 [.yld]),(2,.var 133 [.d (.fn 119)]),(3,.var 108 [.clo 87 [.agg [.d (.sl 4 (List.map e65 m0_HairBook.Hanks)),.d (.sl 3 (List.map e67 m0_HairBook.Horses)),jI m0_HairBook.Dark,jI m0_HairBook.Near,jI m0_HairBook.Match,.fmp (List.map m124_33 mf_1)]] []]),(4,.var 187 [.clo 122 [] [.ptr 0 0,.ptr 1 0,.ptr 2 0,.ptr 3 0,.ptr 4 0]])],6,(fr_ s_),[],5⟩ ?_
   obtain ⟨⟨s_1,go⟩,hx_6,h⟩:=bsome h
   refine RW.one fokW (r_yield (zr:=[]) trivial rfl rfl (hc_ plan cut _ _ _ hx_6) trivial ⟨.refl _,.refl _,trivial⟩ rfl rfl rfl rfl (r_end ?_))
   refine Au 1 ⟨[(9,.d (.bool go))],[(0,.var 119 (catV (cv61 o0_HairBook) [.fmp (List.map m124_33 mf)])),(1,.var 187 [.yld]),(2,.var 133 [.d (.fn 119)]),(3,.var 108 [.clo 87 [.agg [.d (.sl 4 (List.map e65 m0_HairBook.Hanks)),.d (.sl 3 (List.map e67 m0_HairBook.Horses)),jI m0_HairBook.Dark,jI m0_HairBook.Near,jI m0_HairBook.Match,.fmp (List.map m124_33 mf_1)]] []]),(4,.var 187 [.clo 122 [] [.ptr 0 0,.ptr 1 0,.ptr 2 0,.ptr 3 0,.ptr 4 0]])],6,(fr_ s_1),[],5⟩ ?_
   refine RW.nil (hQ_5 _ ?_)
   obtain rfl:=Option.some.inj h
   exact rT hR_0 (.cons (.tmp rfl) .nil)
  ·have h:=ifF hb_4 h
   refine AW.skip (hK_2 _ ?_)
   obtain ⟨need,hx_7,h⟩:=bsome h
   refine AW.jnSK (fun (need:Int)=>⟨[(0,.d (.sl 1 (List.map e3 plan))),pR 2 0,pR 4 2,pR 5 3,pR 6 4,pR 8 5,(10,jI (plan.length:Int)),(11,jI need)],[(5,.var 128 [jI (cut 0),jI (cut 1),jI (cut 2),jI (cut 3),jI (cut 4)]),(0,.var 119 (catV (cv61 o0_HairBook) [.fmp (List.map m124_33 mf)])),(1,.var 187 [.yld]),(2,.var 133 [.d (.fn 119)]),(3,.var 108 [.clo 87 [.agg [.d (.sl 4 (List.map e65 m0_HairBook.Hanks)),.d (.sl 3 (List.map e67 m0_HairBook.Horses)),jI m0_HairBook.Dark,jI m0_HairBook.Near,jI m0_HairBook.Match,.fmp (List.map m124_33 mf_1)]] []]),(4,.var 187 [.clo 122 [] [.ptr 0 0,.ptr 1 0,.ptr 2 0,.ptr 3 0,.ptr 4 0]])],6,(fr_ s_),[],5⟩) (c:=need) (fun K_7 hK_7=>?_) ?_
   ·have h:=hx_7
    refine AW.drw fokW ?_
    refine aX 2 ⟨[(0,.d (.sl 1 (List.map e3 plan))),pR 2 0,pR 4 2,pR 5 3,pR 6 4,pR 8 5,(10,jI (plan.length:Int)),(29,jI ((plan.length:Int).tmod 2))],[(5,.var 128 [jI (cut 0),jI (cut 1),jI (cut 2),jI (cut 3),jI (cut 4)]),(0,.var 119 (catV (cv61 o0_HairBook) [.fmp (List.map m124_33 mf)])),(1,.var 187 [.yld]),(2,.var 133 [.d (.fn 119)]),(3,.var 108 [.clo 87 [.agg [.d (.sl 4 (List.map e65 m0_HairBook.Hanks)),.d (.sl 3 (List.map e67 m0_HairBook.Horses)),jI m0_HairBook.Dark,jI m0_HairBook.Near,jI m0_HairBook.Match,.fmp (List.map m124_33 mf_1)]] []]),(4,.var 187 [.clo 122 [] [.ptr 0 0,.ptr 1 0,.ptr 2 0,.ptr 3 0,.ptr 4 0]])],6,(fr_ s_),[],5⟩ ?_
    obtain ⟨j,hv_9,h⟩:=bsome h
    rcases j with _ | _ | j
    ·refine r_iaF trivial rfl rfl (ixN_ok hv_9).1 (ixN_ok hv_9).2.1 ?_
     refine r_loadF trivial rfl (u:=.fn 154) (by rw [(ixN_ok hv_9).2.2];rfl) ?_
     refine aX 5 ⟨[(0,.d (.sl 1 (List.map e3 plan))),pR 2 0,pR 4 2,pR 5 3,pR 6 4,pR 8 5,(10,jI (plan.length:Int)),(31,.d (.fn 154)),(34,.d (.sl 3 (List.map e67 o0_HairBook.Horses))),(36,jI (wr ((plan.length:Int).tdiv 2)))],[(5,.var 128 [jI (cut 0),jI (cut 1),jI (cut 2),jI (cut 3),jI (cut 4)]),(0,.var 119 (catV (cv61 o0_HairBook) [.fmp (List.map m124_33 mf)])),(1,.var 187 [.yld]),(2,.var 133 [.d (.fn 119)]),(3,.var 108 [.clo 87 [.agg [.d (.sl 4 (List.map e65 m0_HairBook.Hanks)),.d (.sl 3 (List.map e67 m0_HairBook.Horses)),jI m0_HairBook.Dark,jI m0_HairBook.Near,jI m0_HairBook.Match,.fmp (List.map m124_33 mf_1)]] []]),(4,.var 187 [.clo 122 [] [.ptr 0 0,.ptr 1 0,.ptr 2 0,.ptr 3 0,.ptr 4 0]])],6,(fr_ s_),[],5⟩ ?_
     obtain ⟨p,hv_10,h⟩:=bsome h
     refine r_iaD trivial rfl rfl (ixL_ok hv_10).1 (row:=e67 p) (mapget (ixL_ok hv_10).2) ?_
     refine aX 1 ⟨[(0,.d (.sl 1 (List.map e3 plan))),pR 2 0,pR 4 2,pR 5 3,pR 6 4,pR 8 5,(10,jI (plan.length:Int)),(31,.d (.fn 154)),(38,.agg [jI p.Mane,jI p.Tail,jI p.Shade])],[(5,.var 128 [jI (cut 0),jI (cut 1),jI (cut 2),jI (cut 3),jI (cut 4)]),(0,.var 119 (catV (cv61 o0_HairBook) [.fmp (List.map m124_33 mf)])),(1,.var 187 [.yld]),(2,.var 133 [.d (.fn 119)]),(3,.var 108 [.clo 87 [.agg [.d (.sl 4 (List.map e65 m0_HairBook.Hanks)),.d (.sl 3 (List.map e67 m0_HairBook.Horses)),jI m0_HairBook.Dark,jI m0_HairBook.Near,jI m0_HairBook.Match,.fmp (List.map m124_33 mf_1)]] []]),(4,.var 187 [.clo 122 [] [.ptr 0 0,.ptr 1 0,.ptr 2 0,.ptr 3 0,.ptr 4 0]])],6,(fr_ s_),[],5⟩ ?_
     obtain ⟨r0,hx_11,h⟩:=bsome h
     refine r_callvZ (zr:=[]) trivial rfl (.fn _) (by kernel_rfl) rfl (k154 p _ hx_11) trivial ⟨.refl _,trivial⟩ rfl rfl rfl rfl ?_
     refine aX 1 ⟨[(0,.d (.sl 1 (List.map e3 plan))),pR 2 0,pR 4 2,pR 5 3,pR 6 4,pR 8 5,(10,jI (plan.length:Int)),(11,jI r0)],[(5,.var 128 [jI (cut 0),jI (cut 1),jI (cut 2),jI (cut 3),jI (cut 4)]),(0,.var 119 (catV (cv61 o0_HairBook) [.fmp (List.map m124_33 mf)])),(1,.var 187 [.yld]),(2,.var 133 [.d (.fn 119)]),(3,.var 108 [.clo 87 [.agg [.d (.sl 4 (List.map e65 m0_HairBook.Hanks)),.d (.sl 3 (List.map e67 m0_HairBook.Horses)),jI m0_HairBook.Dark,jI m0_HairBook.Near,jI m0_HairBook.Match,.fmp (List.map m124_33 mf_1)]] []]),(4,.var 187 [.clo 122 [] [.ptr 0 0,.ptr 1 0,.ptr 2 0,.ptr 3 0,.ptr 4 0]])],6,(fr_ s_),[],5⟩ ?_
     refine Fi ⟨[(0,.d (.sl 1 (List.map e3 plan))),pR 2 0,pR 4 2,pR 5 3,pR 6 4,pR 8 5,(10,jI (plan.length:Int)),(11,jI r0)],[(5,.var 128 [jI (cut 0),jI (cut 1),jI (cut 2),jI (cut 3),jI (cut 4)]),(0,.var 119 (catV (cv61 o0_HairBook) [.fmp (List.map m124_33 mf)])),(1,.var 187 [.yld]),(2,.var 133 [.d (.fn 119)]),(3,.var 108 [.clo 87 [.agg [.d (.sl 4 (List.map e65 m0_HairBook.Hanks)),.d (.sl 3 (List.map e67 m0_HairBook.Horses)),jI m0_HairBook.Dark,jI m0_HairBook.Near,jI m0_HairBook.Match,.fmp (List.map m124_33 mf_1)]] []]),(4,.var 187 [.clo 122 [] [.ptr 0 0,.ptr 1 0,.ptr 2 0,.ptr 3 0,.ptr 4 0]])],6,(fr_ s_),[],5⟩ ?_
     obtain rfl:=Option.some.inj h
     exact hK_7 _ (Can.kp (by kernel_rfl))
    ·refine r_iaF trivial rfl rfl (ixN_ok hv_9).1 (ixN_ok hv_9).2.1 ?_
     refine r_loadF trivial rfl (u:=.fn 161) (by rw [(ixN_ok hv_9).2.2];rfl) ?_
     refine aX 5 ⟨[(0,.d (.sl 1 (List.map e3 plan))),pR 2 0,pR 4 2,pR 5 3,pR 6 4,pR 8 5,(10,jI (plan.length:Int)),(31,.d (.fn 161)),(34,.d (.sl 3 (List.map e67 o0_HairBook.Horses))),(36,jI (wr ((plan.length:Int).tdiv 2)))],[(5,.var 128 [jI (cut 0),jI (cut 1),jI (cut 2),jI (cut 3),jI (cut 4)]),(0,.var 119 (catV (cv61 o0_HairBook) [.fmp (List.map m124_33 mf)])),(1,.var 187 [.yld]),(2,.var 133 [.d (.fn 119)]),(3,.var 108 [.clo 87 [.agg [.d (.sl 4 (List.map e65 m0_HairBook.Hanks)),.d (.sl 3 (List.map e67 m0_HairBook.Horses)),jI m0_HairBook.Dark,jI m0_HairBook.Near,jI m0_HairBook.Match,.fmp (List.map m124_33 mf_1)]] []]),(4,.var 187 [.clo 122 [] [.ptr 0 0,.ptr 1 0,.ptr 2 0,.ptr 3 0,.ptr 4 0]])],6,(fr_ s_),[],5⟩ ?_
     obtain ⟨p1,hv_12,h⟩:=bsome h
     refine r_iaD trivial rfl rfl (ixL_ok hv_12).1 (row:=e67 p1) (mapget (ixL_ok hv_12).2) ?_
     refine aX 1 ⟨[(0,.d (.sl 1 (List.map e3 plan))),pR 2 0,pR 4 2,pR 5 3,pR 6 4,pR 8 5,(10,jI (plan.length:Int)),(31,.d (.fn 161)),(38,.agg [jI p1.Mane,jI p1.Tail,jI p1.Shade])],[(5,.var 128 [jI (cut 0),jI (cut 1),jI (cut 2),jI (cut 3),jI (cut 4)]),(0,.var 119 (catV (cv61 o0_HairBook) [.fmp (List.map m124_33 mf)])),(1,.var 187 [.yld]),(2,.var 133 [.d (.fn 119)]),(3,.var 108 [.clo 87 [.agg [.d (.sl 4 (List.map e65 m0_HairBook.Hanks)),.d (.sl 3 (List.map e67 m0_HairBook.Horses)),jI m0_HairBook.Dark,jI m0_HairBook.Near,jI m0_HairBook.Match,.fmp (List.map m124_33 mf_1)]] []]),(4,.var 187 [.clo 122 [] [.ptr 0 0,.ptr 1 0,.ptr 2 0,.ptr 3 0,.ptr 4 0]])],6,(fr_ s_),[],5⟩ ?_
     obtain ⟨r0_1,hx_13,h⟩:=bsome h
     refine r_callvZ (zr:=[]) trivial rfl (.fn _) (by kernel_rfl) rfl (k161 p1 _ hx_13) trivial ⟨.refl _,trivial⟩ rfl rfl rfl rfl ?_
     refine aX 1 ⟨[(0,.d (.sl 1 (List.map e3 plan))),pR 2 0,pR 4 2,pR 5 3,pR 6 4,pR 8 5,(10,jI (plan.length:Int)),(11,jI r0_1)],[(5,.var 128 [jI (cut 0),jI (cut 1),jI (cut 2),jI (cut 3),jI (cut 4)]),(0,.var 119 (catV (cv61 o0_HairBook) [.fmp (List.map m124_33 mf)])),(1,.var 187 [.yld]),(2,.var 133 [.d (.fn 119)]),(3,.var 108 [.clo 87 [.agg [.d (.sl 4 (List.map e65 m0_HairBook.Hanks)),.d (.sl 3 (List.map e67 m0_HairBook.Horses)),jI m0_HairBook.Dark,jI m0_HairBook.Near,jI m0_HairBook.Match,.fmp (List.map m124_33 mf_1)]] []]),(4,.var 187 [.clo 122 [] [.ptr 0 0,.ptr 1 0,.ptr 2 0,.ptr 3 0,.ptr 4 0]])],6,(fr_ s_),[],5⟩ ?_
     refine Fi ⟨[(0,.d (.sl 1 (List.map e3 plan))),pR 2 0,pR 4 2,pR 5 3,pR 6 4,pR 8 5,(10,jI (plan.length:Int)),(11,jI r0_1)],[(5,.var 128 [jI (cut 0),jI (cut 1),jI (cut 2),jI (cut 3),jI (cut 4)]),(0,.var 119 (catV (cv61 o0_HairBook) [.fmp (List.map m124_33 mf)])),(1,.var 187 [.yld]),(2,.var 133 [.d (.fn 119)]),(3,.var 108 [.clo 87 [.agg [.d (.sl 4 (List.map e65 m0_HairBook.Hanks)),.d (.sl 3 (List.map e67 m0_HairBook.Horses)),jI m0_HairBook.Dark,jI m0_HairBook.Near,jI m0_HairBook.Match,.fmp (List.map m124_33 mf_1)]] []]),(4,.var 187 [.clo 122 [] [.ptr 0 0,.ptr 1 0,.ptr 2 0,.ptr 3 0,.ptr 4 0]])],6,(fr_ s_),[],5⟩ ?_
     obtain rfl:=Option.some.inj h
     exact hK_7 _ (Can.kp (by kernel_rfl))
    ·cases h
   ·refine AW.seq (AW.skip ?_)
    refine AW.seqK fun K_14 hK_14=>AW.srwK fun Q_15 hQ_15=>?_
    refine Au 3 ⟨[(0,.d (.sl 1 (List.map e3 plan))),pR 4 2,pR 5 3,pR 6 4,pR 8 5,(10,jI (plan.length:Int)),(11,jI need),(42,.d (.sl 4 (List.map e65 o0_HairBook.Hanks)))],[(5,.var 128 [jI (cut 0),jI (cut 1),jI (cut 2),jI (cut 3),jI (cut 4)]),(0,.var 119 (catV (cv61 o0_HairBook) [.fmp (List.map m124_33 mf)])),(1,.var 187 [.yld]),(2,.var 133 [.d (.fn 119)]),(3,.var 108 [.clo 87 [.agg [.d (.sl 4 (List.map e65 m0_HairBook.Hanks)),.d (.sl 3 (List.map e67 m0_HairBook.Horses)),jI m0_HairBook.Dark,jI m0_HairBook.Near,jI m0_HairBook.Match,.fmp (List.map m124_33 mf_1)]] []]),(4,.var 187 [.clo 122 [] [.ptr 0 0,.ptr 1 0,.ptr 2 0,.ptr 3 0,.ptr 4 0]])],6,(fr_ s_),[],5⟩ ?_
    refine rL rfl ?_
    refine Au 1 ⟨[(0,.d (.sl 1 (List.map e3 plan))),pR 4 2,pR 5 3,pR 6 4,pR 8 5,(10,jI (plan.length:Int)),(11,jI need),(42,.d (.sl 4 (List.map e65 o0_HairBook.Hanks))),(43,jI (o0_HairBook.Hanks.length:Int)),(44,jI 0)],[(5,.var 128 [jI (cut 0),jI (cut 1),jI (cut 2),jI (cut 3),jI (cut 4)]),(0,.var 119 (catV (cv61 o0_HairBook) [.fmp (List.map m124_33 mf)])),(1,.var 187 [.yld]),(2,.var 133 [.d (.fn 119)]),(3,.var 108 [.clo 87 [.agg [.d (.sl 4 (List.map e65 m0_HairBook.Hanks)),.d (.sl 3 (List.map e67 m0_HairBook.Horses)),jI m0_HairBook.Dark,jI m0_HairBook.Near,jI m0_HairBook.Match,.fmp (List.map m124_33 mf_1)]] []]),(4,.var 187 [.clo 122 [] [.ptr 0 0,.ptr 1 0,.ptr 2 0,.ptr 3 0,.ptr 4 0]])],6,(fr_ s_),[],5⟩ ?_
    refine RW.nil (hQ_15 _ ?_)
    refine AW.block ?_
    refine AW.sln (t:=42) rfl (fun hN_16=>?_)
    rw [List.length_map] at hN_16
    obtain ⟨out_16,hx_16,hk_16⟩:=bsomeC h
    refine AW.evCK (fun (v:Int) (s_2:S_)=>⟨[(0,.d (.sl 1 (List.map e3 plan))),pR 4 2,pR 5 3,pR 6 4,pR 8 5,(10,jI (plan.length:Int)),(11,jI need),(42,.d (.sl 4 (List.map e65 o0_HairBook.Hanks))),(43,jI (o0_HairBook.Hanks.length:Int)),(44,jI v)],[(5,.var 128 [jI (cut 0),jI (cut 1),jI (cut 2),jI (cut 3),jI (cut 4)]),(0,.var 119 (catV (cv61 o0_HairBook) [.fmp (List.map m124_33 mf)])),(1,.var 187 [.yld]),(2,.var 133 [.d (.fn 119)]),(3,.var 108 [.clo 87 [.agg [.d (.sl 4 (List.map e65 m0_HairBook.Hanks)),.d (.sl 3 (List.map e67 m0_HairBook.Horses)),jI m0_HairBook.Dark,jI m0_HairBook.Near,jI m0_HairBook.Match,.fmp (List.map m124_33 mf_1)]] []]),(4,.var 187 [.clo 122 [] [.ptr 0 0,.ptr 1 0,.ptr 2 0,.ptr 3 0,.ptr 4 0]])],6,(fr_ s_2),[],5⟩) (g122a_16 (g122a c_ n_) plan cut o0_HairBook mf m0_HairBook mf_1 need) hx_16 (Can.kp (by kernel_rfl)) (fun v p2 s_2 hi_16 hl_16 hp_16 c_16 h hb_16 K_16 hK_16=>?_) (fun v s_2 hi_16 hl_16 hout=>?_)
    ·unfold g122a_16 at h
     refine Sa ⟨[(0,.d (.sl 1 (List.map e3 plan))),pR 4 2,pR 5 3,pR 6 4,pR 8 5,(10,jI (plan.length:Int)),(11,jI need),(42,.d (.sl 4 (List.map e65 o0_HairBook.Hanks))),(43,jI (o0_HairBook.Hanks.length:Int)),(44,jI v),(45,.d (.bool (decide (v<(o0_HairBook.Hanks.length:Int)))))],[(5,.var 128 [jI (cut 0),jI (cut 1),jI (cut 2),jI (cut 3),jI (cut 4)]),(0,.var 119 (catV (cv61 o0_HairBook) [.fmp (List.map m124_33 mf)])),(1,.var 187 [.yld]),(2,.var 133 [.d (.fn 119)]),(3,.var 108 [.clo 87 [.agg [.d (.sl 4 (List.map e65 m0_HairBook.Hanks)),.d (.sl 3 (List.map e67 m0_HairBook.Horses)),jI m0_HairBook.Dark,jI m0_HairBook.Near,jI m0_HairBook.Match,.fmp (List.map m124_33 mf_1)]] []]),(4,.var 187 [.clo 122 [] [.ptr 0 0,.ptr 1 0,.ptr 2 0,.ptr 3 0,.ptr 4 0]])],6,(fr_ s_2),[],5⟩ ?_
     refine AW.seqK (fun K_17 hK_17=>?_)
     refine AW.cond rfl (fun hb_18=>?_) (fun hb_18=>False.elim (by have:=of_decide_eq_false hb_18;omega))
     refine AW.skip (hK_17 _ ?_)
     refine AW.seqK (fun K_19 hK_19=>?_)
     refine AW.block ?_
     refine AW.srwK (fun Q_20 hQ_20=>?_)
     refine Au 1 ⟨[(0,.d (.sl 1 (List.map e3 plan))),pR 4 2,pR 5 3,pR 6 4,pR 8 5,(10,jI (plan.length:Int)),(11,jI need),(42,.d (.sl 4 (List.map e65 o0_HairBook.Hanks))),(43,jI (o0_HairBook.Hanks.length:Int)),(44,jI v),(46,jI v)],[(5,.var 128 [jI (cut 0),jI (cut 1),jI (cut 2),jI (cut 3),jI (cut 4)]),(0,.var 119 (catV (cv61 o0_HairBook) [.fmp (List.map m124_33 mf)])),(1,.var 187 [.yld]),(2,.var 133 [.d (.fn 119)]),(3,.var 108 [.clo 87 [.agg [.d (.sl 4 (List.map e65 m0_HairBook.Hanks)),.d (.sl 3 (List.map e67 m0_HairBook.Horses)),jI m0_HairBook.Dark,jI m0_HairBook.Near,jI m0_HairBook.Match,.fmp (List.map m124_33 mf_1)]] []]),(4,.var 187 [.clo 122 [] [.ptr 0 0,.ptr 1 0,.ptr 2 0,.ptr 3 0,.ptr 4 0]])],6,(fr_ s_2),[],5⟩ ?_
     refine RW.one fokW (r_iaD trivial rfl rfl hi_16 (row:=e65 p2) (mapget hp_16) (r_end ?_))
     refine Au 4 ⟨[(0,.d (.sl 1 (List.map e3 plan))),pR 4 2,pR 5 3,pR 6 4,pR 8 5,(10,jI (plan.length:Int)),(11,jI need),(12,jI v),pR 13 6,(42,.d (.sl 4 (List.map e65 o0_HairBook.Hanks))),(43,jI (o0_HairBook.Hanks.length:Int)),(44,jI v)],[(6,.var 65 (cv65 p2)),(5,.var 128 [jI (cut 0),jI (cut 1),jI (cut 2),jI (cut 3),jI (cut 4)]),(0,.var 119 (catV (cv61 o0_HairBook) [.fmp (List.map m124_33 mf)])),(1,.var 187 [.yld]),(2,.var 133 [.d (.fn 119)]),(3,.var 108 [.clo 87 [.agg [.d (.sl 4 (List.map e65 m0_HairBook.Hanks)),.d (.sl 3 (List.map e67 m0_HairBook.Horses)),jI m0_HairBook.Dark,jI m0_HairBook.Near,jI m0_HairBook.Match,.fmp (List.map m124_33 mf_1)]] []]),(4,.var 187 [.clo 122 [] [.ptr 0 0,.ptr 1 0,.ptr 2 0,.ptr 3 0,.ptr 4 0]])],7,(fr_ s_2),[],5⟩ ?_
     refine RW.nil (hQ_20 _ ?_)
     obtain ⟨c_21,hx_21,hk_21⟩:=bsomeC h
     refine AW.jnK (fun (_:Unit)=>⟨[(0,.d (.sl 1 (List.map e3 plan))),pR 4 2,pR 5 3,pR 6 4,pR 8 5,(10,jI (plan.length:Int)),(11,jI need),(12,jI v),(42,.d (.sl 4 (List.map e65 o0_HairBook.Hanks))),(43,jI (o0_HairBook.Hanks.length:Int)),(44,jI v)],[(5,.var 128 [jI (cut 0),jI (cut 1),jI (cut 2),jI (cut 3),jI (cut 4)]),(0,.var 119 (catV (cv61 o0_HairBook) [.fmp (List.map m124_33 mf)])),(1,.var 187 [.yld]),(2,.var 133 [.d (.fn 119)]),(3,.var 108 [.clo 87 [.agg [.d (.sl 4 (List.map e65 m0_HairBook.Hanks)),.d (.sl 3 (List.map e67 m0_HairBook.Horses)),jI m0_HairBook.Dark,jI m0_HairBook.Near,jI m0_HairBook.Match,.fmp (List.map m124_33 mf_1)]] []]),(4,.var 187 [.clo 122 [] [.ptr 0 0,.ptr 1 0,.ptr 2 0,.ptr 3 0,.ptr 4 0]])],7,(fr_ s_2),[],5⟩) (c:=c_21) (fun K_21 hK_21=>?_) (fun j_21 hj_21=>?_)
     ·have h:=hx_21
      refine AW.sdrwK fokW (fun Q_22 hQ_22=>?_)
      refine aX 1 ⟨[(0,.d (.sl 1 (List.map e3 plan))),pR 4 2,pR 5 3,pR 6 4,pR 8 5,(10,jI (plan.length:Int)),(11,jI need),(12,jI v),pR 13 6,(42,.d (.sl 4 (List.map e65 o0_HairBook.Hanks))),(43,jI (o0_HairBook.Hanks.length:Int)),(44,jI v),(49,jI v)],[(6,.var 65 (cv65 p2)),(5,.var 128 [jI (cut 0),jI (cut 1),jI (cut 2),jI (cut 3),jI (cut 4)]),(0,.var 119 (catV (cv61 o0_HairBook) [.fmp (List.map m124_33 mf)])),(1,.var 187 [.yld]),(2,.var 133 [.d (.fn 119)]),(3,.var 108 [.clo 87 [.agg [.d (.sl 4 (List.map e65 m0_HairBook.Hanks)),.d (.sl 3 (List.map e67 m0_HairBook.Horses)),jI m0_HairBook.Dark,jI m0_HairBook.Near,jI m0_HairBook.Match,.fmp (List.map m124_33 mf_1)]] []]),(4,.var 187 [.clo 122 [] [.ptr 0 0,.ptr 1 0,.ptr 2 0,.ptr 3 0,.ptr 4 0]])],7,(fr_ s_2),[],5⟩ ?_
      obtain ⟨j1,hv_23,h⟩:=bsome h
      refine r_iaV trivial rfl rfl rfl (ixN_ok hv_23).1 (ixN_ok hv_23).2.1 ?_
      refine r_loadV trivial rfl rfl (u:=jI (cut j1)) (agt (f:=fun k=>jI (cut k)) hv_23) ?_
      refine aX 6 ⟨[(0,.d (.sl 1 (List.map e3 plan))),pR 4 2,pR 5 3,pR 6 4,pR 8 5,(10,jI (plan.length:Int)),(11,jI need),(12,jI v),(42,.d (.sl 4 (List.map e65 o0_HairBook.Hanks))),(43,jI (o0_HairBook.Hanks.length:Int)),(44,jI v),(53,jI (wr ((cut j1)+need))),(55,.d (.fn 119)),(57,.agg [jI p2.Weight.Low,jI p2.Weight.High])],[(6,.var 65 (cv65 p2)),(5,.var 128 [jI (cut 0),jI (cut 1),jI (cut 2),jI (cut 3),jI (cut 4)]),(0,.var 119 (catV (cv61 o0_HairBook) [.fmp (List.map m124_33 mf)])),(1,.var 187 [.yld]),(2,.var 133 [.d (.fn 119)]),(3,.var 108 [.clo 87 [.agg [.d (.sl 4 (List.map e65 m0_HairBook.Hanks)),.d (.sl 3 (List.map e67 m0_HairBook.Horses)),jI m0_HairBook.Dark,jI m0_HairBook.Near,jI m0_HairBook.Match,.fmp (List.map m124_33 mf_1)]] []]),(4,.var 187 [.clo 122 [] [.ptr 0 0,.ptr 1 0,.ptr 2 0,.ptr 3 0,.ptr 4 0]])],7,(fr_ s_2),[],5⟩ ?_
      obtain ⟨r0_2,hx_24,h⟩:=bsome h
      refine r_callvZ (zr:=[]) trivial rfl (.fn _) (by kernel_rfl) rfl (k119 p2.Weight _ hx_24) trivial ⟨.refl _,trivial⟩ rfl rfl rfl rfl ?_
      refine aX 2 ⟨[(0,.d (.sl 1 (List.map e3 plan))),pR 4 2,pR 5 3,pR 6 4,pR 8 5,(10,jI (plan.length:Int)),(11,jI need),(12,jI v),(42,.d (.sl 4 (List.map e65 o0_HairBook.Hanks))),(43,jI (o0_HairBook.Hanks.length:Int)),(44,jI v),(60,.d (.bool (decide (r0_2<(wr ((cut j1)+need))))))],[(6,.var 65 (cv65 p2)),(5,.var 128 [jI (cut 0),jI (cut 1),jI (cut 2),jI (cut 3),jI (cut 4)]),(0,.var 119 (catV (cv61 o0_HairBook) [.fmp (List.map m124_33 mf)])),(1,.var 187 [.yld]),(2,.var 133 [.d (.fn 119)]),(3,.var 108 [.clo 87 [.agg [.d (.sl 4 (List.map e65 m0_HairBook.Hanks)),.d (.sl 3 (List.map e67 m0_HairBook.Horses)),jI m0_HairBook.Dark,jI m0_HairBook.Near,jI m0_HairBook.Match,.fmp (List.map m124_33 mf_1)]] []]),(4,.var 187 [.clo 122 [] [.ptr 0 0,.ptr 1 0,.ptr 2 0,.ptr 3 0,.ptr 4 0]])],7,(fr_ s_2),[],5⟩ ?_
      refine r_split 60 rfl (fun hb_25=>?_) (fun hb_25=>?_)
      ·have h:=ifT hb_25 h
       refine aX 17 ⟨[(0,.d (.sl 1 (List.map e3 plan))),pR 4 2,pR 5 3,pR 6 4,pR 8 5,(10,jI (plan.length:Int)),(11,jI need),(12,jI v),(42,.d (.sl 4 (List.map e65 o0_HairBook.Hanks))),(43,jI (o0_HairBook.Hanks.length:Int)),(44,jI v),(77,.d (.bool true))],[(6,.var 65 (cv65 p2)),(5,.var 128 [jI (cut 0),jI (cut 1),jI (cut 2),jI (cut 3),jI (cut 4)]),(0,.var 119 (catV (cv61 o0_HairBook) [.fmp (List.map m124_33 mf)])),(1,.var 187 [.yld]),(2,.var 133 [.d (.fn 119)]),(3,.var 108 [.clo 87 [.agg [.d (.sl 4 (List.map e65 m0_HairBook.Hanks)),.d (.sl 3 (List.map e67 m0_HairBook.Horses)),jI m0_HairBook.Dark,jI m0_HairBook.Near,jI m0_HairBook.Match,.fmp (List.map m124_33 mf_1)]] []]),(4,.var 187 [.clo 122 [] [.ptr 0 0,.ptr 1 0,.ptr 2 0,.ptr 3 0,.ptr 4 0]])],7,(fr_ s_2),[],5⟩ ?_
       refine Fi ⟨[(0,.d (.sl 1 (List.map e3 plan))),pR 4 2,pR 5 3,pR 6 4,pR 8 5,(10,jI (plan.length:Int)),(11,jI need),(12,jI v),(42,.d (.sl 4 (List.map e65 o0_HairBook.Hanks))),(43,jI (o0_HairBook.Hanks.length:Int)),(44,jI v),(77,.d (.bool true))],[(5,.var 128 [jI (cut 0),jI (cut 1),jI (cut 2),jI (cut 3),jI (cut 4)]),(0,.var 119 (catV (cv61 o0_HairBook) [.fmp (List.map m124_33 mf)])),(1,.var 187 [.yld]),(2,.var 133 [.d (.fn 119)]),(3,.var 108 [.clo 87 [.agg [.d (.sl 4 (List.map e65 m0_HairBook.Hanks)),.d (.sl 3 (List.map e67 m0_HairBook.Horses)),jI m0_HairBook.Dark,jI m0_HairBook.Near,jI m0_HairBook.Match,.fmp (List.map m124_33 mf_1)]] []]),(4,.var 187 [.clo 122 [] [.ptr 0 0,.ptr 1 0,.ptr 2 0,.ptr 3 0,.ptr 4 0]])],7,(fr_ s_2),[],5⟩ ?_
       refine hQ_22 _ ?_
       refine AW.condT rfl ?_
       refine AW.exit ?_
       refine hK_19 _ ?_
       refine Ra ⟨[(0,.d (.sl 1 (List.map e3 plan))),pR 4 2,pR 5 3,pR 6 4,pR 8 5,(10,jI (plan.length:Int)),(11,jI need),(42,.d (.sl 4 (List.map e65 o0_HairBook.Hanks))),(43,jI (o0_HairBook.Hanks.length:Int)),(44,jI (wr (v+1)))],[(5,.var 128 [jI (cut 0),jI (cut 1),jI (cut 2),jI (cut 3),jI (cut 4)]),(0,.var 119 (catV (cv61 o0_HairBook) [.fmp (List.map m124_33 mf)])),(1,.var 187 [.yld]),(2,.var 133 [.d (.fn 119)]),(3,.var 108 [.clo 87 [.agg [.d (.sl 4 (List.map e65 m0_HairBook.Hanks)),.d (.sl 3 (List.map e67 m0_HairBook.Horses)),jI m0_HairBook.Dark,jI m0_HairBook.Near,jI m0_HairBook.Match,.fmp (List.map m124_33 mf_1)]] []]),(4,.var 187 [.clo 122 [] [.ptr 0 0,.ptr 1 0,.ptr 2 0,.ptr 3 0,.ptr 4 0]])],7,(fr_ s_2),[],5⟩ ?_
       obtain rfl:=Option.some.inj h
       obtain rfl:=Aft.bk hk_21
       have ew:wr (v+1)=v+1:=inext (N:=(o0_HairBook.Hanks.length:Int)) (by omega) (by omega) (by omega)
       rw [ew]
       exact hK_16 _ _ rfl (Can.kp (by kernel_rfl))
      ·have h:=ifF hb_25 h
       refine aX 4 ⟨[(0,.d (.sl 1 (List.map e3 plan))),pR 4 2,pR 5 3,pR 6 4,pR 8 5,(10,jI (plan.length:Int)),(11,jI need),(12,jI v),(42,.d (.sl 4 (List.map e65 o0_HairBook.Hanks))),(43,jI (o0_HairBook.Hanks.length:Int)),(44,jI v),(60,.d (.bool false)),(64,.d (.bool (decide (((plan.length:Int).tmod 2)=1))))],[(6,.var 65 (cv65 p2)),(5,.var 128 [jI (cut 0),jI (cut 1),jI (cut 2),jI (cut 3),jI (cut 4)]),(0,.var 119 (catV (cv61 o0_HairBook) [.fmp (List.map m124_33 mf)])),(1,.var 187 [.yld]),(2,.var 133 [.d (.fn 119)]),(3,.var 108 [.clo 87 [.agg [.d (.sl 4 (List.map e65 m0_HairBook.Hanks)),.d (.sl 3 (List.map e67 m0_HairBook.Horses)),jI m0_HairBook.Dark,jI m0_HairBook.Near,jI m0_HairBook.Match,.fmp (List.map m124_33 mf_1)]] []]),(4,.var 187 [.clo 122 [] [.ptr 0 0,.ptr 1 0,.ptr 2 0,.ptr 3 0,.ptr 4 0]])],7,(fr_ s_2),[],5⟩ ?_
       refine r_split 64 rfl (fun hb_26=>?_) (fun hb_26=>?_)
       ·have h:=ifT hb_26 h
        refine aX 6 ⟨[(0,.d (.sl 1 (List.map e3 plan))),pR 4 2,pR 5 3,pR 6 4,pR 8 5,(10,jI (plan.length:Int)),(11,jI need),(12,jI v),(42,.d (.sl 4 (List.map e65 o0_HairBook.Hanks))),(43,jI (o0_HairBook.Hanks.length:Int)),(44,jI v),(60,.d (.bool false)),(64,.d (.bool true)),(65,.clo 87 [.agg [.d (.sl 4 (List.map e65 m0_HairBook.Hanks)),.d (.sl 3 (List.map e67 m0_HairBook.Horses)),jI m0_HairBook.Dark,jI m0_HairBook.Near,jI m0_HairBook.Match,.fmp (List.map m124_33 mf_1)]] []),(67,jI (wr ((plan.length:Int).tdiv 2))),(68,.d (.sl 1 (List.map e3 plan))),(70,jI (wr ((plan.length:Int) - 1)))],[(6,.var 65 (cv65 p2)),(5,.var 128 [jI (cut 0),jI (cut 1),jI (cut 2),jI (cut 3),jI (cut 4)]),(0,.var 119 (catV (cv61 o0_HairBook) [.fmp (List.map m124_33 mf)])),(1,.var 187 [.yld]),(2,.var 133 [.d (.fn 119)]),(3,.var 108 [.clo 87 [.agg [.d (.sl 4 (List.map e65 m0_HairBook.Hanks)),.d (.sl 3 (List.map e67 m0_HairBook.Horses)),jI m0_HairBook.Dark,jI m0_HairBook.Near,jI m0_HairBook.Match,.fmp (List.map m124_33 mf_1)]] []]),(4,.var 187 [.clo 122 [] [.ptr 0 0,.ptr 1 0,.ptr 2 0,.ptr 3 0,.ptr 4 0]])],7,(fr_ s_2),[],5⟩ ?_
        obtain ⟨p3,hv_27,h⟩:=bsome h
        refine r_iaD rfl rfl rfl (ixL_ok hv_27).1 (row:=e3 p3) (mapget (ixL_ok hv_27).2) ?_
        refine aX 2 ⟨[(0,.d (.sl 1 (List.map e3 plan))),pR 4 2,pR 5 3,pR 6 4,pR 8 5,(10,jI (plan.length:Int)),(11,jI need),(12,jI v),(42,.d (.sl 4 (List.map e65 o0_HairBook.Hanks))),(43,jI (o0_HairBook.Hanks.length:Int)),(44,jI v),(60,.d (.bool false)),(64,.d (.bool true)),(65,.clo 87 [.agg [.d (.sl 4 (List.map e65 m0_HairBook.Hanks)),.d (.sl 3 (List.map e67 m0_HairBook.Horses)),jI m0_HairBook.Dark,jI m0_HairBook.Near,jI m0_HairBook.Match,.fmp (List.map m124_33 mf_1)]] []),(67,jI (wr ((plan.length:Int).tdiv 2))),(72,jI p3),(73,jI v)],[(6,.var 65 (cv65 p2)),(5,.var 128 [jI (cut 0),jI (cut 1),jI (cut 2),jI (cut 3),jI (cut 4)]),(0,.var 119 (catV (cv61 o0_HairBook) [.fmp (List.map m124_33 mf)])),(1,.var 187 [.yld]),(2,.var 133 [.d (.fn 119)]),(3,.var 108 [.clo 87 [.agg [.d (.sl 4 (List.map e65 m0_HairBook.Hanks)),.d (.sl 3 (List.map e67 m0_HairBook.Horses)),jI m0_HairBook.Dark,jI m0_HairBook.Near,jI m0_HairBook.Match,.fmp (List.map m124_33 mf_1)]] []]),(4,.var 187 [.clo 122 [] [.ptr 0 0,.ptr 1 0,.ptr 2 0,.ptr 3 0,.ptr 4 0]])],7,(fr_ s_2),[],5⟩ ?_
        obtain ⟨r0_3,hx_28,h⟩:=bsome h
        refine r_callvZ (zr:=[]) rfl rfl (.clo _ _ _) (by kernel_rfl) rfl (k87 m0_HairBook mf_1 (wr ((plan.length:Int).tdiv 2)) p3 v _ hx_28) trivial ⟨.refl _,.refl _,.refl _,.refl _,trivial⟩ rfl rfl rfl rfl ?_
        refine aX 3 ⟨[(0,.d (.sl 1 (List.map e3 plan))),pR 4 2,pR 5 3,pR 6 4,pR 8 5,(10,jI (plan.length:Int)),(11,jI need),(12,jI v),(42,.d (.sl 4 (List.map e65 o0_HairBook.Hanks))),(43,jI (o0_HairBook.Hanks.length:Int)),(44,jI v),(77,.d (.bool (!r0_3)))],[(6,.var 65 (cv65 p2)),(5,.var 128 [jI (cut 0),jI (cut 1),jI (cut 2),jI (cut 3),jI (cut 4)]),(0,.var 119 (catV (cv61 o0_HairBook) [.fmp (List.map m124_33 mf)])),(1,.var 187 [.yld]),(2,.var 133 [.d (.fn 119)]),(3,.var 108 [.clo 87 [.agg [.d (.sl 4 (List.map e65 m0_HairBook.Hanks)),.d (.sl 3 (List.map e67 m0_HairBook.Horses)),jI m0_HairBook.Dark,jI m0_HairBook.Near,jI m0_HairBook.Match,.fmp (List.map m124_33 mf_1)]] []]),(4,.var 187 [.clo 122 [] [.ptr 0 0,.ptr 1 0,.ptr 2 0,.ptr 3 0,.ptr 4 0]])],7,(fr_ s_2),[],5⟩ ?_
        refine Fi ⟨[(0,.d (.sl 1 (List.map e3 plan))),pR 4 2,pR 5 3,pR 6 4,pR 8 5,(10,jI (plan.length:Int)),(11,jI need),(12,jI v),(42,.d (.sl 4 (List.map e65 o0_HairBook.Hanks))),(43,jI (o0_HairBook.Hanks.length:Int)),(44,jI v),(77,.d (.bool (!r0_3)))],[(5,.var 128 [jI (cut 0),jI (cut 1),jI (cut 2),jI (cut 3),jI (cut 4)]),(0,.var 119 (catV (cv61 o0_HairBook) [.fmp (List.map m124_33 mf)])),(1,.var 187 [.yld]),(2,.var 133 [.d (.fn 119)]),(3,.var 108 [.clo 87 [.agg [.d (.sl 4 (List.map e65 m0_HairBook.Hanks)),.d (.sl 3 (List.map e67 m0_HairBook.Horses)),jI m0_HairBook.Dark,jI m0_HairBook.Near,jI m0_HairBook.Match,.fmp (List.map m124_33 mf_1)]] []]),(4,.var 187 [.clo 122 [] [.ptr 0 0,.ptr 1 0,.ptr 2 0,.ptr 3 0,.ptr 4 0]])],7,(fr_ s_2),[],5⟩ ?_
        refine hQ_22 _ ?_
        refine AW.cond rfl (fun hb_29=>?_) (fun hb_29=>?_)
        ·have h:=ifT hb_29 h
         refine AW.exit ?_
         refine hK_19 _ ?_
         refine Ra ⟨[(0,.d (.sl 1 (List.map e3 plan))),pR 4 2,pR 5 3,pR 6 4,pR 8 5,(10,jI (plan.length:Int)),(11,jI need),(42,.d (.sl 4 (List.map e65 o0_HairBook.Hanks))),(43,jI (o0_HairBook.Hanks.length:Int)),(44,jI (wr (v+1)))],[(5,.var 128 [jI (cut 0),jI (cut 1),jI (cut 2),jI (cut 3),jI (cut 4)]),(0,.var 119 (catV (cv61 o0_HairBook) [.fmp (List.map m124_33 mf)])),(1,.var 187 [.yld]),(2,.var 133 [.d (.fn 119)]),(3,.var 108 [.clo 87 [.agg [.d (.sl 4 (List.map e65 m0_HairBook.Hanks)),.d (.sl 3 (List.map e67 m0_HairBook.Horses)),jI m0_HairBook.Dark,jI m0_HairBook.Near,jI m0_HairBook.Match,.fmp (List.map m124_33 mf_1)]] []]),(4,.var 187 [.clo 122 [] [.ptr 0 0,.ptr 1 0,.ptr 2 0,.ptr 3 0,.ptr 4 0]])],7,(fr_ s_2),[],5⟩ ?_
         obtain rfl:=Option.some.inj h
         obtain rfl:=Aft.bk hk_21
         have ew:wr (v+1)=v+1:=inext (N:=(o0_HairBook.Hanks.length:Int)) (by omega) (by omega) (by omega)
         rw [ew]
         exact hK_16 _ _ rfl (Can.kp (by kernel_rfl))
        ·have h:=ifF hb_29 h
         refine AW.skip ?_
         obtain rfl:=Option.some.inj h
         exact hK_21 _ _ rfl (Can.kp (by kernel_rfl))
       ·have h:=ifF hb_26 h
        refine aX 13 ⟨[(0,.d (.sl 1 (List.map e3 plan))),pR 4 2,pR 5 3,pR 6 4,pR 8 5,(10,jI (plan.length:Int)),(11,jI need),(12,jI v),(42,.d (.sl 4 (List.map e65 o0_HairBook.Hanks))),(43,jI (o0_HairBook.Hanks.length:Int)),(44,jI v),(77,.d (.bool false))],[(6,.var 65 (cv65 p2)),(5,.var 128 [jI (cut 0),jI (cut 1),jI (cut 2),jI (cut 3),jI (cut 4)]),(0,.var 119 (catV (cv61 o0_HairBook) [.fmp (List.map m124_33 mf)])),(1,.var 187 [.yld]),(2,.var 133 [.d (.fn 119)]),(3,.var 108 [.clo 87 [.agg [.d (.sl 4 (List.map e65 m0_HairBook.Hanks)),.d (.sl 3 (List.map e67 m0_HairBook.Horses)),jI m0_HairBook.Dark,jI m0_HairBook.Near,jI m0_HairBook.Match,.fmp (List.map m124_33 mf_1)]] []]),(4,.var 187 [.clo 122 [] [.ptr 0 0,.ptr 1 0,.ptr 2 0,.ptr 3 0,.ptr 4 0]])],7,(fr_ s_2),[],5⟩ ?_
        refine Fi ⟨[(0,.d (.sl 1 (List.map e3 plan))),pR 4 2,pR 5 3,pR 6 4,pR 8 5,(10,jI (plan.length:Int)),(11,jI need),(12,jI v),(42,.d (.sl 4 (List.map e65 o0_HairBook.Hanks))),(43,jI (o0_HairBook.Hanks.length:Int)),(44,jI v),(77,.d (.bool false))],[(5,.var 128 [jI (cut 0),jI (cut 1),jI (cut 2),jI (cut 3),jI (cut 4)]),(0,.var 119 (catV (cv61 o0_HairBook) [.fmp (List.map m124_33 mf)])),(1,.var 187 [.yld]),(2,.var 133 [.d (.fn 119)]),(3,.var 108 [.clo 87 [.agg [.d (.sl 4 (List.map e65 m0_HairBook.Hanks)),.d (.sl 3 (List.map e67 m0_HairBook.Horses)),jI m0_HairBook.Dark,jI m0_HairBook.Near,jI m0_HairBook.Match,.fmp (List.map m124_33 mf_1)]] []]),(4,.var 187 [.clo 122 [] [.ptr 0 0,.ptr 1 0,.ptr 2 0,.ptr 3 0,.ptr 4 0]])],7,(fr_ s_2),[],5⟩ ?_
        refine hQ_22 _ ?_
        refine AW.condF rfl ?_
        refine AW.skip ?_
        obtain rfl:=Option.some.inj h
        exact hK_21 _ _ rfl (Can.kp (by kernel_rfl))
     ·subst hj_21
      have h:=Aft.nx hk_21
      refine Sa ⟨[(0,.d (.sl 1 (List.map e3 plan))),pR 4 2,pR 5 3,pR 6 4,pR 8 5,(10,jI (plan.length:Int)),(11,jI need),(12,jI v),pR 14 7,(42,.d (.sl 4 (List.map e65 o0_HairBook.Hanks))),(43,jI (o0_HairBook.Hanks.length:Int)),(44,jI v)],[(7,.var 128 [jI (cut 0),jI (cut 1),jI (cut 2),jI (cut 3),jI (cut 4)]),(5,.var 128 [jI (cut 0),jI (cut 1),jI (cut 2),jI (cut 3),jI (cut 4)]),(0,.var 119 (catV (cv61 o0_HairBook) [.fmp (List.map m124_33 mf)])),(1,.var 187 [.yld]),(2,.var 133 [.d (.fn 119)]),(3,.var 108 [.clo 87 [.agg [.d (.sl 4 (List.map e65 m0_HairBook.Hanks)),.d (.sl 3 (List.map e67 m0_HairBook.Horses)),jI m0_HairBook.Dark,jI m0_HairBook.Near,jI m0_HairBook.Match,.fmp (List.map m124_33 mf_1)]] []]),(4,.var 187 [.clo 122 [] [.ptr 0 0,.ptr 1 0,.ptr 2 0,.ptr 3 0,.ptr 4 0]])],8,(fr_ s_2),[],5⟩ ?_
      refine AW.srwK (fun Q_30 hQ_30=>?_)
      refine Au 1 ⟨[(0,.d (.sl 1 (List.map e3 plan))),pR 4 2,pR 5 3,pR 6 4,pR 8 5,(10,jI (plan.length:Int)),(11,jI need),(12,jI v),pR 14 7,(42,.d (.sl 4 (List.map e65 o0_HairBook.Hanks))),(43,jI (o0_HairBook.Hanks.length:Int)),(44,jI v),(79,jI v)],[(7,.var 128 [jI (cut 0),jI (cut 1),jI (cut 2),jI (cut 3),jI (cut 4)]),(5,.var 128 [jI (cut 0),jI (cut 1),jI (cut 2),jI (cut 3),jI (cut 4)]),(0,.var 119 (catV (cv61 o0_HairBook) [.fmp (List.map m124_33 mf)])),(1,.var 187 [.yld]),(2,.var 133 [.d (.fn 119)]),(3,.var 108 [.clo 87 [.agg [.d (.sl 4 (List.map e65 m0_HairBook.Hanks)),.d (.sl 3 (List.map e67 m0_HairBook.Horses)),jI m0_HairBook.Dark,jI m0_HairBook.Near,jI m0_HairBook.Match,.fmp (List.map m124_33 mf_1)]] []]),(4,.var 187 [.clo 122 [] [.ptr 0 0,.ptr 1 0,.ptr 2 0,.ptr 3 0,.ptr 4 0]])],8,(fr_ s_2),[],5⟩ ?_
      obtain ⟨j2,hv_31,h⟩:=bsome h
      refine RW.one fokW (r_iaV trivial rfl rfl rfl (ixN_ok hv_31).1 (ixN_ok hv_31).2.1 (r_end ?_))
      refine RW.one fokW (r_loadV trivial rfl rfl (u:=jI (cut j2)) (agt (f:=fun k=>jI (cut k)) hv_31) (r_end ?_))
      refine Au 2 ⟨[(0,.d (.sl 1 (List.map e3 plan))),pR 4 2,pR 5 3,pR 6 4,pR 8 5,(10,jI (plan.length:Int)),(11,jI need),(12,jI v),pR 14 7,(42,.d (.sl 4 (List.map e65 o0_HairBook.Hanks))),(43,jI (o0_HairBook.Hanks.length:Int)),(44,jI v),(79,jI v),(83,jI (wr ((cut j2)+need)))],[(7,.var 128 [jI (cut 0),jI (cut 1),jI (cut 2),jI (cut 3),jI (cut 4)]),(5,.var 128 [jI (cut 0),jI (cut 1),jI (cut 2),jI (cut 3),jI (cut 4)]),(0,.var 119 (catV (cv61 o0_HairBook) [.fmp (List.map m124_33 mf)])),(1,.var 187 [.yld]),(2,.var 133 [.d (.fn 119)]),(3,.var 108 [.clo 87 [.agg [.d (.sl 4 (List.map e65 m0_HairBook.Hanks)),.d (.sl 3 (List.map e67 m0_HairBook.Horses)),jI m0_HairBook.Dark,jI m0_HairBook.Near,jI m0_HairBook.Match,.fmp (List.map m124_33 mf_1)]] []]),(4,.var 187 [.clo 122 [] [.ptr 0 0,.ptr 1 0,.ptr 2 0,.ptr 3 0,.ptr 4 0]])],8,(fr_ s_2),[],5⟩ ?_
      obtain ⟨j3,hv_32,h⟩:=bsome h
      refine RW.one fokW (r_iaV trivial rfl rfl rfl (ixN_ok hv_32).1 (ixN_ok hv_32).2.1 (r_end ?_))
      refine RW.one fokW (r_stX trivial rfl rfl rfl rfl rfl (aslot hv_32 rfl) (cs':=[jI ((aset cut j3 (wr ((cut j2)+need))) 0),jI ((aset cut j3 (wr ((cut j2)+need))) 1),jI ((aset cut j3 (wr ((cut j2)+need))) 2),jI ((aset cut j3 (wr ((cut j2)+need))) 3),jI ((aset cut j3 (wr ((cut j2)+need))) 4)]) (ast (w:=cut) (c:=fun z=>jI z) hv_32) (r_end ?_))
      refine RW.nil (hQ_30 _ ?_)
      refine AW.sdrwK fokW (fun Q_33 hQ_33=>?_)
      refine aX 4 ⟨[(0,.d (.sl 1 (List.map e3 plan))),pR 4 2,pR 5 3,pR 6 4,pR 8 5,(10,jI (plan.length:Int)),(11,jI need),(12,jI v),pR 14 7,(42,.d (.sl 4 (List.map e65 o0_HairBook.Hanks))),(43,jI (o0_HairBook.Hanks.length:Int)),(44,jI v),(85,.clo 122 [] [.ptr 0 0,.ptr 1 0,.ptr 2 0,.ptr 3 0,.ptr 4 0]),(86,.d (.sl 1 (List.map e3 plan))),(87,jI (plan.length:Int)),(88,jI (plan.length:Int))],[(7,.var 128 [jI ((aset cut j3 (wr ((cut j2)+need))) 0),jI ((aset cut j3 (wr ((cut j2)+need))) 1),jI ((aset cut j3 (wr ((cut j2)+need))) 2),jI ((aset cut j3 (wr ((cut j2)+need))) 3),jI ((aset cut j3 (wr ((cut j2)+need))) 4)]),(5,.var 128 [jI (cut 0),jI (cut 1),jI (cut 2),jI (cut 3),jI (cut 4)]),(0,.var 119 (catV (cv61 o0_HairBook) [.fmp (List.map m124_33 mf)])),(1,.var 187 [.yld]),(2,.var 133 [.d (.fn 119)]),(3,.var 108 [.clo 87 [.agg [.d (.sl 4 (List.map e65 m0_HairBook.Hanks)),.d (.sl 3 (List.map e67 m0_HairBook.Horses)),jI m0_HairBook.Dark,jI m0_HairBook.Near,jI m0_HairBook.Match,.fmp (List.map m124_33 mf_1)]] []]),(4,.var 187 [.clo 122 [] [.ptr 0 0,.ptr 1 0,.ptr 2 0,.ptr 3 0,.ptr 4 0]])],8,(fr_ s_2),[],5⟩ ?_
      obtain ⟨l,hv_34,h⟩:=bsome h
      refine r_slN trivial rfl rfl rfl DSl.d (slcL_ok hv_34).2.1 (by rw [List.length_map];exact (slcL_ok hv_34).2.2.1) rfl (slz hv_34 e3) ?_
      refine aX 2 ⟨[(0,.d (.sl 1 (List.map e3 plan))),pR 4 2,pR 5 3,pR 6 4,pR 8 5,(10,jI (plan.length:Int)),(11,jI need),pR 14 7,(42,.d (.sl 4 (List.map e65 o0_HairBook.Hanks))),(43,jI (o0_HairBook.Hanks.length:Int)),(44,jI v),(85,.clo 122 [] [.ptr 0 0,.ptr 1 0,.ptr 2 0,.ptr 3 0,.ptr 4 0]),(89,.fsl 1 (List.map e3 l)),(91,.own 8 (List.map e3 [v]).length)],[(8,.row 3 1 (List.map e3 [v])),(7,.var 128 [jI ((aset cut j3 (wr ((cut j2)+need))) 0),jI ((aset cut j3 (wr ((cut j2)+need))) 1),jI ((aset cut j3 (wr ((cut j2)+need))) 2),jI ((aset cut j3 (wr ((cut j2)+need))) 3),jI ((aset cut j3 (wr ((cut j2)+need))) 4)]),(5,.var 128 [jI (cut 0),jI (cut 1),jI (cut 2),jI (cut 3),jI (cut 4)]),(0,.var 119 (catV (cv61 o0_HairBook) [.fmp (List.map m124_33 mf)])),(1,.var 187 [.yld]),(2,.var 133 [.d (.fn 119)]),(3,.var 108 [.clo 87 [.agg [.d (.sl 4 (List.map e65 m0_HairBook.Hanks)),.d (.sl 3 (List.map e67 m0_HairBook.Horses)),jI m0_HairBook.Dark,jI m0_HairBook.Near,jI m0_HairBook.Match,.fmp (List.map m124_33 mf_1)]] []]),(4,.var 187 [.clo 122 [] [.ptr 0 0,.ptr 1 0,.ptr 2 0,.ptr 3 0,.ptr 4 0]])],9,(fr_ s_2),[],5⟩ ?_
      obtain ⟨l1,hv_35,h⟩:=bsome h
      refine r_apF trivial rfl rfl rfl rfl (by simp) (zs:=List.map e3 l1) (apz hv_35 e3) (apr hv_35 e3) ?_
      refine aX 1 ⟨[(0,.d (.sl 1 (List.map e3 plan))),pR 4 2,pR 5 3,pR 6 4,pR 8 5,(10,jI (plan.length:Int)),(11,jI need),(42,.d (.sl 4 (List.map e65 o0_HairBook.Hanks))),(43,jI (o0_HairBook.Hanks.length:Int)),(44,jI v),(85,.clo 122 [] [.ptr 0 0,.ptr 1 0,.ptr 2 0,.ptr 3 0,.ptr 4 0]),(92,.own 9 (List.map e3 l1).length),(93,.agg [jI ((aset cut j3 (wr ((cut j2)+need))) 0),jI ((aset cut j3 (wr ((cut j2)+need))) 1),jI ((aset cut j3 (wr ((cut j2)+need))) 2),jI ((aset cut j3 (wr ((cut j2)+need))) 3),jI ((aset cut j3 (wr ((cut j2)+need))) 4)])],[(9,.row 3 1 (List.map e3 l1)),(8,.row 3 1 (List.map e3 [v])),(7,.var 128 [jI ((aset cut j3 (wr ((cut j2)+need))) 0),jI ((aset cut j3 (wr ((cut j2)+need))) 1),jI ((aset cut j3 (wr ((cut j2)+need))) 2),jI ((aset cut j3 (wr ((cut j2)+need))) 3),jI ((aset cut j3 (wr ((cut j2)+need))) 4)]),(5,.var 128 [jI (cut 0),jI (cut 1),jI (cut 2),jI (cut 3),jI (cut 4)]),(0,.var 119 (catV (cv61 o0_HairBook) [.fmp (List.map m124_33 mf)])),(1,.var 187 [.yld]),(2,.var 133 [.d (.fn 119)]),(3,.var 108 [.clo 87 [.agg [.d (.sl 4 (List.map e65 m0_HairBook.Hanks)),.d (.sl 3 (List.map e67 m0_HairBook.Horses)),jI m0_HairBook.Dark,jI m0_HairBook.Near,jI m0_HairBook.Match,.fmp (List.map m124_33 mf_1)]] []]),(4,.var 187 [.clo 122 [] [.ptr 0 0,.ptr 1 0,.ptr 2 0,.ptr 3 0,.ptr 4 0]])],10,(fr_ s_2),[],5⟩ ?_
      obtain ⟨⟨r0_7_1,s_5_1⟩,hx_36,h⟩:=bsome h
      refine r_callvS (zr:=[(9,.row 3 1 (List.map e3 l1))]) [0,1,2,3,4] trivial rfl (.clo _ _ _) (by kernel_rfl) rfl (ih l1 (aset cut j3 (wr ((cut j2)+need))) o0_HairBook mf m0_HairBook mf_1 s_2 _ hx_36) ⟨rfl,rfl,rfl,rfl,rfl,rfl,trivial⟩ rfl rfl ⟨(.own rfl rfl),.refl _,.refl _,.refl _,.refl _,.refl _,.refl _,trivial⟩ rfl rfl rfl ?_
      refine aX 1 ⟨[(0,.d (.sl 1 (List.map e3 plan))),pR 4 2,pR 5 3,pR 6 4,pR 8 5,(10,jI (plan.length:Int)),(11,jI need),(42,.d (.sl 4 (List.map e65 o0_HairBook.Hanks))),(43,jI (o0_HairBook.Hanks.length:Int)),(44,jI v),(95,.d (.bool (!r0_7_1)))],[(0,.var 119 (catV (cv61 o0_HairBook) [.fmp (List.map m124_33 mf)])),(1,.var 187 [.yld]),(2,.var 133 [.d (.fn 119)]),(3,.var 108 [.clo 87 [.agg [.d (.sl 4 (List.map e65 m0_HairBook.Hanks)),.d (.sl 3 (List.map e67 m0_HairBook.Horses)),jI m0_HairBook.Dark,jI m0_HairBook.Near,jI m0_HairBook.Match,.fmp (List.map m124_33 mf_1)]] []]),(4,.var 187 [.clo 122 [] [.ptr 0 0,.ptr 1 0,.ptr 2 0,.ptr 3 0,.ptr 4 0]]),(9,.dead),(8,.row 3 1 (List.map e3 [v])),(7,.var 128 [jI ((aset cut j3 (wr ((cut j2)+need))) 0),jI ((aset cut j3 (wr ((cut j2)+need))) 1),jI ((aset cut j3 (wr ((cut j2)+need))) 2),jI ((aset cut j3 (wr ((cut j2)+need))) 3),jI ((aset cut j3 (wr ((cut j2)+need))) 4)]),(5,.var 128 [jI (cut 0),jI (cut 1),jI (cut 2),jI (cut 3),jI (cut 4)])],10,(fr_ s_5_1),[],5⟩ ?_
      refine Fi ⟨[(0,.d (.sl 1 (List.map e3 plan))),pR 4 2,pR 5 3,pR 6 4,pR 8 5,(10,jI (plan.length:Int)),(11,jI need),(42,.d (.sl 4 (List.map e65 o0_HairBook.Hanks))),(43,jI (o0_HairBook.Hanks.length:Int)),(44,jI v),(95,.d (.bool (!r0_7_1)))],[(0,.var 119 (catV (cv61 o0_HairBook) [.fmp (List.map m124_33 mf)])),(1,.var 187 [.yld]),(2,.var 133 [.d (.fn 119)]),(3,.var 108 [.clo 87 [.agg [.d (.sl 4 (List.map e65 m0_HairBook.Hanks)),.d (.sl 3 (List.map e67 m0_HairBook.Horses)),jI m0_HairBook.Dark,jI m0_HairBook.Near,jI m0_HairBook.Match,.fmp (List.map m124_33 mf_1)]] []]),(4,.var 187 [.clo 122 [] [.ptr 0 0,.ptr 1 0,.ptr 2 0,.ptr 3 0,.ptr 4 0]]),(5,.var 128 [jI (cut 0),jI (cut 1),jI (cut 2),jI (cut 3),jI (cut 4)])],10,(fr_ s_5_1),[],5⟩ ?_
      refine hQ_33 _ ?_
      refine AW.cond rfl (fun hb_37=>?_) (fun hb_37=>?_)
      ·have h:=ifT hb_37 h
       refine Sa ⟨[(9,.d (.bool false))],[(0,.var 119 (catV (cv61 o0_HairBook) [.fmp (List.map m124_33 mf)])),(1,.var 187 [.yld]),(2,.var 133 [.d (.fn 119)]),(3,.var 108 [.clo 87 [.agg [.d (.sl 4 (List.map e65 m0_HairBook.Hanks)),.d (.sl 3 (List.map e67 m0_HairBook.Horses)),jI m0_HairBook.Dark,jI m0_HairBook.Near,jI m0_HairBook.Match,.fmp (List.map m124_33 mf_1)]] []]),(4,.var 187 [.clo 122 [] [.ptr 0 0,.ptr 1 0,.ptr 2 0,.ptr 3 0,.ptr 4 0]])],10,(fr_ s_5_1),[],5⟩ ?_
       obtain rfl:=Option.some.inj h
       have e_1:=hb_16 _ rfl
       subst e_1
       obtain rfl:=Aft.bk hk_16
       exact rT hR_0 (.cons (.tmp rfl) .nil)
      ·have h:=ifF hb_37 h
       refine AW.skip (hK_19 _ ?_)
       refine Ra ⟨[(0,.d (.sl 1 (List.map e3 plan))),pR 4 2,pR 5 3,pR 6 4,pR 8 5,(10,jI (plan.length:Int)),(11,jI need),(42,.d (.sl 4 (List.map e65 o0_HairBook.Hanks))),(43,jI (o0_HairBook.Hanks.length:Int)),(44,jI (wr (v+1)))],[(0,.var 119 (catV (cv61 o0_HairBook) [.fmp (List.map m124_33 mf)])),(1,.var 187 [.yld]),(2,.var 133 [.d (.fn 119)]),(3,.var 108 [.clo 87 [.agg [.d (.sl 4 (List.map e65 m0_HairBook.Hanks)),.d (.sl 3 (List.map e67 m0_HairBook.Horses)),jI m0_HairBook.Dark,jI m0_HairBook.Near,jI m0_HairBook.Match,.fmp (List.map m124_33 mf_1)]] []]),(4,.var 187 [.clo 122 [] [.ptr 0 0,.ptr 1 0,.ptr 2 0,.ptr 3 0,.ptr 4 0]]),(5,.var 128 [jI (cut 0),jI (cut 1),jI (cut 2),jI (cut 3),jI (cut 4)])],10,(fr_ s_5_1),[],5⟩ ?_
       obtain rfl:=Option.some.inj h
       have ew:wr (v+1)=v+1:=inext (N:=(o0_HairBook.Hanks.length:Int)) (by omega) (by omega) (by omega)
       rw [ew]
       exact hK_16 _ _ rfl (Can.kp (by kernel_rfl))
    ·subst hout
     have h:=Aft.nx hk_16
     refine Sa ⟨[(0,.d (.sl 1 (List.map e3 plan))),pR 4 2,pR 5 3,pR 6 4,pR 8 5,(10,jI (plan.length:Int)),(11,jI need),(42,.d (.sl 4 (List.map e65 o0_HairBook.Hanks))),(43,jI (o0_HairBook.Hanks.length:Int)),(44,jI v),(45,.d (.bool (decide (v<(o0_HairBook.Hanks.length:Int)))))],[(5,.var 128 [jI (cut 0),jI (cut 1),jI (cut 2),jI (cut 3),jI (cut 4)]),(0,.var 119 (catV (cv61 o0_HairBook) [.fmp (List.map m124_33 mf)])),(1,.var 187 [.yld]),(2,.var 133 [.d (.fn 119)]),(3,.var 108 [.clo 87 [.agg [.d (.sl 4 (List.map e65 m0_HairBook.Hanks)),.d (.sl 3 (List.map e67 m0_HairBook.Horses)),jI m0_HairBook.Dark,jI m0_HairBook.Near,jI m0_HairBook.Match,.fmp (List.map m124_33 mf_1)]] []]),(4,.var 187 [.clo 122 [] [.ptr 0 0,.ptr 1 0,.ptr 2 0,.ptr 3 0,.ptr 4 0]])],6,(fr_ s_2),[],5⟩ ?_
     refine AW.seqK (fun K_38 hK_38=>?_)
     refine AW.cond rfl (fun hb_39=>False.elim (by have:=of_decide_eq_true hb_39;omega)) (fun hb_39=>?_)
     refine AW.exit ?_
     refine hK_14 _ ?_
     refine Sa ⟨[(9,.d (.bool true))],[(0,.var 119 (catV (cv61 o0_HairBook) [.fmp (List.map m124_33 mf)])),(1,.var 187 [.yld]),(2,.var 133 [.d (.fn 119)]),(3,.var 108 [.clo 87 [.agg [.d (.sl 4 (List.map e65 m0_HairBook.Hanks)),.d (.sl 3 (List.map e67 m0_HairBook.Horses)),jI m0_HairBook.Dark,jI m0_HairBook.Near,jI m0_HairBook.Match,.fmp (List.map m124_33 mf_1)]] []]),(4,.var 187 [.clo 122 [] [.ptr 0 0,.ptr 1 0,.ptr 2 0,.ptr 3 0,.ptr 4 0]])],6,(fr_ s_2),[],5⟩ ?_
     obtain rfl:=Option.some.inj h
     exact rT hR_0 (.cons (.tmp rfl) .nil)
def g121a {S_:Type} (c_:(List Int)→(Nat→Int)→S_→Option (S_×Bool)) (o0_HairBook:HairBook) (mf:List (Hair_dye×Span)) (m0_HairBook:HairBook) (mf_1:List (Hair_dye×Span)) (s_:S_):Option S_:=(g117).bind fun r0=>(g122a c_ 1000 ([]:(List Int)) r0 o0_HairBook mf m0_HairBook mf_1 s_).bind fun (r0_7,s_5)=>some s_5
theorem k121a {S_:Type} (fr_:S_→Fr) (c_:(List Int)→(Nat→Int)→S_→Option (S_×Bool)) (hc_:∀ (a0:(List Int)) (a1:(Nat→Int)) s s2 b,c_ a0 a1 s=some (s2,b)→YCall Tryd.prog Gs (fr_ s) [.d (.sl 1 (List.map e3 a0)),.agg [jI (a1 0),jI (a1 1),jI (a1 2),jI (a1 3),jI (a1 4)]] (.d (.bool b)) (fr_ s2)) (o0_HairBook:HairBook) (mf:List (Hair_dye×Span)) (m0_HairBook:HairBook) (mf_1:List (Hair_dye×Span)) (s_:S_) (r:S_) (h:g121a c_ o0_HairBook mf m0_HairBook mf_1 s_=some r):SCall Tryd.prog Gs 121 [.yld,.ptr 0 0,.ptr 1 0,.ptr 2 0] [(0,.var 119 (catV (cv61 o0_HairBook) [.fmp (List.map m124_33 mf)])),(1,.var 133 [.d (.fn 119)]),(2,.var 108 [.clo 87 [.agg [.d (.sl 4 (List.map e65 m0_HairBook.Hanks)),.d (.sl 3 (List.map e67 m0_HairBook.Horses)),jI m0_HairBook.Dark,jI m0_HairBook.Near,jI m0_HairBook.Match,.fmp (List.map m124_33 mf_1)]] []])] 3 (fr_ s_) (.tup []) [(0,.var 119 (catV (cv61 o0_HairBook) [.fmp (List.map m124_33 mf)])),(1,.var 133 [.d (.fn 119)]),(2,.var 108 [.clo 87 [.agg [.d (.sl 4 (List.map e65 m0_HairBook.Hanks)),.d (.sl 3 (List.map e67 m0_HairBook.Horses)),jI m0_HairBook.Dark,jI m0_HairBook.Near,jI m0_HairBook.Match,.fmp (List.map m124_33 mf_1)]] []])] 3 (fr_ r):=by
 unfold g121a at h
 refine SCall.mkK Tryd.func121 c121 rfl rfl (by kernel_rfl) (fun Q_0 hR_0 hN_0=>?_)
 refine Sa ⟨[pR 1 0,pR 2 1,pR 3 2,pR 4 3],[(3,.var 187 [.yld]),(0,.var 119 (catV (cv61 o0_HairBook) [.fmp (List.map m124_33 mf)])),(1,.var 133 [.d (.fn 119)]),(2,.var 108 [.clo 87 [.agg [.d (.sl 4 (List.map e65 m0_HairBook.Hanks)),.d (.sl 3 (List.map e67 m0_HairBook.Horses)),jI m0_HairBook.Dark,jI m0_HairBook.Near,jI m0_HairBook.Match,.fmp (List.map m124_33 mf_1)]] []])],4,(fr_ s_),[],3⟩ ?_
 refine Sa ⟨[pR 1 0,pR 2 1,pR 3 2,pR 4 3,pR 5 4],[(4,.var 187 [.d (.nilFn)]),(3,.var 187 [.yld]),(0,.var 119 (catV (cv61 o0_HairBook) [.fmp (List.map m124_33 mf)])),(1,.var 133 [.d (.fn 119)]),(2,.var 108 [.clo 87 [.agg [.d (.sl 4 (List.map e65 m0_HairBook.Hanks)),.d (.sl 3 (List.map e67 m0_HairBook.Horses)),jI m0_HairBook.Dark,jI m0_HairBook.Near,jI m0_HairBook.Match,.fmp (List.map m124_33 mf_1)]] []])],5,(fr_ s_),[],3⟩ ?_
 refine Sa ⟨[pR 5 4],[(4,.var 187 [.clo 122 [] [.ptr 0 0,.ptr 3 0,.ptr 1 0,.ptr 2 0,.ptr 4 0]]),(3,.var 187 [.yld]),(0,.var 119 (catV (cv61 o0_HairBook) [.fmp (List.map m124_33 mf)])),(1,.var 133 [.d (.fn 119)]),(2,.var 108 [.clo 87 [.agg [.d (.sl 4 (List.map e65 m0_HairBook.Hanks)),.d (.sl 3 (List.map e67 m0_HairBook.Horses)),jI m0_HairBook.Dark,jI m0_HairBook.Near,jI m0_HairBook.Match,.fmp (List.map m124_33 mf_1)]] []])],5,(fr_ s_),[],3⟩ ?_
 refine AW.drw fokW ?_
 refine aX 1 ⟨[(7,.clo 122 [] [.ptr 0 0,.ptr 3 0,.ptr 1 0,.ptr 2 0,.ptr 4 0])],[(4,.var 187 [.clo 122 [] [.ptr 0 0,.ptr 3 0,.ptr 1 0,.ptr 2 0,.ptr 4 0]]),(3,.var 187 [.yld]),(0,.var 119 (catV (cv61 o0_HairBook) [.fmp (List.map m124_33 mf)])),(1,.var 133 [.d (.fn 119)]),(2,.var 108 [.clo 87 [.agg [.d (.sl 4 (List.map e65 m0_HairBook.Hanks)),.d (.sl 3 (List.map e67 m0_HairBook.Horses)),jI m0_HairBook.Dark,jI m0_HairBook.Near,jI m0_HairBook.Match,.fmp (List.map m124_33 mf_1)]] []])],5,(fr_ s_),[],3⟩ ?_
 obtain ⟨r0,hx_2,h⟩:=bsome h
 refine r_call trivial rfl (k117 _ hx_2) rfl rfl ?_
 obtain ⟨⟨r0_7,s_5⟩,hx_3,h⟩:=bsome h
 refine r_callvS (zr:=[]) [0,3,1,2,4] trivial rfl (.clo _ _ _) (by kernel_rfl) rfl (k122a fr_ c_ hc_ 1000 ([]:(List Int)) r0 o0_HairBook mf m0_HairBook mf_1 s_ _ hx_3) ⟨rfl,rfl,rfl,rfl,rfl,trivial⟩ rfl rfl ⟨(.nil 1),.refl _,.refl _,.refl _,.refl _,.refl _,.refl _,trivial⟩ rfl rfl rfl ?_
 refine Fi ⟨[],[(0,.var 119 (catV (cv61 o0_HairBook) [.fmp (List.map m124_33 mf)])),(1,.var 133 [.d (.fn 119)]),(2,.var 108 [.clo 87 [.agg [.d (.sl 4 (List.map e65 m0_HairBook.Hanks)),.d (.sl 3 (List.map e67 m0_HairBook.Horses)),jI m0_HairBook.Dark,jI m0_HairBook.Near,jI m0_HairBook.Match,.fmp (List.map m124_33 mf_1)]] []])],5,(fr_ s_5),[],3⟩ ?_
 obtain rfl:=Option.some.inj h
 exact hN_0 _ (retX .nil (.refl _) rfl (by kernel_rfl) (by kernel_rfl))
def g88_r11:((List Int)×(Nat→Int))→(Unit)→Option (Ctl (Unit) (Unit)):=fun (a,a1) _=>some (.brk ())
def g88_16 (rec_:(List HairHank)→HairBook→Option Bool) (hanks:(List HairHank)) (o0:HairBook) (p:HairHank):Int→Unit→Option (Ctl (Unit) (Ctl (Unit) (Ctl (Unit) (Bool)))):=fun v _=>(slcL hanks 0 (hanks.length:Int)).bind fun l=>(appL 32 l [(HairHank.mk p.Weight (Span.mk (wr (p.Shade.Low+v)) (wr (p.Shade.Low+v))))]).bind fun l1=>(rec_ l1 o0).bind fun r0_4_1=>bif r0_4_1 then (some (.brk (.brk (.brk true)))) else (some (.next ()))
def g88:Nat→(List HairHank)→HairBook→Option Bool
 | 0,_,_=>none
 | n_+1,hanks,o0=>bif (decide ((hanks.length:Int)=(o0.Hanks.length:Int))) then ((g81 (HairBook.mk hanks o0.Horses o0.Dark o0.Near o0.Match)).bind fun (r0_HairBook,mf)=>(g80).bind fun _=>(g86a r0_HairBook mf r0_HairBook mf).bind fun (o0_HairBook,mf1)=>(g121a (fun a a1 s=>rndC g88_r11 (a,a1) s) o0_HairBook mf1 r0_HairBook mf (.next ())).bind fun out_11=>match out_11 with | .next _=>some false | .brk _=>some true) else ((ixL o0.Hanks (hanks.length:Int)).bind fun p=>bindC (bindC (bindC (forC (g88_16 (g88 n_) hanks o0 p) ((((wr ((wr (p.Shade.High - p.Shade.Low))+1)):Int) - 0).toNat) 0 ()) fun _=>some (.next ()):Option (Ctl (Unit) (Ctl (Unit) (Bool)))) fun _=>some (.next ()):Option (Ctl (Unit) (Bool))) fun _=>some false)
theorem k88:∀ (n_:Nat) (hanks:(List HairHank)) (o0:HairBook) (r:Bool) (h:g88 n_ hanks o0=some r),SCall Tryd.prog Gs 88 [.d (.sl 4 (List.map e65 hanks)),.ptr 0 0,.ptr 1 0] [(0,.var 61 (cv61 o0)),(1,.var 140 [.clo 88 [] [.ptr 0 0,.ptr 1 0]])] 2 Fr.emp (.d (.bool r)) [(0,.var 61 (cv61 o0)),(1,.var 140 [.clo 88 [] [.ptr 0 0,.ptr 1 0]])] 2 Fr.emp:=by
 intro n_
 induction n_ with
 | zero=>intro hanks o0 r h;cases h
 | succ n_ ih=>
  intro hanks o0 r h
  rw [g88] at h
  refine SCall.mkK Tryd.func88 c88 rfl rfl (by kernel_rfl) (fun Q_0 hR_0 hN_0=>?_)
  refine Sa (sT [(0,.d (.sl 4 (List.map e65 hanks))),pR 1 0,pR 2 1,pR 4 2] [(2,.var 4 [.d (.bool false)]),(0,.var 61 (cv61 o0)),(1,.var 140 [.clo 88 [] [.ptr 0 0,.ptr 1 0]])] 3 2) ?_
  refine AW.srwK (fun Q_1 hQ_1=>?_)
  refine Au 1 (sT [(0,.d (.sl 4 (List.map e65 hanks))),pR 1 0,pR 2 1,pR 4 2,(11,.d (.sl 4 (List.map e65 hanks)))] [(2,.var 4 [.d (.bool false)]),(0,.var 61 (cv61 o0)),(1,.var 140 [.clo 88 [] [.ptr 0 0,.ptr 1 0]])] 3 2) ?_
  refine rL rfl ?_
  refine Au 1 (sT [(0,.d (.sl 4 (List.map e65 hanks))),pR 1 0,pR 2 1,pR 4 2,(5,jI (hanks.length:Int))] [(2,.var 4 [.d (.bool false)]),(0,.var 61 (cv61 o0)),(1,.var 140 [.clo 88 [] [.ptr 0 0,.ptr 1 0]])] 3 2) ?_
  refine RW.nil (hQ_1 _ ?_)
  refine AW.seqK fun K_2 hK_2=>AW.srwK fun Q_3 hQ_3=>?_
  refine Au 3 (sT [(0,.d (.sl 4 (List.map e65 hanks))),pR 1 0,pR 2 1,pR 4 2,(5,jI (hanks.length:Int)),(13,jI (hanks.length:Int)),(15,.d (.sl 4 (List.map e65 o0.Hanks)))] [(2,.var 4 [.d (.bool false)]),(0,.var 61 (cv61 o0)),(1,.var 140 [.clo 88 [] [.ptr 0 0,.ptr 1 0]])] 3 2) ?_
  refine rL rfl ?_
  refine Au 1 (sT [(0,.d (.sl 4 (List.map e65 hanks))),pR 1 0,pR 2 1,pR 4 2,(5,jI (hanks.length:Int)),(17,.d (.bool (decide ((hanks.length:Int)=(o0.Hanks.length:Int)))))] [(2,.var 4 [.d (.bool false)]),(0,.var 61 (cv61 o0)),(1,.var 140 [.clo 88 [] [.ptr 0 0,.ptr 1 0]])] 3 2) ?_
  refine RW.nil (hQ_3 _ ?_)
  refine AW.cond rfl (fun hb_4=>?_) (fun hb_4=>?_)
  ·have h:=ifT hb_4 h
   refine Sa (sT [(0,.d (.sl 4 (List.map e65 hanks))),pR 4 2,pR 6 3] [(3,.var 61 (cv61 o0)),(2,.var 4 [.d (.bool false)]),(0,.var 61 (cv61 o0)),(1,.var 140 [.clo 88 [] [.ptr 0 0,.ptr 1 0]])] 4 2) ?_
   refine Sa (sT [pR 4 2,pR 6 3] [(3,.var 61 [.d (.sl 4 (List.map e65 hanks)),.d (.sl 3 (List.map e67 o0.Horses)),jI o0.Dark,jI o0.Near,jI o0.Match]),(2,.var 4 [.d (.bool false)]),(0,.var 61 (cv61 o0)),(1,.var 140 [.clo 88 [] [.ptr 0 0,.ptr 1 0]])] 4 2) ?_
   refine AW.srwK (fun Q_5 hQ_5=>?_)
   refine Au 1 (sT [pR 4 2,(21,.agg [.d (.sl 4 (List.map e65 hanks)),.d (.sl 3 (List.map e67 o0.Horses)),jI o0.Dark,jI o0.Near,jI o0.Match])] [(2,.var 4 [.d (.bool false)]),(0,.var 61 (cv61 o0)),(1,.var 140 [.clo 88 [] [.ptr 0 0,.ptr 1 0]])] 4 2) ?_
   obtain ⟨⟨r0_HairBook,mf⟩,hx_6,h⟩:=bsome h
   refine rC (k81 (HairBook.mk hanks o0.Horses o0.Dark o0.Near o0.Match) _ hx_6) ?_
   refine Au 2 (sT [pR 4 2,pR 7 4] [(4,.var 119 (catV (cv61 r0_HairBook) [.fmp (List.map m124_33 mf)])),(2,.var 4 [.d (.bool false)]),(0,.var 61 (cv61 o0)),(1,.var 140 [.clo 88 [] [.ptr 0 0,.ptr 1 0]])] 5 2) ?_
   refine RW.nil (hQ_5 _ ?_)
   refine AW.seqK (fun K_7 hK_7=>?_)
   refine AW.sdrwK fokW (fun Q_8 hQ_8=>?_)
   refine aX 1 (sT [pR 4 2,pR 7 4,(23,.agg [.d (.sl 4 (List.map e65 r0_HairBook.Hanks)),.d (.sl 3 (List.map e67 r0_HairBook.Horses)),jI r0_HairBook.Dark,jI r0_HairBook.Near,jI r0_HairBook.Match,.fmp (List.map m124_33 mf)])] [(4,.var 119 (catV (cv61 r0_HairBook) [.fmp (List.map m124_33 mf)])),(2,.var 4 [.d (.bool false)]),(0,.var 61 (cv61 o0)),(1,.var 140 [.clo 88 [] [.ptr 0 0,.ptr 1 0]])] 5 2) ?_
   obtain ⟨⟨⟩,hx_9,h⟩:=bsome h
   refine r_call trivial rfl (k80 _ hx_9) rfl rfl ?_
   refine aX 2 (sT [pR 4 2,(23,.agg [.d (.sl 4 (List.map e65 r0_HairBook.Hanks)),.d (.sl 3 (List.map e67 r0_HairBook.Horses)),jI r0_HairBook.Dark,jI r0_HairBook.Near,jI r0_HairBook.Match,.fmp (List.map m124_33 mf)]),(24,.agg [.d (.fn 119)]),(26,.clo 87 [.agg [.d (.sl 4 (List.map e65 r0_HairBook.Hanks)),.d (.sl 3 (List.map e67 r0_HairBook.Horses)),jI r0_HairBook.Dark,jI r0_HairBook.Near,jI r0_HairBook.Match,.fmp (List.map m124_33 mf)]] [])] [(4,.var 119 (catV (cv61 r0_HairBook) [.fmp (List.map m124_33 mf)])),(2,.var 4 [.d (.bool false)]),(0,.var 61 (cv61 o0)),(1,.var 140 [.clo 88 [] [.ptr 0 0,.ptr 1 0]])] 5 2) ?_
   obtain ⟨⟨o0_HairBook,mf1⟩,hx_10,h⟩:=bsome h
   refine r_callS (zr:=[]) [] trivial rfl (k86a r0_HairBook mf r0_HairBook mf _ hx_10) trivial rfl rfl ⟨.refl _,.refl _,.refl _,trivial⟩ rfl rfl rfl ?_
   refine Fi (sT [pR 4 2,(27,.clo 121 [] [.ptr 5 0,.ptr 6 0,.ptr 7 0])] [(5,.var 119 (catV (cv61 o0_HairBook) [.fmp (List.map m124_33 mf1)])),(6,.var 133 [.d (.fn 119)]),(7,.var 108 [.clo 87 [.agg [.d (.sl 4 (List.map e65 r0_HairBook.Hanks)),.d (.sl 3 (List.map e67 r0_HairBook.Horses)),jI r0_HairBook.Dark,jI r0_HairBook.Near,jI r0_HairBook.Match,.fmp (List.map m124_33 mf)]] []]),(2,.var 4 [.d (.bool false)]),(0,.var 61 (cv61 o0)),(1,.var 140 [.clo 88 [] [.ptr 0 0,.ptr 1 0]])] 8 2) ?_
   refine hQ_8 _ ?_
   refine AW.block ?_
   obtain ⟨out_11,hx_11,h⟩:=bsome h
   refine AW.rfX (fun (_:Unit)=>[(8,.dm),(2,.var 4 [.d (.bool false)]),(0,.var 61 (cv61 o0)),(1,.var 140 [.clo 88 [] [.ptr 0 0,.ptr 1 0]])]) (fun (_:Unit)=>[(8,.dm),(2,.var 4 [.d (.bool true)]),(0,.var 61 (cv61 o0)),(1,.var 140 [.clo 88 [] [.ptr 0 0,.ptr 1 0]])]) (fun _=>some .ret) g88_r11 (fun (⟨a,a1⟩:(List Int)×(Nat→Int))=>[.d (.sl 1 (List.map e3 a)),.agg [jI (a1 0),jI (a1 1),jI (a1 2),jI (a1 3),jI (a1 4)]]) (s0:=()) (out:=out_11) [pR 4 2] [(2,.var 4 [.d (.bool false)]),(0,.var 61 (cv61 o0)),(1,.var 140 [.clo 88 [] [.ptr 0 0,.ptr 1 0]])] [5,6,7] rfl (.clo _ _ _) (by kernel_rfl) (by kernel_rfl) (fun fr_ hY_11=>k121a fr_ _ (fun a a1 s s2 b h=>hY_11 (a,a1) s s2 b h) o0_HairBook mf1 r0_HairBook mf (.next ()) _ hx_11) (by kernel_rfl) ⟨rfl,rfl,rfl,trivial⟩ rfl ⟨rfl,rfl⟩ rfl rfl (fun _=>rfl) (fun _=>rfl) (fun a_11 s_11 c_11 h l_11=>?_) (fun _=>rfl) ?_
   ·obtain ⟨a,a1⟩:=a_11
    unfold g88_r11 at h
    refine AW.skip ?_
    refine AW.block ?_
    refine AW.sa (fokR l_11) [] (sT [pR 4 2] [(2,.var 4 [.d (.bool true)]),(8,.dm),(0,.var 61 (cv61 o0)),(1,.var 140 [.clo 88 [] [.ptr 0 0,.ptr 1 0]])] 9 9) (by kernel_rfl) ?_
    refine AW.ret ?_
    obtain rfl:=Option.some.inj h
    exact ⟨(sT [] [(8,.dm),(2,.var 4 [.d (.bool true)]),(0,.var 61 (cv61 o0)),(1,.var 140 [.clo 88 [] [.ptr 0 0,.ptr 1 0]])] 9 9),Can.kp (by kernel_rfl),rdX trivial rfl (by kernel_rfl) (by kernel_rfl)⟩
   ·rcases out_11 with _ | _
    ·refine hK_7 _ ?_
     refine Sa ⟨[pR 4 2],[(2,.var 4 [.d (.bool false)]),(8,.dm),(0,.var 61 (cv61 o0)),(1,.var 140 [.clo 88 [] [.ptr 0 0,.ptr 1 0]])],9,Fr.emp,[8],2⟩ ?_
     obtain rfl:=Option.some.inj h
     exact rT hR_0 (.cons (.one rfl rfl rfl) .nil)
    ·obtain rfl:=Option.some.inj h
     exact hR_0 _ (retX (.cons (.one rfl rfl rfl) .nil) (.refl _) rfl (by kernel_rfl) (by kernel_rfl))
  ·have h:=ifF hb_4 h
   refine AW.skip (hK_2 _ ?_)
   refine AW.srwK (fun Q_12 hQ_12=>?_)
   refine Au 3 (sT [(0,.d (.sl 4 (List.map e65 hanks))),pR 1 0,pR 2 1,pR 4 2,(5,jI (hanks.length:Int)),(31,.d (.sl 4 (List.map e65 o0.Hanks))),(32,jI (hanks.length:Int))] [(2,.var 4 [.d (.bool false)]),(0,.var 61 (cv61 o0)),(1,.var 140 [.clo 88 [] [.ptr 0 0,.ptr 1 0]])] 3 2) ?_
   obtain ⟨p,hv_13,h⟩:=bsome h
   refine RW.one fokW (r_iaD trivial rfl rfl (ixL_ok hv_13).1 (row:=e65 p) (mapget (ixL_ok hv_13).2) (r_end ?_))
   refine Au 4 (sT [(0,.d (.sl 4 (List.map e65 hanks))),pR 1 0,pR 2 1,pR 4 2,(5,jI (hanks.length:Int)),pR 8 3] [(3,.var 33 [jI p.Shade.Low,jI p.Shade.High]),(2,.var 4 [.d (.bool false)]),(0,.var 61 (cv61 o0)),(1,.var 140 [.clo 88 [] [.ptr 0 0,.ptr 1 0]])] 4 2) ?_
   refine RW.nil (hQ_12 _ ?_)
   obtain ⟨c_14,hx_14,hk_14⟩:=bsomeC h
   refine AW.jnK (fun (_:Unit)=>(sT [pR 4 2] [(2,.var 4 [.d (.bool false)]),(0,.var 61 (cv61 o0)),(1,.var 140 [.clo 88 [] [.ptr 0 0,.ptr 1 0]])] 4 2)) (c:=c_14) (fun K_14 hK_14=>?_) (fun j_14 hj_14=>?_)
   ·have h:=hx_14
    refine Sa (sT [(0,.d (.sl 4 (List.map e65 hanks))),pR 1 0,pR 2 1,pR 4 2,(5,jI (hanks.length:Int)),pR 8 3,(41,jI (wr ((wr (p.Shade.High - p.Shade.Low))+1))),(42,jI 0)] [(3,.var 33 [jI p.Shade.Low,jI p.Shade.High]),(2,.var 4 [.d (.bool false)]),(0,.var 61 (cv61 o0)),(1,.var 140 [.clo 88 [] [.ptr 0 0,.ptr 1 0]])] 4 2) ?_
    obtain ⟨c_15,hx_15,hk_15⟩:=bsomeC h
    refine AW.jqK (fun (_:Unit)=>(sT [pR 4 2] [(2,.var 4 [.d (.bool false)]),(0,.var 61 (cv61 o0)),(1,.var 140 [.clo 88 [] [.ptr 0 0,.ptr 1 0]])] 4 2)) (c:=c_15) (fun K_15 hK_15=>?_) (fun j_15 hj_15=>?_)
    ·have h:=hx_15
     refine AW.block ?_
     have hN_16:(wr ((wr (p.Shade.High - p.Shade.Low))+1))≤9223372036854775807:=(wr_range _).2
     obtain ⟨out_16,hx_16,hk_16⟩:=bsomeC h
     refine AW.lpCK (fun (v:Int) (_:Unit)=>(sT [(0,.d (.sl 4 (List.map e65 hanks))),pR 1 0,pR 2 1,pR 4 2,(5,jI (hanks.length:Int)),pR 8 3,(41,jI (wr ((wr (p.Shade.High - p.Shade.Low))+1))),(42,jI v)] [(3,.var 33 [jI p.Shade.Low,jI p.Shade.High]),(2,.var 4 [.d (.bool false)]),(0,.var 61 (cv61 o0)),(1,.var 140 [.clo 88 [] [.ptr 0 0,.ptr 1 0]])] 4 2)) (g88_16 (g88 n_) hanks o0 p) ((wr ((wr (p.Shade.High - p.Shade.Low))+1))) hx_16 (Can.kp (by kernel_rfl)) (fun v s_16 hi_16 hl_16 c_16 h hb_16 K_16 hK_16=>?_) (fun v s_16 hi_16 hl_16 hout=>?_)
     ·unfold g88_16 at h
      refine Sa (sT [(0,.d (.sl 4 (List.map e65 hanks))),pR 1 0,pR 2 1,pR 4 2,(5,jI (hanks.length:Int)),pR 8 3,(41,jI (wr ((wr (p.Shade.High - p.Shade.Low))+1))),(42,jI v),(43,.d (.bool (decide (v<(wr ((wr (p.Shade.High - p.Shade.Low))+1))))))] [(3,.var 33 [jI p.Shade.Low,jI p.Shade.High]),(2,.var 4 [.d (.bool false)]),(0,.var 61 (cv61 o0)),(1,.var 140 [.clo 88 [] [.ptr 0 0,.ptr 1 0]])] 4 2) ?_
      refine AW.seqK (fun K_17 hK_17=>?_)
      refine AW.cond rfl (fun hb_18=>?_) (fun hb_18=>False.elim (by have:=of_decide_eq_false hb_18;omega))
      refine AW.skip (hK_17 _ ?_)
      refine AW.seqK (fun K_19 hK_19=>?_)
      refine AW.block ?_
      refine Sa (sT [(0,.d (.sl 4 (List.map e65 hanks))),pR 1 0,pR 2 1,pR 4 2,(5,jI (hanks.length:Int)),pR 8 3,(9,jI v),(41,jI (wr ((wr (p.Shade.High - p.Shade.Low))+1))),(42,jI v)] [(3,.var 33 [jI p.Shade.Low,jI p.Shade.High]),(2,.var 4 [.d (.bool false)]),(0,.var 61 (cv61 o0)),(1,.var 140 [.clo 88 [] [.ptr 0 0,.ptr 1 0]])] 4 2) ?_
      refine Sa (sT [(0,.d (.sl 4 (List.map e65 hanks))),pR 1 0,pR 2 1,pR 4 2,(5,jI (hanks.length:Int)),pR 8 3,pR 10 4,(41,jI (wr ((wr (p.Shade.High - p.Shade.Low))+1))),(42,jI v)] [(4,.var 33 [jI (wr (p.Shade.Low+v)),jI (wr (p.Shade.Low+v))]),(3,.var 33 [jI p.Shade.Low,jI p.Shade.High]),(2,.var 4 [.d (.bool false)]),(0,.var 61 (cv61 o0)),(1,.var 140 [.clo 88 [] [.ptr 0 0,.ptr 1 0]])] 5 2) ?_
      refine AW.sdrwK fokW (fun Q_20 hQ_20=>?_)
      refine aX 4 (sT [(0,.d (.sl 4 (List.map e65 hanks))),pR 1 0,pR 2 1,pR 4 2,(5,jI (hanks.length:Int)),pR 8 3,pR 10 4,(41,jI (wr ((wr (p.Shade.High - p.Shade.Low))+1))),(42,jI v),(54,.clo 88 [] [.ptr 0 0,.ptr 1 0]),(55,.d (.sl 4 (List.map e65 hanks))),(56,jI (hanks.length:Int)),(57,jI (hanks.length:Int))] [(4,.var 33 [jI (wr (p.Shade.Low+v)),jI (wr (p.Shade.Low+v))]),(3,.var 33 [jI p.Shade.Low,jI p.Shade.High]),(2,.var 4 [.d (.bool false)]),(0,.var 61 (cv61 o0)),(1,.var 140 [.clo 88 [] [.ptr 0 0,.ptr 1 0]])] 5 2) ?_
      obtain ⟨l,hv_21,h⟩:=bsome h
      refine r_slN trivial rfl rfl rfl DSl.d (slcL_ok hv_21).2.1 (by rw [List.length_map];exact (slcL_ok hv_21).2.2.1) rfl (slz hv_21 e65) ?_
      refine aX 3 (sT [(0,.d (.sl 4 (List.map e65 hanks))),pR 1 0,pR 2 1,pR 4 2,(5,jI (hanks.length:Int)),pR 8 3,pR 10 4,(41,jI (wr ((wr (p.Shade.High - p.Shade.Low))+1))),(42,jI v),(54,.clo 88 [] [.ptr 0 0,.ptr 1 0]),(58,.fsl 4 (List.map e65 l)),(60,.d (.sl 4 (List.map e65 o0.Hanks))),(61,jI (hanks.length:Int))] [(4,.var 33 [jI (wr (p.Shade.Low+v)),jI (wr (p.Shade.Low+v))]),(3,.var 33 [jI p.Shade.Low,jI p.Shade.High]),(2,.var 4 [.d (.bool false)]),(0,.var 61 (cv61 o0)),(1,.var 140 [.clo 88 [] [.ptr 0 0,.ptr 1 0]])] 5 2) ?_
      refine r_iaD trivial rfl rfl (ixL_ok hv_13).1 (row:=e65 p) (mapget (ixL_ok hv_13).2) ?_
      refine aX 5 (sT [(0,.d (.sl 4 (List.map e65 hanks))),pR 1 0,pR 2 1,pR 4 2,(5,jI (hanks.length:Int)),pR 8 3,(41,jI (wr ((wr (p.Shade.High - p.Shade.Low))+1))),(42,jI v),(54,.clo 88 [] [.ptr 0 0,.ptr 1 0]),(58,.fsl 4 (List.map e65 l)),(67,.own 5 (List.map e65 [(HairHank.mk p.Weight (Span.mk (wr (p.Shade.Low+v)) (wr (p.Shade.Low+v))))]).length)] [(5,.row 65 4 (List.map e65 [(HairHank.mk p.Weight (Span.mk (wr (p.Shade.Low+v)) (wr (p.Shade.Low+v))))])),(4,.var 33 [jI (wr (p.Shade.Low+v)),jI (wr (p.Shade.Low+v))]),(3,.var 33 [jI p.Shade.Low,jI p.Shade.High]),(2,.var 4 [.d (.bool false)]),(0,.var 61 (cv61 o0)),(1,.var 140 [.clo 88 [] [.ptr 0 0,.ptr 1 0]])] 6 2) ?_
      obtain ⟨l1,hv_22,h⟩:=bsome h
      refine r_apF trivial rfl rfl rfl rfl (by simp) (zs:=List.map e65 l1) (apz hv_22 e65) (apr hv_22 e65) ?_
      obtain ⟨r0_4_1,hx_23,h⟩:=bsome h
      refine r_callvE (zr:=[(6,.row 65 4 (List.map e65 l1))]) [0,1] trivial rfl (.clo _ _ _) (by kernel_rfl) rfl (ih l1 o0 _ hx_23) ⟨rfl,rfl,rfl,trivial⟩ rfl rfl ⟨(.own rfl rfl),.refl _,.refl _,trivial⟩ rfl rfl rfl ?_
      refine Fi (sT [(0,.d (.sl 4 (List.map e65 hanks))),pR 1 0,pR 2 1,pR 4 2,(5,jI (hanks.length:Int)),pR 8 3,(41,jI (wr ((wr (p.Shade.High - p.Shade.Low))+1))),(42,jI v),(69,.d (.bool r0_4_1))] [(0,.var 61 (cv61 o0)),(1,.var 140 [.clo 88 [] [.ptr 0 0,.ptr 1 0]]),(3,.var 33 [jI p.Shade.Low,jI p.Shade.High]),(2,.var 4 [.d (.bool false)])] 7 2) ?_
      refine hQ_20 _ ?_
      refine AW.cond rfl (fun hb_24=>?_) (fun hb_24=>?_)
      ·have h:=ifT hb_24 h
       refine Sa (sT [pR 4 2] [(2,.var 4 [.d (.bool true)]),(0,.var 61 (cv61 o0)),(1,.var 140 [.clo 88 [] [.ptr 0 0,.ptr 1 0]])] 7 2) ?_
       obtain rfl:=Option.some.inj h
       have e_3:=hb_16 _ rfl
       subst e_3
       obtain rfl:=Aft.bk hk_16
       obtain rfl:=Aft.bk hk_15
       obtain rfl:=Aft.bk hk_14
       exact rT hR_0 (.cons (.one rfl rfl rfl) .nil)
      ·have h:=ifF hb_24 h
       refine AW.skip (hK_19 _ ?_)
       refine Ra (sT [(0,.d (.sl 4 (List.map e65 hanks))),pR 1 0,pR 2 1,pR 4 2,(5,jI (hanks.length:Int)),pR 8 3,(41,jI (wr ((wr (p.Shade.High - p.Shade.Low))+1))),(42,jI (wr (v+1)))] [(0,.var 61 (cv61 o0)),(1,.var 140 [.clo 88 [] [.ptr 0 0,.ptr 1 0]]),(3,.var 33 [jI p.Shade.Low,jI p.Shade.High]),(2,.var 4 [.d (.bool false)])] 7 2) ?_
       obtain rfl:=Option.some.inj h
       have ew:wr (v+1)=v+1:=inext (N:=(wr ((wr (p.Shade.High - p.Shade.Low))+1))) (by omega) (by omega) (by omega)
       rw [ew]
       exact hK_16 _ _ rfl (Can.kp (by kernel_rfl))
     ·subst hout
      have h:=Aft.nx hk_16
      refine Sa (sT [(0,.d (.sl 4 (List.map e65 hanks))),pR 1 0,pR 2 1,pR 4 2,(5,jI (hanks.length:Int)),pR 8 3,(41,jI (wr ((wr (p.Shade.High - p.Shade.Low))+1))),(42,jI v),(43,.d (.bool (decide (v<(wr ((wr (p.Shade.High - p.Shade.Low))+1))))))] [(3,.var 33 [jI p.Shade.Low,jI p.Shade.High]),(2,.var 4 [.d (.bool false)]),(0,.var 61 (cv61 o0)),(1,.var 140 [.clo 88 [] [.ptr 0 0,.ptr 1 0]])] 4 2) ?_
      refine AW.seqK (fun K_25 hK_25=>?_)
      refine AW.cond rfl (fun hb_26=>False.elim (by have:=of_decide_eq_true hb_26;omega)) (fun hb_26=>?_)
      refine AW.exit ?_
      obtain rfl:=Option.some.inj h
      exact hK_15 _ _ rfl (Can.kp (by kernel_rfl))
    ·subst hj_15
     have h:=Aft.nx hk_15
     obtain rfl:=Option.some.inj h
     exact hK_14 _ _ rfl (Can.kp (by kernel_rfl))
   ·subst hj_14
    have h:=Aft.nx hk_14
    refine Sa (sT [pR 4 2] [(2,.var 4 [.d (.bool false)]),(0,.var 61 (cv61 o0)),(1,.var 140 [.clo 88 [] [.ptr 0 0,.ptr 1 0]])] 4 2) ?_
    obtain rfl:=Option.some.inj h
    exact rT hR_0 (.cons (.one rfl rfl rfl) .nil)
def g34 (x:HairBook):Option (Bool×Int):=(g35 x).bind fun r0_9=>bif (decide (r0_9≠0)) then (some (false,r0_9)) else ((g88 1000 ([]:(List HairHank)) x).bind fun r0_4=>some (r0_4,0))
theorem k34 (x:HairBook) (r:Bool×Int) (h:g34 x=some r):SCall Tryd.prog Gs 34 [.agg [.d (.sl 4 (List.map e65 x.Hanks)),.d (.sl 3 (List.map e67 x.Horses)),jI x.Dark,jI x.Near,jI x.Match]] [] 0 Fr.emp (match r with | (r0_1,r1_1)=>.tup [.d (.bool r0_1),jI r1_1]) [] 0 Fr.emp:=by
 unfold g34 at h
 refine SCall.mkK Tryd.func34 c34 rfl rfl (by kernel_rfl) (fun Q_0 hR_0 hN_0=>?_)
 refine Sa (sT [pR 1 0] [(0,.var 61 (cv61 x))] 1 0) ?_
 refine AW.seqK fun K_1 hK_1=>AW.srwK fun Q_2 hQ_2=>?_
 refine Au 1 (sT [pR 1 0,(6,.agg [.d (.sl 4 (List.map e65 x.Hanks)),.d (.sl 3 (List.map e67 x.Horses)),jI x.Dark,jI x.Near,jI x.Match])] [(0,.var 61 (cv61 x))] 1 0) ?_
 obtain ⟨r0_9,hx_3,h⟩:=bsome h
 refine rC (k35 x _ hx_3) ?_
 refine Au 1 (sT [pR 1 0,(4,jI r0_9)] [(0,.var 61 (cv61 x))] 1 0) ?_
 refine RW.nil (hQ_2 _ ?_)
 refine Sa (sT [pR 1 0,(4,jI r0_9),(9,.d (.bool (decide (r0_9≠0))))] [(0,.var 61 (cv61 x))] 1 0) ?_
 refine AW.cond rfl (fun hb_4=>?_) (fun hb_4=>?_)
 ·have h:=ifT hb_4 h
  refine Sa (sT [(2,.d (.bool false)),(3,jI r0_9)] [] 1 0) ?_
  obtain rfl:=Option.some.inj h
  exact rT hR_0 (.cons (.tmp rfl) (.cons (.tmp rfl) .nil))
 ·have h:=ifF hb_4 h
  refine AW.skip (hK_1 _ ?_)
  refine Sa (sT [pR 1 0,pR 5 1] [(1,.var 140 [.d (.nilFn)]),(0,.var 61 (cv61 x))] 2 0) ?_
  refine Sa (sT [pR 5 1] [(1,.var 140 [.clo 88 [] [.ptr 0 0,.ptr 1 0]]),(0,.var 61 (cv61 x))] 2 0) ?_
  refine AW.srwK (fun Q_5 hQ_5=>?_)
  refine Au 1 (sT [(12,.clo 88 [] [.ptr 0 0,.ptr 1 0])] [(1,.var 140 [.clo 88 [] [.ptr 0 0,.ptr 1 0]]),(0,.var 61 (cv61 x))] 2 0) ?_
  obtain ⟨r0_4,hx_6,h⟩:=bsome h
  refine RW.one fokW (r_callvE (zr:=[]) [0,1] trivial rfl (.clo _ _ _) (by kernel_rfl) rfl (k88 1000 ([]:(List HairHank)) x _ hx_6) ⟨rfl,rfl,trivial⟩ rfl rfl ⟨(.nil 4),.refl _,.refl _,trivial⟩ rfl rfl rfl (r_end ?_))
  refine Au 2 (sT [(2,.d (.bool r0_4)),(3,jI 0)] [] 2 0) ?_
  refine RW.nil (hQ_5 _ ?_)
  obtain rfl:=Option.some.inj h
  exact rT hR_0 (.cons (.tmp rfl) (.cons (.tmp rfl) .nil))
def g26b :Option ((List HairHank)×(List HairHorse)×Int×Int×Int):=(g10 10 11).bind fun r0=>(g10 4 5).bind fun r0_1=>(g65 r0 r0_1).bind fun r0_2=>(g10 8 9).bind fun r0_3=>(g24 6).bind fun r0_4=>(g65 r0_3 r0_4).bind fun r0_5=>(g10 20 22).bind fun r0_6=>(g24 3).bind fun r0_7=>(g65 r0_6 r0_7).bind fun r0_8=>(g66 6 4 6).bind fun r0_9=>(g66 5 3 7).bind fun r0_10=>some ([r0_2,r0_5,r0_8],[r0_9,r0_10],2,1,1)
theorem k26b  (r:(List HairHank)×(List HairHorse)×Int×Int×Int) (h:g26b=some r):SCall Tryd.prog Gs 26 [] [] 0 Fr.emp (match r with | (r0_Hanks,r0_Horses,r0_Dark,r0_Near,r0_Match)=>.agg [.own 1 (List.map e65 r0_Hanks).length,.own 2 (List.map e67 r0_Horses).length,jI r0_Dark,jI r0_Near,jI r0_Match]) (match r with | (r0_Hanks,r0_Horses,r0_Dark,r0_Near,r0_Match)=>[(1,.row 65 4 (List.map e65 r0_Hanks)),(2,.row 67 3 (List.map e67 r0_Horses))]) 3 Fr.emp:=by
 unfold g26b at h
 refine SCall.mkK Tryd.func26 c26 rfl rfl (by kernel_rfl) (fun Q_0 hR_0 hN_0=>?_)
 refine Sa (sT [pR 0 0] [(0,.var 61 [.d (.nilSl),.d (.nilSl),jI 0,jI 0,jI 0])] 1 0) ?_
 refine AW.srwK (fun Q_1 hQ_1=>?_)
 obtain ⟨r0,hx_2,h⟩:=bsome h
 refine rC (k10 10 11 _ hx_2) ?_
 obtain ⟨r0_1,hx_3,h⟩:=bsome h
 refine rC (k10 4 5 _ hx_3) ?_
 obtain ⟨r0_2,hx_4,h⟩:=bsome h
 refine rC (k65 r0 r0_1 _ hx_4) ?_
 obtain ⟨r0_3,hx_5,h⟩:=bsome h
 refine rC (k10 8 9 _ hx_5) ?_
 obtain ⟨r0_4,hx_6,h⟩:=bsome h
 refine rC (k24 6 _ hx_6) ?_
 obtain ⟨r0_5,hx_7,h⟩:=bsome h
 refine rC (k65 r0_3 r0_4 _ hx_7) ?_
 obtain ⟨r0_6,hx_8,h⟩:=bsome h
 refine rC (k10 20 22 _ hx_8) ?_
 obtain ⟨r0_7,hx_9,h⟩:=bsome h
 refine rC (k24 3 _ hx_9) ?_
 obtain ⟨r0_8,hx_10,h⟩:=bsome h
 refine rC (k65 r0_6 r0_7 _ hx_10) ?_
 refine Au 1 (sT [pR 0 0,(10,.own 1 (List.map e65 [r0_2,r0_5,r0_8]).length)] [(1,.row 65 4 (List.map e65 [r0_2,r0_5,r0_8])),(0,.var 61 [.d (.nilSl),.d (.nilSl),jI 0,jI 0,jI 0])] 2 0) ?_
 obtain ⟨r0_9,hx_11,h⟩:=bsome h
 refine rC (k66 6 4 6 _ hx_11) ?_
 obtain ⟨r0_10,hx_12,h⟩:=bsome h
 refine rC (k66 5 3 7 _ hx_12) ?_
 refine Au 3 (sT [pR 0 0] [(0,.var 61 [.own 1 (List.map e65 [r0_2,r0_5,r0_8]).length,.own 2 (List.map e67 [r0_9,r0_10]).length,jI 2,jI 1,jI 1]),(2,.row 67 3 (List.map e67 [r0_9,r0_10])),(1,.row 65 4 (List.map e65 [r0_2,r0_5,r0_8]))] 3 0) ?_
 refine RW.nil (hQ_1 _ ?_)
 obtain rfl:=Option.some.inj h
 exact rT hR_0 (.cons (.agg rfl rfl (Nat.le_of_ble_eq_true rfl)) .nil)
def g90 :Option HairBook:=(g26b).bind fun (r0_Hanks,r0_Horses,r0_Dark,r0_Near,r0_Match)=>(g10 7 8).bind fun r0=>(ixL r0_Hanks 1).bind fun p=>some (HairBook.mk (setL r0_Hanks 1 (HairHank.mk r0 p.Shade)) r0_Horses r0_Dark r0_Near r0_Match)
theorem k90  (r:HairBook) (h:g90=some r):SCall Tryd.prog Gs 90 [] [] 0 Fr.emp (.agg [.d (.sl 4 (List.map e65 r.Hanks)),.d (.sl 3 (List.map e67 r.Horses)),jI r.Dark,jI r.Near,jI r.Match]) [] 0 Fr.emp:=by
 unfold g90 at h
 refine SCall.mkK Tryd.func90 c90 rfl rfl (by kernel_rfl) (fun Q_0 hR_0 hN_0=>?_)
 refine Sa (sT [pR 0 0] [(0,.var 61 [.d (.nilSl),.d (.nilSl),jI 0,jI 0,jI 0])] 1 0) ?_
 refine AW.srwK (fun Q_1 hQ_1=>?_)
 obtain ⟨⟨r0_Hanks,r0_Horses,r0_Dark,r0_Near,r0_Match⟩,hx_2,h⟩:=bsome h
 refine RW.one fokW (r_callS (zr:=[]) [] trivial rfl (k26b _ hx_2) trivial rfl rfl trivial rfl rfl rfl (r_end ?_))
 refine Au 2 (sT [pR 0 0,pR 1 4] [(4,.var 61 [.own 2 (List.map e65 r0_Hanks).length,.own 3 (List.map e67 r0_Horses).length,jI r0_Dark,jI r0_Near,jI r0_Match]),(2,.row 65 4 (List.map e65 r0_Hanks)),(3,.row 67 3 (List.map e67 r0_Horses)),(0,.var 61 [.d (.nilSl),.d (.nilSl),jI 0,jI 0,jI 0])] 5 0) ?_
 refine RW.nil (hQ_1 _ ?_)
 refine AW.sdrwK fokW (fun Q_3 hQ_3=>?_)
 refine aX 2 (sT [pR 0 0,pR 1 4,(4,.own 2 (List.map e65 r0_Hanks).length)] [(4,.var 61 [.own 2 (List.map e65 r0_Hanks).length,.own 3 (List.map e67 r0_Horses).length,jI r0_Dark,jI r0_Near,jI r0_Match]),(2,.row 65 4 (List.map e65 r0_Hanks)),(3,.row 67 3 (List.map e67 r0_Horses)),(0,.var 61 [.d (.nilSl),.d (.nilSl),jI 0,jI 0,jI 0])] 5 0) ?_
 obtain ⟨r0,hx_4,h⟩:=bsome h
 refine r_call trivial rfl (k10 7 8 _ hx_4) rfl rfl ?_
 obtain ⟨p,hv_5,h⟩:=bsome h
 refine r_iaO trivial rfl rfl rfl (ixL_ok hv_5).1 (ix_lt (ixL_ok hv_5).2) rfl ?_
 refine aX 1 (sT [pR 0 0,pR 1 4,(5,.agg [jI r0.Low,jI r0.High]),(7,.eptr 2 (List.map e65 r0_Hanks).length (1:Int).toNat 0)] [(4,.var 61 [.own 2 (List.map e65 r0_Hanks).length,.own 3 (List.map e67 r0_Horses).length,jI r0_Dark,jI r0_Near,jI r0_Match]),(2,.row 65 4 (List.map e65 r0_Hanks)),(3,.row 67 3 (List.map e67 r0_Horses)),(0,.var 61 [.d (.nilSl),.d (.nilSl),jI 0,jI 0,jI 0])] 5 0) ?_
 refine r_stE trivial rfl rfl rfl rfl (mapget (f:=e65) (ixL_ok hv_5).2) rfl rfl rfl (Nat.le_of_ble_eq_true rfl) (stz (f:=e65) (x:=(HairHank.mk r0 p.Shade)) rfl) ?_
 rw [lenset (f:=e65) (xs:=r0_Hanks) (i:=1) (x:=(HairHank.mk r0 p.Shade))]
 refine Fi (sT [pR 0 0,pR 1 4] [(2,.row 65 4 (List.map e65 (setL r0_Hanks 1 (HairHank.mk r0 p.Shade)))),(4,.var 61 [.own 2 (List.map e65 (setL r0_Hanks 1 (HairHank.mk r0 p.Shade))).length,.own 3 (List.map e67 r0_Horses).length,jI r0_Dark,jI r0_Near,jI r0_Match]),(3,.row 67 3 (List.map e67 r0_Horses)),(0,.var 61 [.d (.nilSl),.d (.nilSl),jI 0,jI 0,jI 0])] 5 0) ?_
 refine hQ_3 _ ?_
 refine Sa (sT [pR 0 0] [(0,.var 61 [.own 2 (List.map e65 (setL r0_Hanks 1 (HairHank.mk r0 p.Shade))).length,.own 3 (List.map e67 r0_Horses).length,jI r0_Dark,jI r0_Near,jI r0_Match]),(2,.row 65 4 (List.map e65 (setL r0_Hanks 1 (HairHank.mk r0 p.Shade)))),(3,.row 67 3 (List.map e67 r0_Horses))] 5 0) ?_
 obtain rfl:=Option.some.inj h
 exact AW.ret (hR_0 _ (retX (.cons (.agg rfl rfl (Nat.le_of_ble_eq_true rfl)) .nil) (Frz.agg_of ⟨(.own rfl rfl),(.own rfl rfl),.refl _,.refl _,.refl _,trivial⟩) rfl (by kernel_rfl) (by kernel_rfl)))
def g36 :Option HairBook:=(g90).bind fun r0_1=>(slcL r0_1.Hanks 0 2).bind fun l=>some (HairBook.mk l r0_1.Horses r0_1.Dark r0_1.Near r0_1.Match)
theorem k36  (r:HairBook) (h:g36=some r):SCall Tryd.prog Gs 36 [] [] 0 Fr.emp (.agg [.d (.sl 4 (List.map e65 r.Hanks)),.d (.sl 3 (List.map e67 r.Horses)),jI r.Dark,jI r.Near,jI r.Match]) [] 0 Fr.emp:=by
 unfold g36 at h
 refine SCall.mkK Tryd.func36 c36 rfl rfl (by kernel_rfl) (fun Q_0 hR_0 hN_0=>?_)
 refine Sa (sT [pR 0 0] [(0,.var 61 [.d (.nilSl),.d (.nilSl),jI 0,jI 0,jI 0])] 1 0) ?_
 refine AW.srwK (fun Q_1 hQ_1=>?_)
 obtain ⟨r0_1,hx_2,h⟩:=bsome h
 refine rC (k90 _ hx_2) ?_
 refine Au 2 (sT [pR 0 0,pR 1 1] [(1,.var 61 (cv61 r0_1)),(0,.var 61 [.d (.nilSl),.d (.nilSl),jI 0,jI 0,jI 0])] 2 0) ?_
 refine RW.nil (hQ_1 _ ?_)
 refine AW.srwK (fun Q_3 hQ_3=>?_)
 refine Au 2 (sT [pR 0 0,pR 1 1,(4,.d (.sl 4 (List.map e65 r0_1.Hanks)))] [(1,.var 61 (cv61 r0_1)),(0,.var 61 [.d (.nilSl),.d (.nilSl),jI 0,jI 0,jI 0])] 2 0) ?_
 obtain ⟨l,hv_4,h⟩:=bsome h
 refine RW.one fokW (r_slH trivial rfl rfl DSl.d (slcL_ok hv_4).2.1 (by rw [List.length_map];exact (slcL_ok hv_4).2.2.1) (slz hv_4 e65) (r_end ?_))
 refine Au 2 (sT [pR 0 0,pR 1 1] [(1,.var 61 [.d (.sl 4 (List.map e65 l)),.d (.sl 3 (List.map e67 r0_1.Horses)),jI r0_1.Dark,jI r0_1.Near,jI r0_1.Match]),(0,.var 61 [.d (.nilSl),.d (.nilSl),jI 0,jI 0,jI 0])] 2 0) ?_
 refine RW.nil (hQ_3 _ ?_)
 refine Sa (sT [pR 0 0] [(0,.var 61 [.d (.sl 4 (List.map e65 l)),.d (.sl 3 (List.map e67 r0_1.Horses)),jI r0_1.Dark,jI r0_1.Near,jI r0_1.Match])] 2 0) ?_
 obtain rfl:=Option.some.inj h
 exact rT hR_0 (.cons (.agg rfl rfl (Nat.le_of_ble_eq_true rfl)) .nil)
def g37_4 (l:(List Int)) (m:(List Int)):(Bool×Int)→Option (Ctl (Bool×Int) (Bool)):=fun  (is2,i)=>(bif is2 then (some (decide (i<(l.length:Int)))) else (some false)).bind fun v=>bif v then ((ixL l i).bind fun p=>(ixL m i).bind fun p1=>some (.next ((decide (p=p1)),(wr (i+1))))) else (some (.brk is2))
def g37 (l:(List Int)) (m:(List Int)):Option Bool:=((whileC (g37_4 l m) 1000 ((decide ((l.length:Int)=(m.length:Int))),0)).bind fun is1=>some is1).bind fun is=>some is
theorem k37 (l:(List Int)) (m:(List Int)) (r:Bool) (h:g37 l m=some r):SCall Tryd.prog Gs 37 [.d (.sl 1 (List.map e3 l)),.d (.sl 1 (List.map e3 m))] [] 0 Fr.emp (.d (.bool r)) [] 0 Fr.emp:=by
 unfold g37 at h
 refine SCall.mkK Tryd.func37 c37 rfl rfl (by kernel_rfl) (fun Q_0 hR_0 hN_0=>?_)
 refine Sa (sT [(0,.d (.sl 1 (List.map e3 l))),(1,.d (.sl 1 (List.map e3 m)))] [] 0 0) ?_
 refine AW.srwK (fun Q_1 hQ_1=>?_)
 refine Au 1 (sT [(0,.d (.sl 1 (List.map e3 l))),(1,.d (.sl 1 (List.map e3 m))),(7,.d (.sl 1 (List.map e3 l)))] [] 0 0) ?_
 refine rL rfl ?_
 refine Au 1 (sT [(0,.d (.sl 1 (List.map e3 l))),(1,.d (.sl 1 (List.map e3 m))),(8,jI (l.length:Int)),(9,.d (.sl 1 (List.map e3 m)))] [] 0 0) ?_
 refine rL rfl ?_
 refine Au 2 (sT [(0,.d (.sl 1 (List.map e3 l))),(1,.d (.sl 1 (List.map e3 m))),(5,.d (.bool (decide ((l.length:Int)=(m.length:Int)))))] [] 0 0) ?_
 refine RW.nil (hQ_1 _ ?_)
 obtain ⟨is,hx_2,h⟩:=bsome h
 refine AW.jnSK (fun (is:Bool)=>(sT [(5,.d (.bool is))] [] 0 0)) (c:=is) (fun K_2 hK_2=>?_) ?_
 ·have h:=hx_2
  refine Sa (sT [(0,.d (.sl 1 (List.map e3 l))),(1,.d (.sl 1 (List.map e3 m))),(5,.d (.bool (decide ((l.length:Int)=(m.length:Int))))),(6,jI 0)] [] 0 0) ?_
  obtain ⟨is1,hx_3,h⟩:=bsome h
  refine AW.jqSK (fun (is1:Bool)=>(sT [(5,.d (.bool is1))] [] 0 0)) (c:=is1) (fun K_3 hK_3=>?_) ?_
  ·have h:=hx_3
   refine AW.block ?_
   refine AW.whK (fun (⟨is2,i⟩:Bool×Int)=>(sT [(0,.d (.sl 1 (List.map e3 l))),(1,.d (.sl 1 (List.map e3 m))),(5,.d (.bool is2)),(6,jI i)] [] 0 0)) (g37_4 l m) h (Can.kp (by kernel_rfl)) (fun s_4 c_4 h hb_4 K_4 hK_4=>?_)
   obtain ⟨is2,i⟩:=s_4
   unfold g37_4 at h
   refine AW.seqK fun K_5 hK_5=>AW.srwK fun Q_6 hQ_6=>?_
   refine Au 2 (sT [(0,.d (.sl 1 (List.map e3 l))),(1,.d (.sl 1 (List.map e3 m))),(5,.d (.bool is2)),(6,jI i),(13,.d (.bool is2))] [] 0 0) ?_
   obtain ⟨v,hx_7,h⟩:=bsome h
   refine RW.cut fokW 5 ((sT [(0,.d (.sl 1 (List.map e3 l))),(1,.d (.sl 1 (List.map e3 m))),(5,.d (.bool is2)),(6,jI i),(18,.d (.bool v))] [] 0 0)) ?_ ?_
   ·refine r_split 13 rfl (fun hb_8=>?_) (fun hb_8=>?_)
    ·have h:=ifT hb_8 hx_7
     refine aX 2 (sT [(0,.d (.sl 1 (List.map e3 l))),(1,.d (.sl 1 (List.map e3 m))),(5,.d (.bool is2)),(6,jI i),(13,.d (.bool true)),(14,jI i),(15,.d (.sl 1 (List.map e3 l)))] [] 0 0) ?_
     refine r_lenX rfl rfl lenm ?_
     refine aX 2 (sT [(0,.d (.sl 1 (List.map e3 l))),(1,.d (.sl 1 (List.map e3 m))),(5,.d (.bool is2)),(6,jI i),(18,.d (.bool (decide (i<(l.length:Int)))))] [] 0 0) ?_
     obtain rfl:=Option.some.inj h
     refine RunC.finJ (Can.kp (by kernel_rfl))
    ·have h:=ifF hb_8 hx_7
     refine aX 5 (sT [(0,.d (.sl 1 (List.map e3 l))),(1,.d (.sl 1 (List.map e3 m))),(5,.d (.bool is2)),(6,jI i),(18,.d (.bool false))] [] 0 0) ?_
     obtain rfl:=Option.some.inj h
     refine RunC.finJ (Can.kp (by kernel_rfl))
   ·refine RW.nil (hQ_6 _ ?_)
    refine AW.cond rfl (fun hb_9=>?_) (fun hb_9=>?_)
    ·have h:=ifT hb_9 h
     refine AW.skip (hK_5 _ ?_)
     refine AW.seqK (fun K_10 hK_10=>?_)
     refine AW.block ?_
     refine AW.drw fokW ?_
     refine aX 2 (sT [(0,.d (.sl 1 (List.map e3 l))),(1,.d (.sl 1 (List.map e3 m))),(6,jI i),(21,.d (.sl 1 (List.map e3 l))),(22,jI i)] [] 0 0) ?_
     obtain ⟨p,hv_12,h⟩:=bsome h
     refine r_iaD trivial rfl rfl (ixL_ok hv_12).1 (row:=e3 p) (mapget (ixL_ok hv_12).2) ?_
     refine aX 3 (sT [(0,.d (.sl 1 (List.map e3 l))),(1,.d (.sl 1 (List.map e3 m))),(6,jI i),(24,jI p),(25,.d (.sl 1 (List.map e3 m))),(26,jI i)] [] 0 0) ?_
     obtain ⟨p1,hv_13,h⟩:=bsome h
     refine r_iaD trivial rfl rfl (ixL_ok hv_13).1 (row:=e3 p1) (mapget (ixL_ok hv_13).2) ?_
     refine aX 3 (sT [(0,.d (.sl 1 (List.map e3 l))),(1,.d (.sl 1 (List.map e3 m))),(5,.d (.bool (decide (p=p1)))),(6,jI i)] [] 0 0) ?_
     refine Fi (sT [(0,.d (.sl 1 (List.map e3 l))),(1,.d (.sl 1 (List.map e3 m))),(5,.d (.bool (decide (p=p1)))),(6,jI i)] [] 0 0) ?_
     refine hK_10 _ ?_
     refine Ra (sT [(0,.d (.sl 1 (List.map e3 l))),(1,.d (.sl 1 (List.map e3 m))),(5,.d (.bool (decide (p=p1)))),(6,jI (wr (i+1)))] [] 0 0) ?_
     obtain rfl:=Option.some.inj h
     exact hK_4 _ _ rfl (Can.kp (by kernel_rfl))
    ·have h:=ifF hb_9 h
     refine AW.exit ?_
     obtain rfl:=Option.some.inj h
     obtain rfl:=hb_4 _ rfl
     exact hK_3 _ (Can.kp (by kernel_rfl))
  ·obtain rfl:=Option.some.inj h
   exact hK_2 _ (Can.kp (by kernel_rfl))
 ·refine Sa (sT [(4,.d (.bool is))] [] 0 0) ?_
  obtain rfl:=Option.some.inj h
  exact rT hR_0 (.cons (.tmp rfl) .nil)
end Go.Proofs.Tl
namespace Go.Proofs.Tl
open Go Go.Abs Go.Proofs
def g38 :Option Bool:=(g26a).bind fun r0_11=>(g27 r0_11 0 1 2).bind fun (r0_4,r1_5,r2_4)=>(g26a).bind fun r0_11_1=>(g28 r0_11_1 [2,2,1,1]).bind fun (r0_2,r1_4)=>(g26a).bind fun r0_11_2=>(g30 r0_11_2 [2,2,1,1]).bind fun (r0_2_1,r1_4_1)=>(g26a).bind fun r0_11_3=>(g29 r0_11_3 [0,0,1,1] 0).bind fun (r0_2_2,r1_4_2)=>(g90).bind fun r0_1=>(g31 r0_1).bind fun (r0_3,r1_3)=>bindC ((bif (decide (r2_4≠0)) then (some true) else (bif (decide (r1_4≠0)) then (some true) else (bif (decide (r1_4_1≠0)) then (some true) else (bif (decide (r1_4_2≠0)) then (some true) else (bif (decide (r1_3≠0)) then (some true) else (bif (decide (r0_4≠0)) then (some true) else (bif (decide (r1_5≠2)) then (some true) else (bif (!r0_2) then (some true) else ((g10 10 13).bind fun r0=>bif (true != ((r0_2_1.Low==r0.Low)&&((r0_2_1.High==r0.High)&&true))) then (some true) else ((g10 0 1).bind fun r0_5=>bif (true != ((r0_2_2.Low==r0_5.Low)&&((r0_2_2.High==r0_5.High)&&true))) then (some true) else ((g37 r0_3 [2,2,0,0]).bind fun r0_6=>some (!r0_6)))))))))))).bind fun v=>bif v then (some (.brk false)) else (some (.next ())):Option (Ctl (Unit) (Bool))) fun _=>(g36).bind fun r0_7=>(g32 r0_7).bind fun (r0_2_3,r1_1)=>(g36).bind fun r0_8=>(g33 r0_8 6).bind fun (r0_5_1,r1_6)=>(g36).bind fun r0_9=>(g34 r0_9).bind fun (r0_1_1,r1_1_1)=>(bif (((decide (r1_1=0))&&(decide (r1_6=0)))&&(decide (r1_1_1=0))) then ((g37 r0_2_3 [0]).bind fun r0_10=>some r0_10) else (some false)).bind fun v1=>some ((v1&&(decide (r0_5_1=3)))&&r0_1_1)
theorem k38  (r:Bool) (h:g38=some r):SCall Tryd.prog Gs 38 [] [] 0 Fr.emp (.d (.bool r)) [] 0 Fr.emp:=by
 unfold g38 at h
 refine SCall.mkK Tryd.func38 c38 rfl rfl (by kernel_rfl) (fun Q_0 hR_0 hN_0=>?_)
 refine Sa (sT [] [] 0 0) ?_
 refine AW.srwK (fun Q_1 hQ_1=>?_)
 obtain ⟨r0_11,hx_2,h⟩:=bsome h
 refine rC (k26a _ hx_2) ?_
 obtain ⟨⟨r0_4,r1_5,r2_4⟩,hx_3,h⟩:=bsome h
 refine rC (k27 r0_11 0 1 2 _ hx_3) ?_
 refine Au 7 (sT [(1,jI r0_4),(2,jI r1_5),(3,jI r2_4)] [] 0 0) ?_
 refine RW.nil (hQ_1 _ ?_)
 refine AW.srwK (fun Q_4 hQ_4=>?_)
 obtain ⟨r0_11_1,hx_5,h⟩:=bsome h
 refine rC (k26a _ hx_5) ?_
 refine Au 1 (sT [(1,jI r0_4),(2,jI r1_5),(3,jI r2_4),(22,.agg [.d (.sl 4 (List.map e65 r0_11_1.Hanks)),.d (.sl 3 (List.map e67 r0_11_1.Horses)),jI r0_11_1.Dark,jI r0_11_1.Near,jI r0_11_1.Match]),(23,.own 0 (List.map e3 [2,2,1,1]).length)] [(0,.row 3 1 (List.map e3 [2,2,1,1]))] 1 0) ?_
 obtain ⟨⟨r0_2,r1_4⟩,hx_6,h⟩:=bsome h
 refine RW.one fokW (r_callF (rs:=[(0,.row 3 1 (List.map e3 [2,2,1,1]))]) trivial rfl (k28 r0_11_1 [2,2,1,1] _ hx_6) ⟨rfl,trivial⟩ ⟨.refl _,(.own rfl rfl),trivial⟩ rfl rfl rfl (r_end ?_))
 refine Au 5 (sT [(1,jI r0_4),(2,jI r1_5),(3,jI r2_4),(4,.d (.bool r0_2)),(5,jI r1_4)] [] 1 0) ?_
 refine RW.nil (hQ_4 _ ?_)
 refine AW.srwK (fun Q_7 hQ_7=>?_)
 obtain ⟨r0_11_2,hx_8,h⟩:=bsome h
 refine rC (k26a _ hx_8) ?_
 refine Au 1 (sT [(1,jI r0_4),(2,jI r1_5),(3,jI r2_4),(4,.d (.bool r0_2)),(5,jI r1_4),(28,.agg [.d (.sl 4 (List.map e65 r0_11_2.Hanks)),.d (.sl 3 (List.map e67 r0_11_2.Horses)),jI r0_11_2.Dark,jI r0_11_2.Near,jI r0_11_2.Match]),(29,.own 1 (List.map e3 [2,2,1,1]).length)] [(1,.row 3 1 (List.map e3 [2,2,1,1]))] 2 0) ?_
 obtain ⟨⟨r0_2_1,r1_4_1⟩,hx_9,h⟩:=bsome h
 refine RW.one fokW (r_callF (rs:=[(1,.row 3 1 (List.map e3 [2,2,1,1]))]) trivial rfl (k30 r0_11_2 [2,2,1,1] _ hx_9) ⟨rfl,trivial⟩ ⟨.refl _,(.own rfl rfl),trivial⟩ rfl rfl rfl (r_end ?_))
 refine Au 6 (sT [(1,jI r0_4),(2,jI r1_5),(3,jI r2_4),(4,.d (.bool r0_2)),(5,jI r1_4),pR 6 2,(7,jI r1_4_1)] [(2,.var 33 [jI r0_2_1.Low,jI r0_2_1.High])] 3 0) ?_
 refine RW.nil (hQ_7 _ ?_)
 refine AW.srwK (fun Q_10 hQ_10=>?_)
 obtain ⟨r0_11_3,hx_11,h⟩:=bsome h
 refine rC (k26a _ hx_11) ?_
 refine Au 1 (sT [(1,jI r0_4),(2,jI r1_5),(3,jI r2_4),(4,.d (.bool r0_2)),(5,jI r1_4),pR 6 2,(7,jI r1_4_1),(34,.agg [.d (.sl 4 (List.map e65 r0_11_3.Hanks)),.d (.sl 3 (List.map e67 r0_11_3.Horses)),jI r0_11_3.Dark,jI r0_11_3.Near,jI r0_11_3.Match]),(35,.own 3 (List.map e3 [0,0,1,1]).length)] [(3,.row 3 1 (List.map e3 [0,0,1,1])),(2,.var 33 [jI r0_2_1.Low,jI r0_2_1.High])] 4 0) ?_
 obtain ⟨⟨r0_2_2,r1_4_2⟩,hx_12,h⟩:=bsome h
 refine RW.one fokW (r_callF (rs:=[(3,.row 3 1 (List.map e3 [0,0,1,1]))]) trivial rfl (k29 r0_11_3 [0,0,1,1] 0 _ hx_12) ⟨rfl,trivial⟩ ⟨.refl _,(.own rfl rfl),.refl _,trivial⟩ rfl rfl rfl (r_end ?_))
 refine Au 6 (sT [(1,jI r0_4),(2,jI r1_5),(3,jI r2_4),(4,.d (.bool r0_2)),(5,jI r1_4),pR 6 2,(7,jI r1_4_1),pR 8 4,(9,jI r1_4_2)] [(4,.var 33 [jI r0_2_2.Low,jI r0_2_2.High]),(2,.var 33 [jI r0_2_1.Low,jI r0_2_1.High])] 5 0) ?_
 refine RW.nil (hQ_10 _ ?_)
 refine AW.srwK (fun Q_13 hQ_13=>?_)
 obtain ⟨r0_1,hx_14,h⟩:=bsome h
 refine rC (k90 _ hx_14) ?_
 obtain ⟨⟨r0_3,r1_3⟩,hx_15,h⟩:=bsome h
 refine rC (k31 r0_1 _ hx_15) ?_
 refine Au 5 (sT [(1,jI r0_4),(2,jI r1_5),(3,jI r2_4),(4,.d (.bool r0_2)),(5,jI r1_4),pR 6 2,(7,jI r1_4_1),pR 8 4,(9,jI r1_4_2),(10,.d (.sl 1 (List.map e3 r0_3))),(11,jI r1_3)] [(4,.var 33 [jI r0_2_2.Low,jI r0_2_2.High]),(2,.var 33 [jI r0_2_1.Low,jI r0_2_1.High])] 5 0) ?_
 refine RW.nil (hQ_13 _ ?_)
 obtain ⟨c_16,hx_16,hk_16⟩:=bsomeC h
 refine AW.jnK (fun (_:Unit)=>(sT [] [] 5 0)) (c:=c_16) (fun K_16 hK_16=>?_) (fun j_16 hj_16=>?_)
 ·have h:=hx_16
  obtain ⟨v,hx_17,h⟩:=bsome h
  refine AW.jnSK (fun (v:Bool)=>(sT [(89,.d (.bool v))] [] 5 0)) (c:=v) (fun K_17 hK_17=>?_) ?_
  ·have h:=hx_17
   refine AW.drw fokW ?_
   refine aX 3 (sT [(1,jI r0_4),(2,jI r1_5),(4,.d (.bool r0_2)),(5,jI r1_4),pR 6 2,(7,jI r1_4_1),pR 8 4,(9,jI r1_4_2),(10,.d (.sl 1 (List.map e3 r0_3))),(11,jI r1_3),(46,.d (.bool (decide (r2_4≠0))))] [(4,.var 33 [jI r0_2_2.Low,jI r0_2_2.High]),(2,.var 33 [jI r0_2_1.Low,jI r0_2_1.High])] 5 0) ?_
   refine r_split 46 rfl (fun hb_19=>?_) (fun hb_19=>?_)
   ·have h:=ifT hb_19 h
    refine aX 43 (sT [(89,.d (.bool true))] [(4,.var 33 [jI r0_2_2.Low,jI r0_2_2.High]),(2,.var 33 [jI r0_2_1.Low,jI r0_2_1.High])] 5 0) ?_
    refine Fi (sT [(89,.d (.bool true))] [] 5 0) ?_
    obtain rfl:=Option.some.inj h
    exact hK_17 _ (Can.kp (by kernel_rfl))
   ·have h:=ifF hb_19 h
    refine aX 4 (sT [(1,jI r0_4),(2,jI r1_5),(4,.d (.bool r0_2)),pR 6 2,(7,jI r1_4_1),pR 8 4,(9,jI r1_4_2),(10,.d (.sl 1 (List.map e3 r0_3))),(11,jI r1_3),(50,.d (.bool (decide (r1_4≠0))))] [(4,.var 33 [jI r0_2_2.Low,jI r0_2_2.High]),(2,.var 33 [jI r0_2_1.Low,jI r0_2_1.High])] 5 0) ?_
    refine r_split 50 rfl (fun hb_20=>?_) (fun hb_20=>?_)
    ·have h:=ifT hb_20 h
     refine aX 39 (sT [(89,.d (.bool true))] [(4,.var 33 [jI r0_2_2.Low,jI r0_2_2.High]),(2,.var 33 [jI r0_2_1.Low,jI r0_2_1.High])] 5 0) ?_
     refine Fi (sT [(89,.d (.bool true))] [] 5 0) ?_
     obtain rfl:=Option.some.inj h
     exact hK_17 _ (Can.kp (by kernel_rfl))
    ·have h:=ifF hb_20 h
     refine aX 4 (sT [(1,jI r0_4),(2,jI r1_5),(4,.d (.bool r0_2)),pR 6 2,pR 8 4,(9,jI r1_4_2),(10,.d (.sl 1 (List.map e3 r0_3))),(11,jI r1_3),(54,.d (.bool (decide (r1_4_1≠0))))] [(4,.var 33 [jI r0_2_2.Low,jI r0_2_2.High]),(2,.var 33 [jI r0_2_1.Low,jI r0_2_1.High])] 5 0) ?_
     refine r_split 54 rfl (fun hb_21=>?_) (fun hb_21=>?_)
     ·have h:=ifT hb_21 h
      refine aX 35 (sT [(89,.d (.bool true))] [(4,.var 33 [jI r0_2_2.Low,jI r0_2_2.High]),(2,.var 33 [jI r0_2_1.Low,jI r0_2_1.High])] 5 0) ?_
      refine Fi (sT [(89,.d (.bool true))] [] 5 0) ?_
      obtain rfl:=Option.some.inj h
      exact hK_17 _ (Can.kp (by kernel_rfl))
     ·have h:=ifF hb_21 h
      refine aX 4 (sT [(1,jI r0_4),(2,jI r1_5),(4,.d (.bool r0_2)),pR 6 2,pR 8 4,(10,.d (.sl 1 (List.map e3 r0_3))),(11,jI r1_3),(58,.d (.bool (decide (r1_4_2≠0))))] [(4,.var 33 [jI r0_2_2.Low,jI r0_2_2.High]),(2,.var 33 [jI r0_2_1.Low,jI r0_2_1.High])] 5 0) ?_
      refine r_split 58 rfl (fun hb_22=>?_) (fun hb_22=>?_)
      ·have h:=ifT hb_22 h
       refine aX 31 (sT [(89,.d (.bool true))] [(4,.var 33 [jI r0_2_2.Low,jI r0_2_2.High]),(2,.var 33 [jI r0_2_1.Low,jI r0_2_1.High])] 5 0) ?_
       refine Fi (sT [(89,.d (.bool true))] [] 5 0) ?_
       obtain rfl:=Option.some.inj h
       exact hK_17 _ (Can.kp (by kernel_rfl))
      ·have h:=ifF hb_22 h
       refine aX 4 (sT [(1,jI r0_4),(2,jI r1_5),(4,.d (.bool r0_2)),pR 6 2,pR 8 4,(10,.d (.sl 1 (List.map e3 r0_3))),(62,.d (.bool (decide (r1_3≠0))))] [(4,.var 33 [jI r0_2_2.Low,jI r0_2_2.High]),(2,.var 33 [jI r0_2_1.Low,jI r0_2_1.High])] 5 0) ?_
       refine r_split 62 rfl (fun hb_23=>?_) (fun hb_23=>?_)
       ·have h:=ifT hb_23 h
        refine aX 27 (sT [(89,.d (.bool true))] [(4,.var 33 [jI r0_2_2.Low,jI r0_2_2.High]),(2,.var 33 [jI r0_2_1.Low,jI r0_2_1.High])] 5 0) ?_
        refine Fi (sT [(89,.d (.bool true))] [] 5 0) ?_
        obtain rfl:=Option.some.inj h
        exact hK_17 _ (Can.kp (by kernel_rfl))
       ·have h:=ifF hb_23 h
        refine aX 4 (sT [(2,jI r1_5),(4,.d (.bool r0_2)),pR 6 2,pR 8 4,(10,.d (.sl 1 (List.map e3 r0_3))),(66,.d (.bool (decide (r0_4≠0))))] [(4,.var 33 [jI r0_2_2.Low,jI r0_2_2.High]),(2,.var 33 [jI r0_2_1.Low,jI r0_2_1.High])] 5 0) ?_
        refine r_split 66 rfl (fun hb_24=>?_) (fun hb_24=>?_)
        ·have h:=ifT hb_24 h
         refine aX 23 (sT [(89,.d (.bool true))] [(4,.var 33 [jI r0_2_2.Low,jI r0_2_2.High]),(2,.var 33 [jI r0_2_1.Low,jI r0_2_1.High])] 5 0) ?_
         refine Fi (sT [(89,.d (.bool true))] [] 5 0) ?_
         obtain rfl:=Option.some.inj h
         exact hK_17 _ (Can.kp (by kernel_rfl))
        ·have h:=ifF hb_24 h
         refine aX 4 (sT [(4,.d (.bool r0_2)),pR 6 2,pR 8 4,(10,.d (.sl 1 (List.map e3 r0_3))),(70,.d (.bool (decide (r1_5≠2))))] [(4,.var 33 [jI r0_2_2.Low,jI r0_2_2.High]),(2,.var 33 [jI r0_2_1.Low,jI r0_2_1.High])] 5 0) ?_
         refine r_split 70 rfl (fun hb_25=>?_) (fun hb_25=>?_)
         ·have h:=ifT hb_25 h
          refine aX 19 (sT [(89,.d (.bool true))] [(4,.var 33 [jI r0_2_2.Low,jI r0_2_2.High]),(2,.var 33 [jI r0_2_1.Low,jI r0_2_1.High])] 5 0) ?_
          refine Fi (sT [(89,.d (.bool true))] [] 5 0) ?_
          obtain rfl:=Option.some.inj h
          exact hK_17 _ (Can.kp (by kernel_rfl))
         ·have h:=ifF hb_25 h
          refine aX 4 (sT [pR 6 2,pR 8 4,(10,.d (.sl 1 (List.map e3 r0_3))),(74,.d (.bool (!r0_2)))] [(4,.var 33 [jI r0_2_2.Low,jI r0_2_2.High]),(2,.var 33 [jI r0_2_1.Low,jI r0_2_1.High])] 5 0) ?_
          refine r_split 74 rfl (fun hb_26=>?_) (fun hb_26=>?_)
          ·have h:=ifT hb_26 h
           refine aX 15 (sT [(89,.d (.bool true))] [(4,.var 33 [jI r0_2_2.Low,jI r0_2_2.High]),(2,.var 33 [jI r0_2_1.Low,jI r0_2_1.High])] 5 0) ?_
           refine Fi (sT [(89,.d (.bool true))] [] 5 0) ?_
           obtain rfl:=Option.some.inj h
           exact hK_17 _ (Can.kp (by kernel_rfl))
          ·have h:=ifF hb_26 h
           refine aX 1 (sT [pR 8 4,(10,.d (.sl 1 (List.map e3 r0_3))),(74,.d (.bool false)),(75,.agg [jI r0_2_1.Low,jI r0_2_1.High])] [(4,.var 33 [jI r0_2_2.Low,jI r0_2_2.High]),(2,.var 33 [jI r0_2_1.Low,jI r0_2_1.High])] 5 0) ?_
           obtain ⟨r0,hx_27,h⟩:=bsome h
           refine r_call rfl rfl (k10 10 13 _ hx_27) rfl rfl ?_
           refine r_aeq rfl rfl rfl rfl rfl ft33 rfl rfl rfl ?_
           refine aX 2 (sT [pR 8 4,(10,.d (.sl 1 (List.map e3 r0_3))),(79,.d (.bool (true != ((r0_2_1.Low==r0.Low)&&((r0_2_1.High==r0.High)&&true)))))] [(4,.var 33 [jI r0_2_2.Low,jI r0_2_2.High]),(2,.var 33 [jI r0_2_1.Low,jI r0_2_1.High])] 5 0) ?_
           refine r_split 79 rfl (fun hb_28=>?_) (fun hb_28=>?_)
           ·have h:=ifT hb_28 h
            refine aX 10 (sT [(89,.d (.bool true))] [(4,.var 33 [jI r0_2_2.Low,jI r0_2_2.High]),(2,.var 33 [jI r0_2_1.Low,jI r0_2_1.High])] 5 0) ?_
            refine Fi (sT [(89,.d (.bool true))] [] 5 0) ?_
            obtain rfl:=Option.some.inj h
            exact hK_17 _ (Can.kp (by kernel_rfl))
           ·have h:=ifF hb_28 h
            refine aX 1 (sT [(10,.d (.sl 1 (List.map e3 r0_3))),(79,.d (.bool false)),(80,.agg [jI r0_2_2.Low,jI r0_2_2.High])] [(4,.var 33 [jI r0_2_2.Low,jI r0_2_2.High]),(2,.var 33 [jI r0_2_1.Low,jI r0_2_1.High])] 5 0) ?_
            obtain ⟨r0_5,hx_29,h⟩:=bsome h
            refine r_call rfl rfl (k10 0 1 _ hx_29) rfl rfl ?_
            refine r_aeq rfl rfl rfl rfl rfl ft33 rfl rfl rfl ?_
            refine aX 2 (sT [(10,.d (.sl 1 (List.map e3 r0_3))),(84,.d (.bool (true != ((r0_2_2.Low==r0_5.Low)&&((r0_2_2.High==r0_5.High)&&true)))))] [(4,.var 33 [jI r0_2_2.Low,jI r0_2_2.High]),(2,.var 33 [jI r0_2_1.Low,jI r0_2_1.High])] 5 0) ?_
            refine r_split 84 rfl (fun hb_30=>?_) (fun hb_30=>?_)
            ·have h:=ifT hb_30 h
             refine aX 5 (sT [(89,.d (.bool true))] [(4,.var 33 [jI r0_2_2.Low,jI r0_2_2.High]),(2,.var 33 [jI r0_2_1.Low,jI r0_2_1.High])] 5 0) ?_
             refine Fi (sT [(89,.d (.bool true))] [] 5 0) ?_
             obtain rfl:=Option.some.inj h
             exact hK_17 _ (Can.kp (by kernel_rfl))
            ·have h:=ifF hb_30 h
             refine aX 2 (sT [(84,.d (.bool false)),(85,.d (.sl 1 (List.map e3 r0_3))),(86,.own 5 (List.map e3 [2,2,0,0]).length)] [(5,.row 3 1 (List.map e3 [2,2,0,0])),(4,.var 33 [jI r0_2_2.Low,jI r0_2_2.High]),(2,.var 33 [jI r0_2_1.Low,jI r0_2_1.High])] 6 0) ?_
             obtain ⟨r0_6,hx_31,h⟩:=bsome h
             refine r_callF (rs:=[(5,.row 3 1 (List.map e3 [2,2,0,0]))]) rfl rfl (k37 r0_3 [2,2,0,0] _ hx_31) ⟨rfl,trivial⟩ ⟨.refl _,(.own rfl rfl),trivial⟩ rfl rfl rfl ?_
             refine aX 2 (sT [(89,.d (.bool (!r0_6)))] [(5,.row 3 1 (List.map e3 [2,2,0,0])),(4,.var 33 [jI r0_2_2.Low,jI r0_2_2.High]),(2,.var 33 [jI r0_2_1.Low,jI r0_2_1.High])] 6 0) ?_
             refine Fi (sT [(89,.d (.bool (!r0_6)))] [] 6 0) ?_
             obtain rfl:=Option.some.inj h
             exact hK_17 _ (Can.kp (by kernel_rfl))
  ·refine AW.cond rfl (fun hb_32=>?_) (fun hb_32=>?_)
   ·have h:=ifT hb_32 h
    refine Sa (sT [(0,.d (.bool false))] [] 5 0) ?_
    obtain rfl:=Option.some.inj h
    obtain rfl:=Aft.bk hk_16
    exact rT hR_0 (.cons (.tmp rfl) .nil)
   ·have h:=ifF hb_32 h
    refine AW.skip ?_
    obtain rfl:=Option.some.inj h
    exact hK_16 _ _ rfl (Can.kp (by kernel_rfl))
 ·subst hj_16
  have h:=Aft.nx hk_16
  refine AW.srwK (fun Q_33 hQ_33=>?_)
  obtain ⟨r0_7,hx_34,h⟩:=bsome h
  refine rC (k36 _ hx_34) ?_
  obtain ⟨⟨r0_2_3,r1_1⟩,hx_35,h⟩:=bsome h
  refine rC (k32 r0_7 _ hx_35) ?_
  refine Au 5 (sT [(3,jI r1_1),(12,.d (.sl 1 (List.map e3 r0_2_3)))] [] 5 0) ?_
  refine RW.nil (hQ_33 _ ?_)
  refine AW.srwK (fun Q_36 hQ_36=>?_)
  obtain ⟨r0_8,hx_37,h⟩:=bsome h
  refine rC (k36 _ hx_37) ?_
  obtain ⟨⟨r0_5_1,r1_6⟩,hx_38,h⟩:=bsome h
  refine rC (k33 r0_8 6 _ hx_38) ?_
  refine Au 5 (sT [(3,jI r1_1),(5,jI r1_6),(12,.d (.sl 1 (List.map e3 r0_2_3))),(13,jI r0_5_1)] [] 5 0) ?_
  refine RW.nil (hQ_36 _ ?_)
  refine AW.srwK (fun Q_39 hQ_39=>?_)
  obtain ⟨r0_9,hx_40,h⟩:=bsome h
  refine rC (k36 _ hx_40) ?_
  obtain ⟨⟨r0_1_1,r1_1_1⟩,hx_41,h⟩:=bsome h
  refine rC (k34 r0_9 _ hx_41) ?_
  refine Au 5 (sT [(3,jI r1_1),(5,jI r1_6),(7,jI r1_1_1),(12,.d (.sl 1 (List.map e3 r0_2_3))),(13,jI r0_5_1),(14,.d (.bool r0_1_1))] [] 5 0) ?_
  refine RW.nil (hQ_39 _ ?_)
  refine AW.srwK (fun Q_42 hQ_42=>?_)
  refine RW.au fokW 11 [107,111] (sT [(12,.d (.sl 1 (List.map e3 r0_2_3))),(13,jI r0_5_1),(14,.d (.bool r0_1_1)),(115,.d (.bool (((decide (r1_1=0))&&(decide (r1_6=0)))&&(decide (r1_1_1=0)))))] [] 5 0) (by kernel_rfl) ?_
  obtain ⟨v1,hx_43,h⟩:=bsome h
  refine RW.cut fokW 4 ((sT [(13,jI r0_5_1),(14,.d (.bool r0_1_1)),(119,.d (.bool v1))] [] 5 0)) ?_ ?_
  ·refine r_split 115 rfl (fun hb_45=>?_) (fun hb_45=>?_)
   ·have h:=ifT hb_45 hx_43
    refine aX 2 (sT [(13,jI r0_5_1),(14,.d (.bool r0_1_1)),(115,.d (.bool true)),(116,.d (.sl 1 (List.map e3 r0_2_3))),(117,.own 5 (List.map e3 [0]).length)] [(5,.row 3 1 (List.map e3 [0]))] 6 0) ?_
    obtain ⟨r0_10,hx_44,h⟩:=bsome h
    refine r_callF (rs:=[(5,.row 3 1 (List.map e3 [0]))]) rfl rfl (k37 r0_2_3 [0] _ hx_44) ⟨rfl,trivial⟩ ⟨.refl _,(.own rfl rfl),trivial⟩ rfl rfl rfl ?_
    refine aX 1 (sT [(13,jI r0_5_1),(14,.d (.bool r0_1_1)),(119,.d (.bool r0_10))] [(5,.row 3 1 (List.map e3 [0]))] 6 0) ?_
    obtain rfl:=Option.some.inj h
    refine RunC.finJ (Can.kp (by kernel_rfl))
   ·have h:=ifF hb_45 hx_43
    refine aX 4 (sT [(13,jI r0_5_1),(14,.d (.bool r0_1_1)),(119,.d (.bool false))] [] 5 0) ?_
    obtain rfl:=Option.some.inj h
    refine RunC.finJ (Can.kp (by kernel_rfl))
  ·refine RW.au fokW 8 [120,124] (sT [(0,.d (.bool ((v1&&(decide (r0_5_1=3)))&&r0_1_1)))] [] 5 0) (by kernel_rfl) ?_
   refine RW.nil (hQ_42 _ ?_)
   obtain rfl:=Option.some.inj h
   exact rT hR_0 (.cons (.tmp rfl) .nil)
end Go.Proofs.Tl
