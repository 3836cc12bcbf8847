/- Told functions, and that the program does so, part 2. Conditions: none. -/
import Derived.Test.YtonjadhpjkbhnaaDoorTda
set_option linter.unusedVariables false
set_option linter.unusedSimpArgs false
namespace Go.Proofs.Th
open Go Go.Abs Go.Proofs
def g112_16 {S_:Type} (rec_:(List Int)→(Nat→Int)→HairBook→(List (Hair_dye×Span))→HairBook→(List (Hair_dye×Span))→S_→Option (Bool×S_)) (plan:(List Int)) (cut:(Nat→Int)) (o0_B:HairBook) (mf:List (Hair_dye×Span)) (m0_B:HairBook) (mf_1:List (Hair_dye×Span)) (need:Int):Int→HairHank→S_→Option (Ctl (S_) (Bool×S_)):=fun v p2 s_2=>bindC ((ixN 5 v).bind fun j1=>(g107 p2.Weight).bind fun r0_2=>bif (decide (r0_2<(wr ((cut j1)+need)))) then (some (.brk (.next s_2))) else (bif (decide (((plan.length:Int).tmod 2)=1)) then ((ixL plan (wr ((plan.length:Int) - 1))).bind fun p3=>(g89 m0_B mf_1 (wr ((plan.length:Int).tdiv 2)) p3 v).bind fun r0_3=>bif (!r0_3) then (some (.brk (.next s_2))) else (some (.next ()))) else (some (.next ()))):Option (Ctl (Unit) (Ctl (S_) (Bool×S_)))) fun _=>(ixN 5 v).bind fun j2=>(ixN 5 v).bind fun j3=>(slcL plan 0 (plan.length:Int)).bind fun l=>(appL 8 l [v]).bind fun l1=>(rec_ l1 (aset cut j3 (wr ((cut j2)+need))) o0_B mf m0_B mf_1 s_2).bind fun (r0_7_1,s_5_1)=>bif (!r0_7_1) then (some (.brk (false,s_5_1))) else (some (.next s_5_1))
def g112 {S_:Type} (c_:(List Int)→(Nat→Int)→S_→Option (S_×Bool)):Nat→(List Int)→(Nat→Int)→HairBook→(List (Hair_dye×Span))→HairBook→(List (Hair_dye×Span))→S_→Option (Bool×S_)
 | 0,_,_,_,_,_,_,_=>none
 | n_+1,plan,cut,o0_B,mf,m0_B,mf_1,s_=>bif (decide ((plan.length:Int)=(wr (2*(o0_B.Horses.length:Int))))) then ((c_ plan cut s_).bind fun (s_1,go)=>some (go,s_1)) else (((ixN 2 ((plan.length:Int).tmod 2)).bind fun j=>match j with | 0=>(ixL o0_B.Horses (wr ((plan.length:Int).tdiv 2))).bind fun p=>(g133 p).bind fun r0=>some r0 | 1=>(ixL o0_B.Horses (wr ((plan.length:Int).tdiv 2))).bind fun p1=>(g135 p1).bind fun r0_1=>some r0_1 | _=>none).bind fun need=>bindC (eachC (g112_16 (g112 c_ n_) plan cut o0_B mf m0_B mf_1 need) o0_B.Hanks 0 s_) fun s_2=>some (true,s_2))
def y20 (cut:(Nat→Int)) (o0_B:HairBook) (mf:List (Hair_dye×Span)) (m0_B:HairBook) (mf_1:List (Hair_dye×Span)):List (Nat×Blk):=[(5,.var 92 (cfv cut)),(0,.var 78 (hbm o0_B mf)),(1,.var 127 [.yld]),(2,.var 99 [.d (.fn 107)]),(3,.var 65 [.clo 89 [.agg (hbm m0_B mf_1)] []]),(4,.var 127 [.clo 112 [] [.ptr 0 0,.ptr 1 0,.ptr 2 0,.ptr 3 0,.ptr 4 0]])]
def y21 (o0_B:HairBook) (mf:List (Hair_dye×Span)) (m0_B:HairBook) (mf_1:List (Hair_dye×Span)):List (Nat×Blk):=[(0,.var 78 (hbm o0_B mf)),(1,.var 127 [.yld]),(2,.var 99 [.d (.fn 107)]),(3,.var 65 [.clo 89 [.agg (hbm m0_B mf_1)] []]),(4,.var 127 [.clo 112 [] [.ptr 0 0,.ptr 1 0,.ptr 2 0,.ptr 3 0,.ptr 4 0]])]
def y22 (cut:(Nat→Int)) (o0_B:HairBook) (mf:List (Hair_dye×Span)) (m0_B:HairBook) (mf_1:List (Hair_dye×Span)):List (Nat×Blk):=[(7,.var 92 (cfv cut)),(5,.var 92 (cfv cut)),(0,.var 78 (hbm o0_B mf)),(1,.var 127 [.yld]),(2,.var 99 [.d (.fn 107)]),(3,.var 65 [.clo 89 [.agg (hbm m0_B mf_1)] []]),(4,.var 127 [.clo 112 [] [.ptr 0 0,.ptr 1 0,.ptr 2 0,.ptr 3 0,.ptr 4 0]])]
def y23 (o0_B:HairBook) (mf:List (Hair_dye×Span)) (m0_B:HairBook) (mf_1:List (Hair_dye×Span)) (cut:(Nat→Int)):List (Nat×Blk):=[(0,.var 78 (hbm o0_B mf)),(1,.var 127 [.yld]),(2,.var 99 [.d (.fn 107)]),(3,.var 65 [.clo 89 [.agg (hbm m0_B mf_1)] []]),(4,.var 127 [.clo 112 [] [.ptr 0 0,.ptr 1 0,.ptr 2 0,.ptr 3 0,.ptr 4 0]]),(5,.var 92 (cfv cut))]
theorem k112 {S_:Type} (fr_:S_→Fr) (c_:(List Int)→(Nat→Int)→S_→Option (S_×Bool)) (hc_:∀ (a0:(List Int)) (a1:(Nat→Int)) s s2 b,c_ a0 a1 s=some (s2,b)→YCall Tryd.prog Gs (fr_ s) [.d (q1 a0),.agg (cfv a1)] (.d (.bool b)) (fr_ s2)):∀ (n_:Nat) (plan:(List Int)) (cut:(Nat→Int)) (o0_B:HairBook) (mf:List (Hair_dye×Span)) (m0_B:HairBook) (mf_1:List (Hair_dye×Span)) (s_:S_) (r:Bool×S_) (h:g112 c_ n_ plan cut o0_B mf m0_B mf_1 s_=some r),SCall Tryd.prog Gs 112 [.d (q1 plan),.agg (cfv cut),.ptr 0 0,.ptr 1 0,.ptr 2 0,.ptr 3 0,.ptr 4 0] [(0,.var 78 (hbm o0_B mf)),(1,.var 127 [.yld]),(2,.var 99 [.d (.fn 107)]),(3,.var 65 [.clo 89 [.agg (hbm m0_B mf_1)] []]),(4,.var 127 [.clo 112 [] [.ptr 0 0,.ptr 1 0,.ptr 2 0,.ptr 3 0,.ptr 4 0]])] 5 (fr_ s_) (match r with | (r0_7,s_5)=>.d (.bool r0_7)) (match r with | (r0_7,s_5)=>[(0,.var 78 (hbm o0_B mf)),(1,.var 127 [.yld]),(2,.var 99 [.d (.fn 107)]),(3,.var 65 [.clo 89 [.agg (hbm m0_B mf_1)] []]),(4,.var 127 [.clo 112 [] [.ptr 0 0,.ptr 1 0,.ptr 2 0,.ptr 3 0,.ptr 4 0]])]) 5 (fr_ (match r with | (r0_7,s_5)=>s_5)):=by
 intro n_
 induction n_ with
 | zero=>intro plan cut o0_B mf m0_B mf_1 s_ r h;cases h
 | succ n_ ih=>
  intro plan cut o0_B mf m0_B mf_1 s_ r h
  rw [g112] at h
  refine SCall.mkK Tryd.func112 c112 rfl rfl (by kernel_rfl) (fun Q_0 hR_0 hN_0=>?_)
  refine Sa ⟨[(0,.d (q1 plan)),pR 2 0,pR 3 1,pR 4 2,pR 5 3,pR 6 4,pR 8 5],(y20 cut o0_B mf m0_B mf_1),6,(fr_ s_),[],5⟩ ?_
  refine AW.scope ?_
  refine AW.srwK (fun Q_1 hQ_1=>?_)
  refine Au 1 ⟨[(0,.d (q1 plan)),pR 2 0,pR 3 1,pR 4 2,pR 5 3,pR 6 4,pR 8 5,(15,.d (q1 plan))],(y20 cut o0_B mf m0_B mf_1),6,(fr_ s_),[],5⟩ ?_
  refine rL rfl ?_
  refine Au 1 ⟨[(0,.d (q1 plan)),pR 2 0,pR 3 1,pR 4 2,pR 5 3,pR 6 4,pR 8 5,(10,jI (plan.length:Int))],(y20 cut o0_B mf m0_B mf_1),6,(fr_ s_),[],5⟩ ?_
  refine RW.nil (hQ_1 _ ?_)
  refine AW.seqK fun K_2 hK_2=>AW.srwK fun Q_3 hQ_3=>?_
  refine Au 4 ⟨[(0,.d (q1 plan)),pR 2 0,pR 3 1,pR 4 2,pR 5 3,pR 6 4,pR 8 5,(10,jI (plan.length:Int)),(17,jI (plan.length:Int)),(20,.d (.sl 3 (List.map e69 o0_B.Horses)))],(y20 cut o0_B mf m0_B mf_1),6,(fr_ s_),[],5⟩ ?_
  refine rL rfl ?_
  refine Au 2 ⟨[(0,.d (q1 plan)),pR 2 0,pR 3 1,pR 4 2,pR 5 3,pR 6 4,pR 8 5,(10,jI (plan.length:Int)),(23,.d (.bool (decide ((plan.length:Int)=(wr (2*(o0_B.Horses.length:Int)))))))],(y20 cut o0_B mf m0_B mf_1),6,(fr_ s_),[],5⟩ ?_
  refine RW.nil (hQ_3 _ ?_)
  refine AW.cond rfl (fun hb_4=>?_) (fun hb_4=>?_)
  ·have h:=ifT hb_4 h
   refine AW.srwK (fun Q_5 hQ_5=>?_)
   refine Au 3 ⟨[(24,.yld),(25,.d (q1 plan)),(26,.agg (cfv cut))],(y21 o0_B mf m0_B mf_1),6,(fr_ s_),[],5⟩ ?_
   obtain ⟨⟨s_1,go⟩,hx_6,h⟩:=bsome h
   refine RW.one fokW (r_yield (zr:=[]) trivial rfl rfl (hc_ plan cut _ _ _ hx_6) trivial ⟨.refl _,.refl _,trivial⟩ rfl rfl rfl rfl (r_end ?_))
   refine Au 1 ⟨[(9,.d (.bool go))],(y21 o0_B mf m0_B mf_1),6,(fr_ s_1),[],5⟩ ?_
   refine RW.nil (hQ_5 _ ?_)
   obtain rfl:=Option.some.inj h
   exact rT hR_0 (.cons (.tmp rfl) .nil)
  ·have h:=ifF hb_4 h
   refine AW.skip (hK_2 _ ?_)
   obtain ⟨need,hx_7,h⟩:=bsome h
   refine AW.jnSK (fun (need:Int)=>⟨[(0,.d (q1 plan)),pR 2 0,pR 4 2,pR 5 3,pR 6 4,pR 8 5,(10,jI (plan.length:Int)),(11,jI need)],(y20 cut o0_B mf m0_B mf_1),6,(fr_ s_),[],5⟩) (c:=need) (fun K_7 hK_7=>?_) ?_
   ·have h:=hx_7
    refine AW.drw fokW ?_
    refine aX 2 ⟨[(0,.d (q1 plan)),pR 2 0,pR 4 2,pR 5 3,pR 6 4,pR 8 5,(10,jI (plan.length:Int)),(29,jI ((plan.length:Int).tmod 2))],(y20 cut o0_B mf m0_B mf_1),6,(fr_ s_),[],5⟩ ?_
    obtain ⟨j,hv_9,h⟩:=bsome h
    rcases j with _ | _ | j
    ·refine r_iaF trivial rfl rfl (ixN_ok hv_9).1 (ixN_ok hv_9).2.1 ?_
     refine r_loadF trivial rfl (u:=.fn 133) (by rw [(ixN_ok hv_9).2.2];rfl) ?_
     refine aX 5 ⟨[(0,.d (q1 plan)),pR 2 0,pR 4 2,pR 5 3,pR 6 4,pR 8 5,(10,jI (plan.length:Int)),(31,.d (.fn 133)),(34,.d (.sl 3 (List.map e69 o0_B.Horses))),(36,jI (wr ((plan.length:Int).tdiv 2)))],(y20 cut o0_B mf m0_B mf_1),6,(fr_ s_),[],5⟩ ?_
     obtain ⟨p,hv_10,h⟩:=bsome h
     refine r_iaD trivial rfl rfl (ixL_ok hv_10).1 (row:=e69 p) (mapget (ixL_ok hv_10).2) ?_
     refine aX 1 ⟨[(0,.d (q1 plan)),pR 2 0,pR 4 2,pR 5 3,pR 6 4,pR 8 5,(10,jI (plan.length:Int)),(31,.d (.fn 133)),(38,.agg [jI p.Mane,jI p.Tail,jI p.Shade])],(y20 cut o0_B mf m0_B mf_1),6,(fr_ s_),[],5⟩ ?_
     obtain ⟨r0,hx_11,h⟩:=bsome h
     refine r_callvZ (zr:=[]) trivial rfl (.fn _) (by kernel_rfl) rfl (k133 p _ hx_11) trivial ⟨.refl _,trivial⟩ rfl rfl rfl rfl ?_
     refine aX 1 ⟨[(0,.d (q1 plan)),pR 2 0,pR 4 2,pR 5 3,pR 6 4,pR 8 5,(10,jI (plan.length:Int)),(11,jI r0)],(y20 cut o0_B mf m0_B mf_1),6,(fr_ s_),[],5⟩ ?_
     refine Fi ⟨[(0,.d (q1 plan)),pR 2 0,pR 4 2,pR 5 3,pR 6 4,pR 8 5,(10,jI (plan.length:Int)),(11,jI r0)],(y20 cut o0_B mf m0_B mf_1),6,(fr_ s_),[],5⟩ ?_
     obtain rfl:=Option.some.inj h
     exact hK_7 _ (Can.kp (by kernel_rfl))
    ·refine r_iaF trivial rfl rfl (ixN_ok hv_9).1 (ixN_ok hv_9).2.1 ?_
     refine r_loadF trivial rfl (u:=.fn 135) (by rw [(ixN_ok hv_9).2.2];rfl) ?_
     refine aX 5 ⟨[(0,.d (q1 plan)),pR 2 0,pR 4 2,pR 5 3,pR 6 4,pR 8 5,(10,jI (plan.length:Int)),(31,.d (.fn 135)),(34,.d (.sl 3 (List.map e69 o0_B.Horses))),(36,jI (wr ((plan.length:Int).tdiv 2)))],(y20 cut o0_B mf m0_B mf_1),6,(fr_ s_),[],5⟩ ?_
     obtain ⟨p1,hv_12,h⟩:=bsome h
     refine r_iaD trivial rfl rfl (ixL_ok hv_12).1 (row:=e69 p1) (mapget (ixL_ok hv_12).2) ?_
     refine aX 1 ⟨[(0,.d (q1 plan)),pR 2 0,pR 4 2,pR 5 3,pR 6 4,pR 8 5,(10,jI (plan.length:Int)),(31,.d (.fn 135)),(38,.agg [jI p1.Mane,jI p1.Tail,jI p1.Shade])],(y20 cut o0_B mf m0_B mf_1),6,(fr_ s_),[],5⟩ ?_
     obtain ⟨r0_1,hx_13,h⟩:=bsome h
     refine r_callvZ (zr:=[]) trivial rfl (.fn _) (by kernel_rfl) rfl (k135 p1 _ hx_13) trivial ⟨.refl _,trivial⟩ rfl rfl rfl rfl ?_
     refine aX 1 ⟨[(0,.d (q1 plan)),pR 2 0,pR 4 2,pR 5 3,pR 6 4,pR 8 5,(10,jI (plan.length:Int)),(11,jI r0_1)],(y20 cut o0_B mf m0_B mf_1),6,(fr_ s_),[],5⟩ ?_
     refine Fi ⟨[(0,.d (q1 plan)),pR 2 0,pR 4 2,pR 5 3,pR 6 4,pR 8 5,(10,jI (plan.length:Int)),(11,jI r0_1)],(y20 cut o0_B mf m0_B mf_1),6,(fr_ s_),[],5⟩ ?_
     obtain rfl:=Option.some.inj h
     exact hK_7 _ (Can.kp (by kernel_rfl))
    ·cases h
   ·refine AW.seq (AW.skip ?_)
    refine AW.seqK fun K_14 hK_14=>AW.srwK fun Q_15 hQ_15=>?_
    refine Au 3 ⟨[(0,.d (q1 plan)),pR 4 2,pR 5 3,pR 6 4,pR 8 5,(10,jI (plan.length:Int)),(11,jI need),(42,.d (.sl 4 (List.map e58 o0_B.Hanks)))],(y20 cut o0_B mf m0_B mf_1),6,(fr_ s_),[],5⟩ ?_
    refine rL rfl ?_
    refine Au 1 ⟨[(0,.d (q1 plan)),pR 4 2,pR 5 3,pR 6 4,pR 8 5,(10,jI (plan.length:Int)),(11,jI need),(42,.d (.sl 4 (List.map e58 o0_B.Hanks))),(43,jI (o0_B.Hanks.length:Int)),(44,jI 0)],(y20 cut o0_B mf m0_B mf_1),6,(fr_ s_),[],5⟩ ?_
    refine RW.nil (hQ_15 _ ?_)
    refine AW.block ?_
    refine AW.sln (t:=42) rfl (fun hN_16=>?_)
    rw [List.length_map] at hN_16
    obtain ⟨out_16,hx_16,hk_16⟩:=bsomeC h
    refine AW.evCK (fun (v:Int) (s_2:S_)=>⟨[(0,.d (q1 plan)),pR 4 2,pR 5 3,pR 6 4,pR 8 5,(10,jI (plan.length:Int)),(11,jI need),(42,.d (.sl 4 (List.map e58 o0_B.Hanks))),(43,jI (o0_B.Hanks.length:Int)),(44,jI v)],(y20 cut o0_B mf m0_B mf_1),6,(fr_ s_2),[],5⟩) (g112_16 (g112 c_ n_) plan cut o0_B mf m0_B mf_1 need) hx_16 (Can.kp (by kernel_rfl)) (fun v p2 s_2 hi_16 hl_16 hp_16 c_16 h hb_16 K_16 hK_16=>?_) (fun v s_2 hi_16 hl_16 hout=>?_)
    ·unfold g112_16 at h
     refine Sa ⟨[(0,.d (q1 plan)),pR 4 2,pR 5 3,pR 6 4,pR 8 5,(10,jI (plan.length:Int)),(11,jI need),(42,.d (.sl 4 (List.map e58 o0_B.Hanks))),(43,jI (o0_B.Hanks.length:Int)),(44,jI v),(45,.d (.bool (decide (v<(o0_B.Hanks.length:Int)))))],(y20 cut o0_B mf m0_B mf_1),6,(fr_ s_2),[],5⟩ ?_
     refine AW.seqK (fun K_17 hK_17=>?_)
     refine AW.cond rfl (fun hb_18=>?_) (fun hb_18=>False.elim (by have:=of_decide_eq_false hb_18;omega))
     refine AW.skip (hK_17 _ ?_)
     refine AW.seqK (fun K_19 hK_19=>?_)
     refine AW.block ?_
     refine AW.srwK (fun Q_20 hQ_20=>?_)
     refine Au 1 ⟨[(0,.d (q1 plan)),pR 4 2,pR 5 3,pR 6 4,pR 8 5,(10,jI (plan.length:Int)),(11,jI need),(42,.d (.sl 4 (List.map e58 o0_B.Hanks))),(43,jI (o0_B.Hanks.length:Int)),(44,jI v),(46,jI v)],(y20 cut o0_B mf m0_B mf_1),6,(fr_ s_2),[],5⟩ ?_
     refine RW.one fokW (r_iaD trivial rfl rfl hi_16 (row:=e58 p2) (mapget hp_16) (r_end ?_))
     refine Au 4 ⟨[(0,.d (q1 plan)),pR 4 2,pR 5 3,pR 6 4,pR 8 5,(10,jI (plan.length:Int)),(11,jI need),(12,jI v),pR 13 6,(42,.d (.sl 4 (List.map e58 o0_B.Hanks))),(43,jI (o0_B.Hanks.length:Int)),(44,jI v)],[(6,.var 58 (cv58 p2)),(5,.var 92 (cfv cut)),(0,.var 78 (hbm o0_B mf)),(1,.var 127 [.yld]),(2,.var 99 [.d (.fn 107)]),(3,.var 65 [.clo 89 [.agg (hbm m0_B mf_1)] []]),(4,.var 127 [.clo 112 [] [.ptr 0 0,.ptr 1 0,.ptr 2 0,.ptr 3 0,.ptr 4 0]])],7,(fr_ s_2),[],5⟩ ?_
     refine RW.nil (hQ_20 _ ?_)
     obtain ⟨c_21,hx_21,hk_21⟩:=bsomeC h
     refine AW.jnK (fun (_:Unit)=>⟨[(0,.d (q1 plan)),pR 4 2,pR 5 3,pR 6 4,pR 8 5,(10,jI (plan.length:Int)),(11,jI need),(12,jI v),(42,.d (.sl 4 (List.map e58 o0_B.Hanks))),(43,jI (o0_B.Hanks.length:Int)),(44,jI v)],(y20 cut o0_B mf m0_B mf_1),7,(fr_ s_2),[],5⟩) (c:=c_21) (fun K_21 hK_21=>?_) (fun j_21 hj_21=>?_)
     ·have h:=hx_21
      refine AW.sdrwK fokW (fun Q_22 hQ_22=>?_)
      refine aX 1 ⟨[(0,.d (q1 plan)),pR 4 2,pR 5 3,pR 6 4,pR 8 5,(10,jI (plan.length:Int)),(11,jI need),(12,jI v),pR 13 6,(42,.d (.sl 4 (List.map e58 o0_B.Hanks))),(43,jI (o0_B.Hanks.length:Int)),(44,jI v),(49,jI v)],[(6,.var 58 (cv58 p2)),(5,.var 92 (cfv cut)),(0,.var 78 (hbm o0_B mf)),(1,.var 127 [.yld]),(2,.var 99 [.d (.fn 107)]),(3,.var 65 [.clo 89 [.agg (hbm m0_B mf_1)] []]),(4,.var 127 [.clo 112 [] [.ptr 0 0,.ptr 1 0,.ptr 2 0,.ptr 3 0,.ptr 4 0]])],7,(fr_ s_2),[],5⟩ ?_
      obtain ⟨j1,hv_23,h⟩:=bsome h
      refine r_iaV trivial rfl rfl rfl (ixN_ok hv_23).1 (ixN_ok hv_23).2.1 ?_
      refine r_loadV trivial rfl rfl (u:=jI (cut j1)) (agt (f:=fun k=>jI (cut k)) hv_23) ?_
      refine aX 6 ⟨[(0,.d (q1 plan)),pR 4 2,pR 5 3,pR 6 4,pR 8 5,(10,jI (plan.length:Int)),(11,jI need),(12,jI v),(42,.d (.sl 4 (List.map e58 o0_B.Hanks))),(43,jI (o0_B.Hanks.length:Int)),(44,jI v),(53,jI (wr ((cut j1)+need))),(55,.d (.fn 107)),(57,.agg [jI p2.Weight.Low,jI p2.Weight.High])],[(6,.var 58 (cv58 p2)),(5,.var 92 (cfv cut)),(0,.var 78 (hbm o0_B mf)),(1,.var 127 [.yld]),(2,.var 99 [.d (.fn 107)]),(3,.var 65 [.clo 89 [.agg (hbm m0_B mf_1)] []]),(4,.var 127 [.clo 112 [] [.ptr 0 0,.ptr 1 0,.ptr 2 0,.ptr 3 0,.ptr 4 0]])],7,(fr_ s_2),[],5⟩ ?_
      obtain ⟨r0_2,hx_24,h⟩:=bsome h
      refine r_callvZ (zr:=[]) trivial rfl (.fn _) (by kernel_rfl) rfl (k107 p2.Weight _ hx_24) trivial ⟨.refl _,trivial⟩ rfl rfl rfl rfl ?_
      refine aX 2 ⟨[(0,.d (q1 plan)),pR 4 2,pR 5 3,pR 6 4,pR 8 5,(10,jI (plan.length:Int)),(11,jI need),(12,jI v),(42,.d (.sl 4 (List.map e58 o0_B.Hanks))),(43,jI (o0_B.Hanks.length:Int)),(44,jI v),(60,.d (.bool (decide (r0_2<(wr ((cut j1)+need))))))],[(6,.var 58 (cv58 p2)),(5,.var 92 (cfv cut)),(0,.var 78 (hbm o0_B mf)),(1,.var 127 [.yld]),(2,.var 99 [.d (.fn 107)]),(3,.var 65 [.clo 89 [.agg (hbm m0_B mf_1)] []]),(4,.var 127 [.clo 112 [] [.ptr 0 0,.ptr 1 0,.ptr 2 0,.ptr 3 0,.ptr 4 0]])],7,(fr_ s_2),[],5⟩ ?_
      refine r_split 60 rfl (fun hb_25=>?_) (fun hb_25=>?_)
      ·have h:=ifT hb_25 h
       refine aX 17 ⟨[(0,.d (q1 plan)),pR 4 2,pR 5 3,pR 6 4,pR 8 5,(10,jI (plan.length:Int)),(11,jI need),(12,jI v),(42,.d (.sl 4 (List.map e58 o0_B.Hanks))),(43,jI (o0_B.Hanks.length:Int)),(44,jI v),(77,.d (.bool true))],[(6,.var 58 (cv58 p2)),(5,.var 92 (cfv cut)),(0,.var 78 (hbm o0_B mf)),(1,.var 127 [.yld]),(2,.var 99 [.d (.fn 107)]),(3,.var 65 [.clo 89 [.agg (hbm m0_B mf_1)] []]),(4,.var 127 [.clo 112 [] [.ptr 0 0,.ptr 1 0,.ptr 2 0,.ptr 3 0,.ptr 4 0]])],7,(fr_ s_2),[],5⟩ ?_
       refine Fi ⟨[(0,.d (q1 plan)),pR 4 2,pR 5 3,pR 6 4,pR 8 5,(10,jI (plan.length:Int)),(11,jI need),(12,jI v),(42,.d (.sl 4 (List.map e58 o0_B.Hanks))),(43,jI (o0_B.Hanks.length:Int)),(44,jI v),(77,.d (.bool true))],(y20 cut o0_B mf m0_B mf_1),7,(fr_ s_2),[],5⟩ ?_
       refine hQ_22 _ ?_
       refine AW.condT rfl ?_
       refine AW.exit ?_
       refine hK_19 _ ?_
       refine Ra ⟨[(0,.d (q1 plan)),pR 4 2,pR 5 3,pR 6 4,pR 8 5,(10,jI (plan.length:Int)),(11,jI need),(42,.d (.sl 4 (List.map e58 o0_B.Hanks))),(43,jI (o0_B.Hanks.length:Int)),(44,jI (wr (v+1)))],(y20 cut o0_B mf m0_B mf_1),7,(fr_ s_2),[],5⟩ ?_
       obtain rfl:=Option.some.inj h
       obtain rfl:=Aft.bk hk_21
       have ew:wr (v+1)=v+1:=inext (N:=(o0_B.Hanks.length:Int)) (by omega) (by omega) (by omega)
       rw [ew]
       exact hK_16 _ _ rfl (Can.kp (by kernel_rfl))
      ·have h:=ifF hb_25 h
       refine aX 4 ⟨[(0,.d (q1 plan)),pR 4 2,pR 5 3,pR 6 4,pR 8 5,(10,jI (plan.length:Int)),(11,jI need),(12,jI v),(42,.d (.sl 4 (List.map e58 o0_B.Hanks))),(43,jI (o0_B.Hanks.length:Int)),(44,jI v),(60,.d (.bool false)),(64,.d (.bool (decide (((plan.length:Int).tmod 2)=1))))],[(6,.var 58 (cv58 p2)),(5,.var 92 (cfv cut)),(0,.var 78 (hbm o0_B mf)),(1,.var 127 [.yld]),(2,.var 99 [.d (.fn 107)]),(3,.var 65 [.clo 89 [.agg (hbm m0_B mf_1)] []]),(4,.var 127 [.clo 112 [] [.ptr 0 0,.ptr 1 0,.ptr 2 0,.ptr 3 0,.ptr 4 0]])],7,(fr_ s_2),[],5⟩ ?_
       refine r_split 64 rfl (fun hb_26=>?_) (fun hb_26=>?_)
       ·have h:=ifT hb_26 h
        refine aX 6 ⟨[(0,.d (q1 plan)),pR 4 2,pR 5 3,pR 6 4,pR 8 5,(10,jI (plan.length:Int)),(11,jI need),(12,jI v),(42,.d (.sl 4 (List.map e58 o0_B.Hanks))),(43,jI (o0_B.Hanks.length:Int)),(44,jI v),(60,.d (.bool false)),(64,.d (.bool true)),(65,.clo 89 [.agg (hbm m0_B mf_1)] []),(67,jI (wr ((plan.length:Int).tdiv 2))),(68,.d (q1 plan)),(70,jI (wr ((plan.length:Int) - 1)))],[(6,.var 58 (cv58 p2)),(5,.var 92 (cfv cut)),(0,.var 78 (hbm o0_B mf)),(1,.var 127 [.yld]),(2,.var 99 [.d (.fn 107)]),(3,.var 65 [.clo 89 [.agg (hbm m0_B mf_1)] []]),(4,.var 127 [.clo 112 [] [.ptr 0 0,.ptr 1 0,.ptr 2 0,.ptr 3 0,.ptr 4 0]])],7,(fr_ s_2),[],5⟩ ?_
        obtain ⟨p3,hv_27,h⟩:=bsome h
        refine r_iaD rfl rfl rfl (ixL_ok hv_27).1 (row:=e3 p3) (mapget (ixL_ok hv_27).2) ?_
        refine aX 2 ⟨[(0,.d (q1 plan)),pR 4 2,pR 5 3,pR 6 4,pR 8 5,(10,jI (plan.length:Int)),(11,jI need),(12,jI v),(42,.d (.sl 4 (List.map e58 o0_B.Hanks))),(43,jI (o0_B.Hanks.length:Int)),(44,jI v),(60,.d (.bool false)),(64,.d (.bool true)),(65,.clo 89 [.agg (hbm m0_B mf_1)] []),(67,jI (wr ((plan.length:Int).tdiv 2))),(72,jI p3),(73,jI v)],[(6,.var 58 (cv58 p2)),(5,.var 92 (cfv cut)),(0,.var 78 (hbm o0_B mf)),(1,.var 127 [.yld]),(2,.var 99 [.d (.fn 107)]),(3,.var 65 [.clo 89 [.agg (hbm m0_B mf_1)] []]),(4,.var 127 [.clo 112 [] [.ptr 0 0,.ptr 1 0,.ptr 2 0,.ptr 3 0,.ptr 4 0]])],7,(fr_ s_2),[],5⟩ ?_
        obtain ⟨r0_3,hx_28,h⟩:=bsome h
        refine r_callvZ (zr:=[]) rfl rfl (.clo _ _ _) (by kernel_rfl) rfl (k89 m0_B mf_1 (wr ((plan.length:Int).tdiv 2)) p3 v _ hx_28) trivial ⟨.refl _,.refl _,.refl _,.refl _,trivial⟩ rfl rfl rfl rfl ?_
        refine aX 3 ⟨[(0,.d (q1 plan)),pR 4 2,pR 5 3,pR 6 4,pR 8 5,(10,jI (plan.length:Int)),(11,jI need),(12,jI v),(42,.d (.sl 4 (List.map e58 o0_B.Hanks))),(43,jI (o0_B.Hanks.length:Int)),(44,jI v),(77,.d (.bool (!r0_3)))],[(6,.var 58 (cv58 p2)),(5,.var 92 (cfv cut)),(0,.var 78 (hbm o0_B mf)),(1,.var 127 [.yld]),(2,.var 99 [.d (.fn 107)]),(3,.var 65 [.clo 89 [.agg (hbm m0_B mf_1)] []]),(4,.var 127 [.clo 112 [] [.ptr 0 0,.ptr 1 0,.ptr 2 0,.ptr 3 0,.ptr 4 0]])],7,(fr_ s_2),[],5⟩ ?_
        refine Fi ⟨[(0,.d (q1 plan)),pR 4 2,pR 5 3,pR 6 4,pR 8 5,(10,jI (plan.length:Int)),(11,jI need),(12,jI v),(42,.d (.sl 4 (List.map e58 o0_B.Hanks))),(43,jI (o0_B.Hanks.length:Int)),(44,jI v),(77,.d (.bool (!r0_3)))],(y20 cut o0_B mf m0_B mf_1),7,(fr_ s_2),[],5⟩ ?_
        refine hQ_22 _ ?_
        refine AW.cond rfl (fun hb_29=>?_) (fun hb_29=>?_)
        ·have h:=ifT hb_29 h
         refine AW.exit ?_
         refine hK_19 _ ?_
         refine Ra ⟨[(0,.d (q1 plan)),pR 4 2,pR 5 3,pR 6 4,pR 8 5,(10,jI (plan.length:Int)),(11,jI need),(42,.d (.sl 4 (List.map e58 o0_B.Hanks))),(43,jI (o0_B.Hanks.length:Int)),(44,jI (wr (v+1)))],(y20 cut o0_B mf m0_B mf_1),7,(fr_ s_2),[],5⟩ ?_
         obtain rfl:=Option.some.inj h
         obtain rfl:=Aft.bk hk_21
         have ew:wr (v+1)=v+1:=inext (N:=(o0_B.Hanks.length:Int)) (by omega) (by omega) (by omega)
         rw [ew]
         exact hK_16 _ _ rfl (Can.kp (by kernel_rfl))
        ·have h:=ifF hb_29 h
         refine AW.skip ?_
         obtain rfl:=Option.some.inj h
         exact hK_21 _ _ rfl (Can.kp (by kernel_rfl))
       ·have h:=ifF hb_26 h
        refine aX 13 ⟨[(0,.d (q1 plan)),pR 4 2,pR 5 3,pR 6 4,pR 8 5,(10,jI (plan.length:Int)),(11,jI need),(12,jI v),(42,.d (.sl 4 (List.map e58 o0_B.Hanks))),(43,jI (o0_B.Hanks.length:Int)),(44,jI v),(77,.d (.bool false))],[(6,.var 58 (cv58 p2)),(5,.var 92 (cfv cut)),(0,.var 78 (hbm o0_B mf)),(1,.var 127 [.yld]),(2,.var 99 [.d (.fn 107)]),(3,.var 65 [.clo 89 [.agg (hbm m0_B mf_1)] []]),(4,.var 127 [.clo 112 [] [.ptr 0 0,.ptr 1 0,.ptr 2 0,.ptr 3 0,.ptr 4 0]])],7,(fr_ s_2),[],5⟩ ?_
        refine Fi ⟨[(0,.d (q1 plan)),pR 4 2,pR 5 3,pR 6 4,pR 8 5,(10,jI (plan.length:Int)),(11,jI need),(12,jI v),(42,.d (.sl 4 (List.map e58 o0_B.Hanks))),(43,jI (o0_B.Hanks.length:Int)),(44,jI v),(77,.d (.bool false))],(y20 cut o0_B mf m0_B mf_1),7,(fr_ s_2),[],5⟩ ?_
        refine hQ_22 _ ?_
        refine AW.condF rfl ?_
        refine AW.skip ?_
        obtain rfl:=Option.some.inj h
        exact hK_21 _ _ rfl (Can.kp (by kernel_rfl))
     ·subst hj_21
      have h:=Aft.nx hk_21
      refine Sa ⟨[(0,.d (q1 plan)),pR 4 2,pR 5 3,pR 6 4,pR 8 5,(10,jI (plan.length:Int)),(11,jI need),(12,jI v),pR 14 7,(42,.d (.sl 4 (List.map e58 o0_B.Hanks))),(43,jI (o0_B.Hanks.length:Int)),(44,jI v)],(y22 cut o0_B mf m0_B mf_1),8,(fr_ s_2),[],5⟩ ?_
      refine AW.srwK (fun Q_30 hQ_30=>?_)
      refine Au 1 ⟨[(0,.d (q1 plan)),pR 4 2,pR 5 3,pR 6 4,pR 8 5,(10,jI (plan.length:Int)),(11,jI need),(12,jI v),pR 14 7,(42,.d (.sl 4 (List.map e58 o0_B.Hanks))),(43,jI (o0_B.Hanks.length:Int)),(44,jI v),(79,jI v)],(y22 cut o0_B mf m0_B mf_1),8,(fr_ s_2),[],5⟩ ?_
      obtain ⟨j2,hv_31,h⟩:=bsome h
      refine RW.one fokW (r_iaV trivial rfl rfl rfl (ixN_ok hv_31).1 (ixN_ok hv_31).2.1 (r_end ?_))
      refine RW.one fokW (r_loadV trivial rfl rfl (u:=jI (cut j2)) (agt (f:=fun k=>jI (cut k)) hv_31) (r_end ?_))
      refine Au 2 ⟨[(0,.d (q1 plan)),pR 4 2,pR 5 3,pR 6 4,pR 8 5,(10,jI (plan.length:Int)),(11,jI need),(12,jI v),pR 14 7,(42,.d (.sl 4 (List.map e58 o0_B.Hanks))),(43,jI (o0_B.Hanks.length:Int)),(44,jI v),(79,jI v),(83,jI (wr ((cut j2)+need)))],(y22 cut o0_B mf m0_B mf_1),8,(fr_ s_2),[],5⟩ ?_
      obtain ⟨j3,hv_32,h⟩:=bsome h
      refine RW.one fokW (r_iaV trivial rfl rfl rfl (ixN_ok hv_32).1 (ixN_ok hv_32).2.1 (r_end ?_))
      refine RW.one fokW (r_stX trivial rfl rfl rfl rfl rfl (aslot hv_32 rfl) (cs':=[jI ((aset cut j3 (wr ((cut j2)+need))) 0),jI ((aset cut j3 (wr ((cut j2)+need))) 1),jI ((aset cut j3 (wr ((cut j2)+need))) 2),jI ((aset cut j3 (wr ((cut j2)+need))) 3),jI ((aset cut j3 (wr ((cut j2)+need))) 4)]) (ast (w:=cut) (c:=fun z=>jI z) hv_32) (r_end ?_))
      refine RW.nil (hQ_30 _ ?_)
      refine AW.sdrwK fokW (fun Q_33 hQ_33=>?_)
      refine aX 4 ⟨[(0,.d (q1 plan)),pR 4 2,pR 5 3,pR 6 4,pR 8 5,(10,jI (plan.length:Int)),(11,jI need),(12,jI v),pR 14 7,(42,.d (.sl 4 (List.map e58 o0_B.Hanks))),(43,jI (o0_B.Hanks.length:Int)),(44,jI v),(85,.clo 112 [] [.ptr 0 0,.ptr 1 0,.ptr 2 0,.ptr 3 0,.ptr 4 0]),(86,.d (q1 plan)),(87,jI (plan.length:Int)),(88,jI (plan.length:Int))],[(7,.var 92 [jI ((aset cut j3 (wr ((cut j2)+need))) 0),jI ((aset cut j3 (wr ((cut j2)+need))) 1),jI ((aset cut j3 (wr ((cut j2)+need))) 2),jI ((aset cut j3 (wr ((cut j2)+need))) 3),jI ((aset cut j3 (wr ((cut j2)+need))) 4)]),(5,.var 92 (cfv cut)),(0,.var 78 (hbm o0_B mf)),(1,.var 127 [.yld]),(2,.var 99 [.d (.fn 107)]),(3,.var 65 [.clo 89 [.agg (hbm m0_B mf_1)] []]),(4,.var 127 [.clo 112 [] [.ptr 0 0,.ptr 1 0,.ptr 2 0,.ptr 3 0,.ptr 4 0]])],8,(fr_ s_2),[],5⟩ ?_
      obtain ⟨l,hv_34,h⟩:=bsome h
      refine r_slN trivial rfl rfl rfl DSl.d (slcL_ok hv_34).2.1 (by rw [List.length_map];exact (slcL_ok hv_34).2.2.1) rfl (slz hv_34 e3) ?_
      refine aX 2 ⟨[(0,.d (q1 plan)),pR 4 2,pR 5 3,pR 6 4,pR 8 5,(10,jI (plan.length:Int)),(11,jI need),pR 14 7,(42,.d (.sl 4 (List.map e58 o0_B.Hanks))),(43,jI (o0_B.Hanks.length:Int)),(44,jI v),(85,.clo 112 [] [.ptr 0 0,.ptr 1 0,.ptr 2 0,.ptr 3 0,.ptr 4 0]),(89,.fsl 1 (List.map e3 l)),(91,.own 8 (List.map e3 [v]).length)],[(8,.row 3 1 (List.map e3 [v])),(7,.var 92 [jI ((aset cut j3 (wr ((cut j2)+need))) 0),jI ((aset cut j3 (wr ((cut j2)+need))) 1),jI ((aset cut j3 (wr ((cut j2)+need))) 2),jI ((aset cut j3 (wr ((cut j2)+need))) 3),jI ((aset cut j3 (wr ((cut j2)+need))) 4)]),(5,.var 92 (cfv cut)),(0,.var 78 (hbm o0_B mf)),(1,.var 127 [.yld]),(2,.var 99 [.d (.fn 107)]),(3,.var 65 [.clo 89 [.agg (hbm m0_B mf_1)] []]),(4,.var 127 [.clo 112 [] [.ptr 0 0,.ptr 1 0,.ptr 2 0,.ptr 3 0,.ptr 4 0]])],9,(fr_ s_2),[],5⟩ ?_
      obtain ⟨l1,hv_35,h⟩:=bsome h
      refine r_apF trivial rfl rfl rfl rfl (by simp) (zs:=List.map e3 l1) (apz hv_35 e3) (apr hv_35 e3) ?_
      refine aX 1 ⟨[(0,.d (q1 plan)),pR 4 2,pR 5 3,pR 6 4,pR 8 5,(10,jI (plan.length:Int)),(11,jI need),(42,.d (.sl 4 (List.map e58 o0_B.Hanks))),(43,jI (o0_B.Hanks.length:Int)),(44,jI v),(85,.clo 112 [] [.ptr 0 0,.ptr 1 0,.ptr 2 0,.ptr 3 0,.ptr 4 0]),(92,.own 9 (List.map e3 l1).length),(93,.agg [jI ((aset cut j3 (wr ((cut j2)+need))) 0),jI ((aset cut j3 (wr ((cut j2)+need))) 1),jI ((aset cut j3 (wr ((cut j2)+need))) 2),jI ((aset cut j3 (wr ((cut j2)+need))) 3),jI ((aset cut j3 (wr ((cut j2)+need))) 4)])],[(9,.row 3 1 (List.map e3 l1)),(8,.row 3 1 (List.map e3 [v])),(7,.var 92 [jI ((aset cut j3 (wr ((cut j2)+need))) 0),jI ((aset cut j3 (wr ((cut j2)+need))) 1),jI ((aset cut j3 (wr ((cut j2)+need))) 2),jI ((aset cut j3 (wr ((cut j2)+need))) 3),jI ((aset cut j3 (wr ((cut j2)+need))) 4)]),(5,.var 92 (cfv cut)),(0,.var 78 (hbm o0_B mf)),(1,.var 127 [.yld]),(2,.var 99 [.d (.fn 107)]),(3,.var 65 [.clo 89 [.agg (hbm m0_B mf_1)] []]),(4,.var 127 [.clo 112 [] [.ptr 0 0,.ptr 1 0,.ptr 2 0,.ptr 3 0,.ptr 4 0]])],10,(fr_ s_2),[],5⟩ ?_
      obtain ⟨⟨r0_7_1,s_5_1⟩,hx_36,h⟩:=bsome h
      refine r_callvS (zr:=[(9,.row 3 1 (List.map e3 l1))]) [0,1,2,3,4] trivial rfl (.clo _ _ _) (by kernel_rfl) rfl (ih l1 (aset cut j3 (wr ((cut j2)+need))) o0_B mf m0_B mf_1 s_2 _ hx_36) ⟨rfl,rfl,rfl,rfl,rfl,rfl,trivial⟩ rfl rfl ⟨(.own rfl rfl),.refl _,.refl _,.refl _,.refl _,.refl _,.refl _,trivial⟩ rfl rfl rfl ?_
      refine aX 1 ⟨[(0,.d (q1 plan)),pR 4 2,pR 5 3,pR 6 4,pR 8 5,(10,jI (plan.length:Int)),(11,jI need),(42,.d (.sl 4 (List.map e58 o0_B.Hanks))),(43,jI (o0_B.Hanks.length:Int)),(44,jI v),(95,.d (.bool (!r0_7_1)))],[(0,.var 78 (hbm o0_B mf)),(1,.var 127 [.yld]),(2,.var 99 [.d (.fn 107)]),(3,.var 65 [.clo 89 [.agg (hbm m0_B mf_1)] []]),(4,.var 127 [.clo 112 [] [.ptr 0 0,.ptr 1 0,.ptr 2 0,.ptr 3 0,.ptr 4 0]]),(9,.dead),(8,.row 3 1 (List.map e3 [v])),(7,.var 92 [jI ((aset cut j3 (wr ((cut j2)+need))) 0),jI ((aset cut j3 (wr ((cut j2)+need))) 1),jI ((aset cut j3 (wr ((cut j2)+need))) 2),jI ((aset cut j3 (wr ((cut j2)+need))) 3),jI ((aset cut j3 (wr ((cut j2)+need))) 4)]),(5,.var 92 (cfv cut))],10,(fr_ s_5_1),[],5⟩ ?_
      refine Fi ⟨[(0,.d (q1 plan)),pR 4 2,pR 5 3,pR 6 4,pR 8 5,(10,jI (plan.length:Int)),(11,jI need),(42,.d (.sl 4 (List.map e58 o0_B.Hanks))),(43,jI (o0_B.Hanks.length:Int)),(44,jI v),(95,.d (.bool (!r0_7_1)))],(y23 o0_B mf m0_B mf_1 cut),10,(fr_ s_5_1),[],5⟩ ?_
      refine hQ_33 _ ?_
      refine AW.cond rfl (fun hb_37=>?_) (fun hb_37=>?_)
      ·have h:=ifT hb_37 h
       refine Sa ⟨[(9,.d (.bool false))],(y21 o0_B mf m0_B mf_1),10,(fr_ s_5_1),[],5⟩ ?_
       obtain rfl:=Option.some.inj h
       have e_1:=hb_16 _ rfl
       subst e_1
       obtain rfl:=Aft.bk hk_16
       exact rT hR_0 (.cons (.tmp rfl) .nil)
      ·have h:=ifF hb_37 h
       refine AW.skip (hK_19 _ ?_)
       refine Ra ⟨[(0,.d (q1 plan)),pR 4 2,pR 5 3,pR 6 4,pR 8 5,(10,jI (plan.length:Int)),(11,jI need),(42,.d (.sl 4 (List.map e58 o0_B.Hanks))),(43,jI (o0_B.Hanks.length:Int)),(44,jI (wr (v+1)))],(y23 o0_B mf m0_B mf_1 cut),10,(fr_ s_5_1),[],5⟩ ?_
       obtain rfl:=Option.some.inj h
       have ew:wr (v+1)=v+1:=inext (N:=(o0_B.Hanks.length:Int)) (by omega) (by omega) (by omega)
       rw [ew]
       exact hK_16 _ _ rfl (Can.kp (by kernel_rfl))
    ·subst hout
     have h:=Aft.nx hk_16
     refine Sa ⟨[(0,.d (q1 plan)),pR 4 2,pR 5 3,pR 6 4,pR 8 5,(10,jI (plan.length:Int)),(11,jI need),(42,.d (.sl 4 (List.map e58 o0_B.Hanks))),(43,jI (o0_B.Hanks.length:Int)),(44,jI v),(45,.d (.bool (decide (v<(o0_B.Hanks.length:Int)))))],(y20 cut o0_B mf m0_B mf_1),6,(fr_ s_2),[],5⟩ ?_
     refine AW.seqK (fun K_38 hK_38=>?_)
     refine AW.cond rfl (fun hb_39=>False.elim (by have:=of_decide_eq_true hb_39;omega)) (fun hb_39=>?_)
     refine AW.exit ?_
     refine hK_14 _ ?_
     refine Sa ⟨[(9,.d (.bool true))],(y21 o0_B mf m0_B mf_1),6,(fr_ s_2),[],5⟩ ?_
     obtain rfl:=Option.some.inj h
     exact rT hR_0 (.cons (.tmp rfl) .nil)
def g111 {S_:Type} (c_:(List Int)→(Nat→Int)→S_→Option (S_×Bool)) (o0_B:HairBook) (mf:List (Hair_dye×Span)) (m0_B:HairBook) (mf_1:List (Hair_dye×Span)) (s_:S_):Option S_:=(g105).bind fun r0=>(g112 c_ 1000 ([]:(List Int)) r0 o0_B mf m0_B mf_1 s_).bind fun (r0_7,s_5)=>some s_5
def y24 (o0_B:HairBook) (mf:List (Hair_dye×Span)) (m0_B:HairBook) (mf_1:List (Hair_dye×Span)):List (Nat×Blk):=[(4,.var 127 [.clo 112 [] [.ptr 0 0,.ptr 3 0,.ptr 1 0,.ptr 2 0,.ptr 4 0]]),(3,.var 127 [.yld]),(0,.var 78 (hbm o0_B mf)),(1,.var 99 [.d (.fn 107)]),(2,.var 65 [.clo 89 [.agg (hbm m0_B mf_1)] []])]
theorem k111 {S_:Type} (fr_:S_→Fr) (c_:(List Int)→(Nat→Int)→S_→Option (S_×Bool)) (hc_:∀ (a0:(List Int)) (a1:(Nat→Int)) s s2 b,c_ a0 a1 s=some (s2,b)→YCall Tryd.prog Gs (fr_ s) [.d (q1 a0),.agg (cfv a1)] (.d (.bool b)) (fr_ s2)) (o0_B:HairBook) (mf:List (Hair_dye×Span)) (m0_B:HairBook) (mf_1:List (Hair_dye×Span)) (s_:S_) (r:S_) (h:g111 c_ o0_B mf m0_B mf_1 s_=some r):SCall Tryd.prog Gs 111 [.yld,.ptr 0 0,.ptr 1 0,.ptr 2 0] [(0,.var 78 (hbm o0_B mf)),(1,.var 99 [.d (.fn 107)]),(2,.var 65 [.clo 89 [.agg (hbm m0_B mf_1)] []])] 3 (fr_ s_) (.tup []) [(0,.var 78 (hbm o0_B mf)),(1,.var 99 [.d (.fn 107)]),(2,.var 65 [.clo 89 [.agg (hbm m0_B mf_1)] []])] 3 (fr_ r):=by
 unfold g111 at h
 refine SCall.mkK Tryd.func111 c111 rfl rfl (by kernel_rfl) (fun Q_0 hR_0 hN_0=>?_)
 refine Sa ⟨[pR 1 0,pR 2 1,pR 3 2,pR 4 3],[(3,.var 127 [.yld]),(0,.var 78 (hbm o0_B mf)),(1,.var 99 [.d (.fn 107)]),(2,.var 65 [.clo 89 [.agg (hbm m0_B mf_1)] []])],4,(fr_ s_),[],3⟩ ?_
 refine Sa ⟨[pR 1 0,pR 2 1,pR 3 2,pR 4 3,pR 5 4],[(4,.var 127 [.d (.nilFn)]),(3,.var 127 [.yld]),(0,.var 78 (hbm o0_B mf)),(1,.var 99 [.d (.fn 107)]),(2,.var 65 [.clo 89 [.agg (hbm m0_B mf_1)] []])],5,(fr_ s_),[],3⟩ ?_
 refine Sa ⟨[pR 5 4],(y24 o0_B mf m0_B mf_1),5,(fr_ s_),[],3⟩ ?_
 refine AW.drw fokW ?_
 refine aX 1 ⟨[(7,.clo 112 [] [.ptr 0 0,.ptr 3 0,.ptr 1 0,.ptr 2 0,.ptr 4 0])],(y24 o0_B mf m0_B mf_1),5,(fr_ s_),[],3⟩ ?_
 obtain ⟨r0,hx_2,h⟩:=bsome h
 refine r_call trivial rfl (k105 _ hx_2) rfl rfl ?_
 obtain ⟨⟨r0_7,s_5⟩,hx_3,h⟩:=bsome h
 refine r_callvS (zr:=[]) [0,3,1,2,4] trivial rfl (.clo _ _ _) (by kernel_rfl) rfl (k112 fr_ c_ hc_ 1000 ([]:(List Int)) r0 o0_B mf m0_B mf_1 s_ _ hx_3) ⟨rfl,rfl,rfl,rfl,rfl,trivial⟩ rfl rfl ⟨(.nil 1),.refl _,.refl _,.refl _,.refl _,.refl _,.refl _,trivial⟩ rfl rfl rfl ?_
 refine Fi ⟨[],[(0,.var 78 (hbm o0_B mf)),(1,.var 99 [.d (.fn 107)]),(2,.var 65 [.clo 89 [.agg (hbm m0_B mf_1)] []])],5,(fr_ s_5),[],3⟩ ?_
 obtain rfl:=Option.some.inj h
 exact hN_0 _ (retX .nil (.refl _) rfl (by kernel_rfl) (by kernel_rfl))
def g81_r5 (b_B:HairBook) (mf:List (Hair_dye×Span)):((List Int)×(Nat→Int))→((List Int)×Int×Bool)→Option (Ctl ((List Int)×Int×Bool) (Unit)):=fun (a,a1) (v,v1,v2)=>(g77).bind fun _=>(g75a b_B mf a1).bind fun r0_3=>bif ((!v2)||(decide (r0_3<v1))) then (some (.next (a,r0_3,true))) else (some (.next (v,v1,v2)))
def g81 (b_B:HairBook) (mf:List (Hair_dye×Span)):Option ((List Int)×Bool):=(g76).bind fun _=>(g88 b_B mf b_B mf).bind fun (o0_B,mf1)=>(g111 (fun a a1 s=>rndC (g81_r5 b_B mf) (a,a1) s) o0_B mf1 b_B mf (.next (([],0,false):(List Int)×Int×Bool))).bind fun out_5=>match out_5 with | .next (v,v1,v2)=>some (v,v2) | .brk _=>none
def y25 (b_B:HairBook) (mf:List (Hair_dye×Span)):List (Nat×Blk):=[(3,.var 4 [.d (.bool false)]),(2,.var 3 [jI 0]),(1,.var 26 [.d (.nilSl)]),(0,.var 78 (hbm b_B mf))]
def y26 (v2:Bool) (v1:Int) (v:List Int) (b_B:HairBook) (mf:List (Hair_dye×Span)):List (Nat×Blk):=[(7,.dm),(3,.var 4 [.d (.bool v2)]),(2,.var 3 [jI v1]),(1,.var 26 [.d (q1 v)]),(0,.var 78 (hbm b_B mf))]
theorem k81 (b_B:HairBook) (mf:List (Hair_dye×Span)) (r:(List Int)×Bool) (h:g81 b_B mf=some r):SCall Tryd.prog Gs 81 [.agg (hbm b_B mf)] [] 0 Fr.emp (match r with | (r0,r1)=>.tup [.d (q1 r0),.d (.bool r1)]) [] 0 Fr.emp:=by
 unfold g81 at h
 refine SCall.mkK Tryd.func81 c81 rfl rfl (by kernel_rfl) (fun Q_0 hR_0 hN_0=>?_)
 refine Sa (sT [pR 1 0] [(0,.var 78 (hbm b_B mf))] 1 0) ?_
 refine Sa (sT [pR 1 0,pR 4 1] [(1,.var 26 [.d (.nilSl)]),(0,.var 78 (hbm b_B mf))] 2 0) ?_
 refine Sa (sT [pR 1 0,pR 4 1,pR 5 2,pR 6 3] (y25 b_B mf) 4 0) ?_
 refine AW.seqK (fun K_1 hK_1=>?_)
 refine AW.sdrwK fokW (fun Q_2 hQ_2=>?_)
 refine aX 1 (sT [pR 1 0,pR 4 1,pR 5 2,pR 6 3,(10,.agg (hbm b_B mf))] (y25 b_B mf) 4 0) ?_
 obtain ⟨⟨⟩,hx_3,h⟩:=bsome h
 refine r_call trivial rfl (k76 _ hx_3) rfl rfl ?_
 refine aX 2 (sT [pR 1 0,pR 4 1,pR 5 2,pR 6 3,(10,.agg (hbm b_B mf)),(11,.agg [.d (.fn 107)]),(13,.clo 89 [.agg (hbm b_B mf)] [])] (y25 b_B mf) 4 0) ?_
 obtain ⟨⟨o0_B,mf1⟩,hx_4,h⟩:=bsome h
 refine r_callS (zr:=[]) [] trivial rfl (k88 b_B mf b_B mf _ hx_4) trivial rfl rfl ⟨.refl _,.refl _,.refl _,trivial⟩ rfl rfl rfl ?_
 refine Fi (sT [pR 1 0,pR 4 1,pR 5 2,pR 6 3,(14,.clo 111 [] [.ptr 4 0,.ptr 5 0,.ptr 6 0])] [(4,.var 78 (hbm o0_B mf1)),(5,.var 99 [.d (.fn 107)]),(6,.var 65 [.clo 89 [.agg (hbm b_B mf)] []]),(3,.var 4 [.d (.bool false)]),(2,.var 3 [jI 0]),(1,.var 26 [.d (.nilSl)]),(0,.var 78 (hbm b_B mf))] 7 0) ?_
 refine hQ_2 _ ?_
 refine AW.block ?_
 refine AW.can (Can.wkH 1 0 1 rfl rfl) ?_
 obtain ⟨out_5,hx_5,h⟩:=bsome h
 refine AW.rfX (fun (⟨v,v1,v2⟩:(List Int)×Int×Bool)=>[(7,.dm),(3,.var 4 [.d (.bool v2)]),(2,.var 3 [jI v1]),(1,.var 26 [.d (q1 v)]),(0,.var 78 (hbm b_B mf))]) (fun (_:Unit)=>[]) (fun _=>some .ret) (g81_r5 b_B mf) (fun (⟨a,a1⟩:(List Int)×(Nat→Int))=>[.d (q1 a),.agg (cfv a1)]) (s0:=(([],0,false):(List Int)×Int×Bool)) (out:=out_5) [pR 1 0,pR 4 1,pR 5 2,pR 6 3] [(3,.var 4 [.d (.bool false)]),(2,.var 3 [jI 0]),(1,.var 26 [.d (.sl 1 (List.map e3 []))]),(0,.var 78 (hbm b_B mf))] [4,5,6] rfl (.clo _ _ _) (by kernel_rfl) (by kernel_rfl) (fun fr_ hY_5=>k111 fr_ _ (fun a a1 s s2 b h=>hY_5 (a,a1) s s2 b h) o0_B mf1 b_B mf (.next (([],0,false):(List Int)×Int×Bool)) _ hx_5) (by kernel_rfl) ⟨rfl,rfl,rfl,trivial⟩ rfl ⟨rfl,rfl⟩ rfl rfl (fun _=>rfl) (fun _=>rfl) (fun a_5 s_5 c_5 h l_5=>?_) (fun _=>rfl) ?_
 ·obtain ⟨a,a1⟩:=a_5
  obtain ⟨v,v1,v2⟩:=s_5
  unfold g81_r5 at h
  refine AW.sa (fokR l_5) [] (sT [pR 1 0,pR 4 1,pR 5 2,pR 6 3,(7,.d (q1 a)),(16,.agg (cfv a1))] (y26 v2 v1 v b_B mf) 8 8) (by kernel_rfl) ?_
  refine AW.ra (fokR l_5) [] (sT [pR 1 0,pR 4 1,pR 5 2,pR 6 3,(7,.d (q1 a)),pR 8 8] [(8,.var 92 (cfv a1)),(7,.dm),(3,.var 4 [.d (.bool v2)]),(2,.var 3 [jI v1]),(1,.var 26 [.d (q1 v)]),(0,.var 78 (hbm b_B mf))] 9 8) (by kernel_rfl) ?_
  refine AW.block ?_
  refine AW.sdrwK (fokR l_5) (fun Q_6 hQ_6=>?_)
  refine aX 2 (sT [pR 4 1,pR 5 2,pR 6 3,(7,.d (q1 a)),(17,.agg (hbm b_B mf)),(18,.agg (cfv a1))] [(8,.var 92 (cfv a1)),(7,.dm),(3,.var 4 [.d (.bool v2)]),(2,.var 3 [jI v1]),(1,.var 26 [.d (q1 v)]),(0,.var 78 (hbm b_B mf))] 9 8) ?_
  obtain ⟨⟨⟩,hx_7,h⟩:=bsome h
  refine r_call trivial rfl (k77 _ hx_7) rfl rfl ?_
  obtain ⟨r0_3,hx_8,h⟩:=bsome h
  refine r_call trivial rfl (k75a b_B mf a1 _ hx_8) rfl rfl ?_
  refine aX 1 (sT [pR 4 1,pR 5 2,pR 6 3,(7,.d (q1 a)),(9,jI r0_3)] [(8,.var 92 (cfv a1)),(7,.dm),(3,.var 4 [.d (.bool v2)]),(2,.var 3 [jI v1]),(1,.var 26 [.d (q1 v)]),(0,.var 78 (hbm b_B mf))] 9 8) ?_
  refine Fi (sT [pR 4 1,pR 5 2,pR 6 3,(7,.d (q1 a)),(9,jI r0_3)] (y26 v2 v1 v b_B mf) 9 8) ?_
  refine hQ_6 _ ?_
  refine AW.sa (fokR l_5) [23] (sT [pR 4 1,pR 5 2,pR 6 3,(7,.d (q1 a)),(9,jI r0_3),(27,.d (.bool ((!v2)||(decide (r0_3<v1)))))] (y26 v2 v1 v b_B mf) 9 8) (by kernel_rfl) ?_
  refine AW.cond rfl (fun hb_9=>?_) (fun hb_9=>?_)
  ·have h:=ifT hb_9 h
   refine AW.ra (fokR l_5) [] (sT [] [(3,.var 4 [.d (.bool true)]),(2,.var 3 [jI r0_3]),(1,.var 26 [.d (q1 a)]),(7,.dm),(0,.var 78 (hbm b_B mf))] 9 8) (by kernel_rfl) ?_
   obtain rfl:=Option.some.inj h
   exact ⟨(sT [] [(7,.dm),(3,.var 4 [.d (.bool true)]),(2,.var 3 [jI r0_3]),(1,.var 26 [.d (q1 a)]),(0,.var 78 (hbm b_B mf))] 8 8),Can.kp (by kernel_rfl),rdX trivial rfl (by kernel_rfl) (by kernel_rfl)⟩
  ·have h:=ifF hb_9 h
   refine AW.skip ?_
   obtain rfl:=Option.some.inj h
   exact ⟨(sT [] (y26 v2 v1 v b_B mf) 8 8),Can.kp (by kernel_rfl),rdX trivial rfl (by kernel_rfl) (by kernel_rfl)⟩
 ·rcases out_5 with ⟨v,v1,v2⟩ | _
  ·refine hK_1 _ ?_
   refine Sa ⟨[(2,.d (q1 v)),(3,.d (.bool v2))],[(7,.dm)],8,Fr.emp,[7],0⟩ ?_
   obtain rfl:=Option.some.inj h
   exact rT hR_0 (.cons (.tmp rfl) (.cons (.tmp rfl) .nil))
  ·cases h
def g26 (x:HairBook):Option ((List Int)×Int):=(g17 x).bind fun r0_9=>bif (decide (r0_9≠0)) then (some ([],r0_9)) else ((g80 x).bind fun (r0_B,mf)=>(g81 r0_B mf).bind fun (r0,r1)=>bif (!r1) then (some ([],4)) else ((slcL r0 0 (r0.length:Int)).bind fun l=>some (l,0)))
theorem k26 (x:HairBook) (r:(List Int)×Int) (h:g26 x=some r):SCall Tryd.prog Gs 26 [.agg (cv25 x)] [] 0 Fr.emp (match r with | (r0_3,r1_3)=>.tup [.d (q1 r0_3),jI r1_3]) [] 0 Fr.emp:=by
 unfold g26 at h
 refine SCall.mkK Tryd.func26 c26 rfl rfl (by kernel_rfl) (fun Q_0 hR_0 hN_0=>?_)
 refine Sa (sT [pR 1 0] [(0,.var 25 (cv25 x))] 1 0) ?_
 refine AW.seqK fun K_1 hK_1=>AW.srwK fun Q_2 hQ_2=>?_
 refine Au 1 (sT [pR 1 0,(7,.agg (cv25 x))] [(0,.var 25 (cv25 x))] 1 0) ?_
 obtain ⟨r0_9,hx_3,h⟩:=bsome h
 refine rC (k17 x _ hx_3) ?_
 refine Au 1 (sT [pR 1 0,(4,jI r0_9)] [(0,.var 25 (cv25 x))] 1 0) ?_
 refine RW.nil (hQ_2 _ ?_)
 refine Sa (sT [pR 1 0,(4,jI r0_9),(10,.d (.bool (decide (r0_9≠0))))] [(0,.var 25 (cv25 x))] 1 0) ?_
 refine AW.cond rfl (fun hb_4=>?_) (fun hb_4=>?_)
 ·have h:=ifT hb_4 h
  refine Sa (sT [(2,.d (.nilSl)),(3,jI r0_9)] [] 1 0) ?_
  obtain rfl:=Option.some.inj h
  exact AW.ret (hR_0 _ (retX (.cons (.tmp rfl) (.cons (.tmp rfl) .nil)) (Frz.tup_of ⟨.nil 1,.refl _,trivial⟩) rfl (by kernel_rfl) (by kernel_rfl)))
 ·have h:=ifF hb_4 h
  refine AW.skip (hK_1 _ ?_)
  refine AW.srwK (fun Q_5 hQ_5=>?_)
  refine Au 1 (sT [(13,.agg (cv25 x))] [] 1 0) ?_
  obtain ⟨⟨r0_B,mf⟩,hx_6,h⟩:=bsome h
  refine rC (k80 x _ hx_6) ?_
  obtain ⟨⟨r0,r1⟩,hx_7,h⟩:=bsome h
  refine rC (k81 r0_B mf _ hx_7) ?_
  refine Au 5 (sT [(5,.d (q1 r0)),(6,.d (.bool r1))] [] 1 0) ?_
  refine RW.nil (hQ_5 _ ?_)
  refine AW.seqK (fun K_8 hK_8=>?_)
  refine Sa (sT [(5,.d (q1 r0)),(19,.d (.bool (!r1)))] [] 1 0) ?_
  refine AW.cond rfl (fun hb_9=>?_) (fun hb_9=>?_)
  ·have h:=ifT hb_9 h
   refine Sa (sT [(2,.d (.nilSl)),(3,jI 4)] [] 1 0) ?_
   obtain rfl:=Option.some.inj h
   exact AW.ret (hR_0 _ (retX (.cons (.tmp rfl) (.cons (.tmp rfl) .nil)) (Frz.tup_of ⟨.nil 1,.refl _,trivial⟩) rfl (by kernel_rfl) (by kernel_rfl)))
  ·have h:=ifF hb_9 h
   refine AW.skip (hK_8 _ ?_)
   refine AW.srwK (fun Q_10 hQ_10=>?_)
   refine Au 2 (sT [(5,.d (q1 r0)),(20,.d (q1 r0)),(21,.d (q1 r0))] [] 1 0) ?_
   refine rL rfl ?_
   refine Au 1 (sT [(20,.d (q1 r0)),(22,jI (r0.length:Int)),(23,.d (q1 r0))] [] 1 0) ?_
   refine rL rfl ?_
   obtain ⟨l,hv_11,h⟩:=bsome h
   refine RW.one fokW (r_slN trivial rfl rfl rfl DSl.d (slcL_ok hv_11).2.1 (by rw [List.length_map];exact (slcL_ok hv_11).2.2.1) rfl (slz hv_11 e3) (r_end ?_))
   refine Au 2 (sT [(2,.fsl 1 (List.map e3 l)),(3,jI 0)] [] 1 0) ?_
   refine RW.nil (hQ_10 _ ?_)
   obtain rfl:=Option.some.inj h
   exact AW.ret (hR_0 _ (retX (.cons (.tmp rfl) (.cons (.tmp rfl) .nil)) (Frz.tup_of ⟨.fsl _ _,.refl _,trivial⟩) rfl (by kernel_rfl) (by kernel_rfl)))
def g28_4 (l:(List Int)) (m:(List Int)):(Bool×Int)→Option (Ctl (Bool×Int) (Bool)):=fun  (is2,i)=>(bif is2 then (some (decide (i<(l.length:Int)))) else (some false)).bind fun v=>bif v then ((ixL l i).bind fun p=>(ixL m i).bind fun p1=>some (.next ((decide (p=p1)),(wr (i+1))))) else (some (.brk is2))
def g28 (l:(List Int)) (m:(List Int)):Option Bool:=((whileC (g28_4 l m) 1000 ((decide ((l.length:Int)=(m.length:Int))),0)).bind fun is1=>some is1).bind fun is=>some is
theorem k28 (l:(List Int)) (m:(List Int)) (r:Bool) (h:g28 l m=some r):SCall Tryd.prog Gs 28 [.d (q1 l),.d (q1 m)] [] 0 Fr.emp (.d (.bool r)) [] 0 Fr.emp:=by
 unfold g28 at h
 refine SCall.mkK Tryd.func28 c28 rfl rfl (by kernel_rfl) (fun Q_0 hR_0 hN_0=>?_)
 refine Sa (sT [(0,.d (q1 l)),(1,.d (q1 m))] [] 0 0) ?_
 refine AW.srwK (fun Q_1 hQ_1=>?_)
 refine Au 1 (sT [(0,.d (q1 l)),(1,.d (q1 m)),(7,.d (q1 l))] [] 0 0) ?_
 refine rL rfl ?_
 refine Au 1 (sT [(0,.d (q1 l)),(1,.d (q1 m)),(8,jI (l.length:Int)),(9,.d (q1 m))] [] 0 0) ?_
 refine rL rfl ?_
 refine Au 2 (sT [(0,.d (q1 l)),(1,.d (q1 m)),(5,.d (.bool (decide ((l.length:Int)=(m.length:Int)))))] [] 0 0) ?_
 refine RW.nil (hQ_1 _ ?_)
 obtain ⟨is,hx_2,h⟩:=bsome h
 refine AW.jnSK (fun (is:Bool)=>(sT [(5,.d (.bool is))] [] 0 0)) (c:=is) (fun K_2 hK_2=>?_) ?_
 ·have h:=hx_2
  refine Sa (sT [(0,.d (q1 l)),(1,.d (q1 m)),(5,.d (.bool (decide ((l.length:Int)=(m.length:Int))))),(6,jI 0)] [] 0 0) ?_
  obtain ⟨is1,hx_3,h⟩:=bsome h
  refine AW.jqSK (fun (is1:Bool)=>(sT [(5,.d (.bool is1))] [] 0 0)) (c:=is1) (fun K_3 hK_3=>?_) ?_
  ·have h:=hx_3
   refine AW.block ?_
   refine AW.whK (fun (⟨is2,i⟩:Bool×Int)=>(sT [(0,.d (q1 l)),(1,.d (q1 m)),(5,.d (.bool is2)),(6,jI i)] [] 0 0)) (g28_4 l m) h (Can.kp (by kernel_rfl)) (fun s_4 c_4 h hb_4 K_4 hK_4=>?_)
   obtain ⟨is2,i⟩:=s_4
   unfold g28_4 at h
   refine AW.seqK fun K_5 hK_5=>AW.srwK fun Q_6 hQ_6=>?_
   refine Au 2 (sT [(0,.d (q1 l)),(1,.d (q1 m)),(5,.d (.bool is2)),(6,jI i),(13,.d (.bool is2))] [] 0 0) ?_
   obtain ⟨v,hx_7,h⟩:=bsome h
   refine RW.cut fokW 5 ((sT [(0,.d (q1 l)),(1,.d (q1 m)),(5,.d (.bool is2)),(6,jI i),(18,.d (.bool v))] [] 0 0)) ?_ ?_
   ·refine r_split 13 rfl (fun hb_8=>?_) (fun hb_8=>?_)
    ·have h:=ifT hb_8 hx_7
     refine aX 2 (sT [(0,.d (q1 l)),(1,.d (q1 m)),(5,.d (.bool is2)),(6,jI i),(13,.d (.bool true)),(14,jI i),(15,.d (q1 l))] [] 0 0) ?_
     refine r_lenX rfl rfl lenm ?_
     refine aX 2 (sT [(0,.d (q1 l)),(1,.d (q1 m)),(5,.d (.bool is2)),(6,jI i),(18,.d (.bool (decide (i<(l.length:Int)))))] [] 0 0) ?_
     obtain rfl:=Option.some.inj h
     refine RunC.finJ (Can.kp (by kernel_rfl))
    ·have h:=ifF hb_8 hx_7
     refine aX 5 (sT [(0,.d (q1 l)),(1,.d (q1 m)),(5,.d (.bool is2)),(6,jI i),(18,.d (.bool false))] [] 0 0) ?_
     obtain rfl:=Option.some.inj h
     refine RunC.finJ (Can.kp (by kernel_rfl))
   ·refine RW.nil (hQ_6 _ ?_)
    refine AW.cond rfl (fun hb_9=>?_) (fun hb_9=>?_)
    ·have h:=ifT hb_9 h
     refine AW.skip (hK_5 _ ?_)
     refine AW.seqK (fun K_10 hK_10=>?_)
     refine AW.block ?_
     refine AW.drw fokW ?_
     refine aX 2 (sT [(0,.d (q1 l)),(1,.d (q1 m)),(6,jI i),(21,.d (q1 l)),(22,jI i)] [] 0 0) ?_
     obtain ⟨p,hv_12,h⟩:=bsome h
     refine r_iaD trivial rfl rfl (ixL_ok hv_12).1 (row:=e3 p) (mapget (ixL_ok hv_12).2) ?_
     refine aX 3 (sT [(0,.d (q1 l)),(1,.d (q1 m)),(6,jI i),(24,jI p),(25,.d (q1 m)),(26,jI i)] [] 0 0) ?_
     obtain ⟨p1,hv_13,h⟩:=bsome h
     refine r_iaD trivial rfl rfl (ixL_ok hv_13).1 (row:=e3 p1) (mapget (ixL_ok hv_13).2) ?_
     refine aX 3 (sT [(0,.d (q1 l)),(1,.d (q1 m)),(5,.d (.bool (decide (p=p1)))),(6,jI i)] [] 0 0) ?_
     refine Fi (sT [(0,.d (q1 l)),(1,.d (q1 m)),(5,.d (.bool (decide (p=p1)))),(6,jI i)] [] 0 0) ?_
     refine hK_10 _ ?_
     refine Ra (sT [(0,.d (q1 l)),(1,.d (q1 m)),(5,.d (.bool (decide (p=p1)))),(6,jI (wr (i+1)))] [] 0 0) ?_
     obtain rfl:=Option.some.inj h
     exact hK_4 _ _ rfl (Can.kp (by kernel_rfl))
    ·have h:=ifF hb_9 h
     refine AW.exit ?_
     obtain rfl:=Option.some.inj h
     obtain rfl:=hb_4 _ rfl
     exact hK_3 _ (Can.kp (by kernel_rfl))
  ·obtain rfl:=Option.some.inj h
   exact hK_2 _ (Can.kp (by kernel_rfl))
 ·refine Sa (sT [(4,.d (.bool is))] [] 0 0) ?_
  obtain rfl:=Option.some.inj h
  exact rT hR_0 (.cons (.tmp rfl) .nil)
def g54 :Option HairBook:=(g79).bind fun r0_1=>(slcL r0_1.Hanks 0 2).bind fun l=>some (HairBook.mk l r0_1.Horses r0_1.Dark r0_1.Near r0_1.Match)
theorem k54  (r:HairBook) (h:g54=some r):SCall Tryd.prog Gs 54 [] [] 0 Fr.emp (.agg (cv25 r)) [] 0 Fr.emp:=by
 unfold g54 at h
 refine SCall.mkK Tryd.func54 c54 rfl rfl (by kernel_rfl) (fun Q_0 hR_0 hN_0=>?_)
 refine Sa (sT [pR 0 0] [(0,.var 25 [.d (.nilSl),.d (.nilSl),jI 0,jI 0,jI 0])] 1 0) ?_
 refine AW.srwK (fun Q_1 hQ_1=>?_)
 obtain ⟨r0_1,hx_2,h⟩:=bsome h
 refine rC (k79 _ hx_2) ?_
 refine Au 2 (sT [pR 0 0,pR 1 1] [(1,.var 25 (cv25 r0_1)),(0,.var 25 [.d (.nilSl),.d (.nilSl),jI 0,jI 0,jI 0])] 2 0) ?_
 refine RW.nil (hQ_1 _ ?_)
 refine AW.srwK (fun Q_3 hQ_3=>?_)
 refine Au 2 (sT [pR 0 0,pR 1 1,(4,.d (.sl 4 (List.map e58 r0_1.Hanks)))] [(1,.var 25 (cv25 r0_1)),(0,.var 25 [.d (.nilSl),.d (.nilSl),jI 0,jI 0,jI 0])] 2 0) ?_
 obtain ⟨l,hv_4,h⟩:=bsome h
 refine RW.one fokW (r_slH trivial rfl rfl DSl.d (slcL_ok hv_4).2.1 (by rw [List.length_map];exact (slcL_ok hv_4).2.2.1) (slz hv_4 e58) (r_end ?_))
 refine Au 2 (sT [pR 0 0,pR 1 1] [(1,.var 25 [.d (.sl 4 (List.map e58 l)),.d (.sl 3 (List.map e69 r0_1.Horses)),jI r0_1.Dark,jI r0_1.Near,jI r0_1.Match]),(0,.var 25 [.d (.nilSl),.d (.nilSl),jI 0,jI 0,jI 0])] 2 0) ?_
 refine RW.nil (hQ_3 _ ?_)
 refine Sa (sT [pR 0 0] [(0,.var 25 [.d (.sl 4 (List.map e58 l)),.d (.sl 3 (List.map e69 r0_1.Horses)),jI r0_1.Dark,jI r0_1.Near,jI r0_1.Match])] 2 0) ?_
 obtain rfl:=Option.some.inj h
 exact rT hR_0 (.cons (.agg rfl rfl (Nat.le_of_ble_eq_true rfl)) .nil)
def g84_r5:((List Int)×(Nat→Int))→(Unit)→Option (Ctl (Unit) (Unit)):=fun (a,a1) _=>some (.brk ())
def g84 (b_B:HairBook) (mf:List (Hair_dye×Span)):Option Bool:=(g76).bind fun _=>(g88 b_B mf b_B mf).bind fun (o0_B,mf1)=>(g111 (fun a a1 s=>rndC g84_r5 (a,a1) s) o0_B mf1 b_B mf (.next ())).bind fun out_5=>match out_5 with | .next _=>some false | .brk _=>some true
theorem k84 (b_B:HairBook) (mf:List (Hair_dye×Span)) (r:Bool) (h:g84 b_B mf=some r):SCall Tryd.prog Gs 84 [.agg (hbm b_B mf)] [] 0 Fr.emp (.d (.bool r)) [] 0 Fr.emp:=by
 unfold g84 at h
 refine SCall.mkK Tryd.func84 c84 rfl rfl (by kernel_rfl) (fun Q_0 hR_0 hN_0=>?_)
 refine Sa (sT [pR 1 0,pR 2 1] [(1,.var 4 [.d (.bool false)]),(0,.var 78 (hbm b_B mf))] 2 0) ?_
 refine AW.seqK (fun K_1 hK_1=>?_)
 refine AW.sdrwK fokW (fun Q_2 hQ_2=>?_)
 refine aX 1 (sT [pR 1 0,pR 2 1,(3,.agg (hbm b_B mf))] [(1,.var 4 [.d (.bool false)]),(0,.var 78 (hbm b_B mf))] 2 0) ?_
 obtain ⟨⟨⟩,hx_3,h⟩:=bsome h
 refine r_call trivial rfl (k76 _ hx_3) rfl rfl ?_
 refine aX 2 (sT [pR 2 1,(3,.agg (hbm b_B mf)),(4,.agg [.d (.fn 107)]),(6,.clo 89 [.agg (hbm b_B mf)] [])] [(1,.var 4 [.d (.bool false)]),(0,.var 78 (hbm b_B mf))] 2 0) ?_
 obtain ⟨⟨o0_B,mf1⟩,hx_4,h⟩:=bsome h
 refine r_callS (zr:=[]) [] trivial rfl (k88 b_B mf b_B mf _ hx_4) trivial rfl rfl ⟨.refl _,.refl _,.refl _,trivial⟩ rfl rfl rfl ?_
 refine Fi (sT [pR 2 1,(7,.clo 111 [] [.ptr 2 0,.ptr 3 0,.ptr 4 0])] [(2,.var 78 (hbm o0_B mf1)),(3,.var 99 [.d (.fn 107)]),(4,.var 65 [.clo 89 [.agg (hbm b_B mf)] []]),(1,.var 4 [.d (.bool false)])] 5 0) ?_
 refine hQ_2 _ ?_
 refine AW.block ?_
 obtain ⟨out_5,hx_5,h⟩:=bsome h
 refine AW.rfX (fun (_:Unit)=>[(5,.dm),(1,.var 4 [.d (.bool false)])]) (fun (_:Unit)=>[(5,.dm),(1,.var 4 [.d (.bool true)])]) (fun _=>some .ret) g84_r5 (fun (⟨a,a1⟩:(List Int)×(Nat→Int))=>[.d (q1 a),.agg (cfv a1)]) (s0:=()) (out:=out_5) [pR 2 1] [(1,.var 4 [.d (.bool false)])] [2,3,4] rfl (.clo _ _ _) (by kernel_rfl) (by kernel_rfl) (fun fr_ hY_5=>k111 fr_ _ (fun a a1 s s2 b h=>hY_5 (a,a1) s s2 b h) o0_B mf1 b_B mf (.next ()) _ hx_5) (by kernel_rfl) ⟨rfl,rfl,rfl,trivial⟩ rfl ⟨rfl,rfl⟩ rfl rfl (fun _=>rfl) (fun _=>rfl) (fun a_5 s_5 c_5 h l_5=>?_) (fun _=>rfl) ?_
 ·obtain ⟨a,a1⟩:=a_5
  unfold g84_r5 at h
  refine AW.skip ?_
  refine AW.block ?_
  refine AW.sa (fokR l_5) [] (sT [pR 2 1] [(1,.var 4 [.d (.bool true)]),(5,.dm)] 6 6) (by kernel_rfl) ?_
  refine AW.ret ?_
  obtain rfl:=Option.some.inj h
  exact ⟨(sT [] [(5,.dm),(1,.var 4 [.d (.bool true)])] 6 6),Can.kp (by kernel_rfl),rdX trivial rfl (by kernel_rfl) (by kernel_rfl)⟩
 ·rcases out_5 with _ | _
  ·refine hK_1 _ ?_
   refine Sa ⟨[pR 2 1],[(1,.var 4 [.d (.bool false)]),(5,.dm)],6,Fr.emp,[5],0⟩ ?_
   obtain rfl:=Option.some.inj h
   exact rT hR_0 (.cons (.one rfl rfl rfl) .nil)
  ·obtain rfl:=Option.some.inj h
   exact hR_0 _ (retX (.cons (.one rfl rfl rfl) .nil) (.refl _) rfl (by kernel_rfl) (by kernel_rfl))
def g116 (x:Int):Option Bool:=some (decide (x≠x))
theorem k116 (x:Int) (r:Bool) (h:g116 x=some r):SCall Tryd.prog Gs 116 [jI x] [] 0 Fr.emp (.d (.bool r)) [] 0 Fr.emp:=by
 unfold g116 at h
 refine SCall.mkK Tryd.func116 c116 rfl rfl (by kernel_rfl) (fun Q_0 hR_0 hN_0=>?_)
 refine Sa (sT [(0,jI x)] [] 0 0) ?_
 refine Sa (sT [(2,.d (.bool (decide (x≠x))))] [] 0 0) ?_
 obtain rfl:=Option.some.inj h
 exact rT hR_0 (.cons (.tmp rfl) .nil)
def g110 (x:Int) (y:Int):Option Int:=(g116 x).bind fun r0=>(g116 y).bind fun r0_1=>bif r0 then (bif r0_1 then (some 0) else (some (-1))) else (bif r0_1 then (some 1) else (bif (decide (x<y)) then (some (-1)) else (bif (decide (y<x)) then (some 1) else (some 0))))
theorem k110 (x:Int) (y:Int) (r:Int) (h:g110 x y=some r):SCall Tryd.prog Gs 110 [jI x,jI y] [] 0 Fr.emp (jI r) [] 0 Fr.emp:=by
 unfold g110 at h
 refine SCall.mkK Tryd.func110 c110 rfl rfl (by kernel_rfl) (fun Q_0 hR_0 hN_0=>?_)
 refine Sa (sT [(0,jI x),(1,jI y)] [] 0 0) ?_
 refine AW.srwK (fun Q_1 hQ_1=>?_)
 refine Au 1 (sT [(0,jI x),(1,jI y),(7,jI x)] [] 0 0) ?_
 obtain ⟨r0,hx_2,h⟩:=bsome h
 refine rC (k116 x _ hx_2) ?_
 refine Au 1 (sT [(0,jI x),(1,jI y),(5,.d (.bool r0))] [] 0 0) ?_
 refine RW.nil (hQ_1 _ ?_)
 refine AW.srwK (fun Q_3 hQ_3=>?_)
 refine Au 1 (sT [(0,jI x),(1,jI y),(5,.d (.bool r0)),(9,jI y)] [] 0 0) ?_
 obtain ⟨r0_1,hx_4,h⟩:=bsome h
 refine rC (k116 y _ hx_4) ?_
 refine Au 1 (sT [(0,jI x),(1,jI y),(5,.d (.bool r0)),(6,.d (.bool r0_1))] [] 0 0) ?_
 refine RW.nil (hQ_3 _ ?_)
 refine AW.seqK (fun K_5 hK_5=>?_)
 refine Sa (sT [(0,jI x),(1,jI y),(6,.d (.bool r0_1)),(11,.d (.bool r0))] [] 0 0) ?_
 refine AW.cond rfl (fun hb_6=>?_) (fun hb_6=>?_)
 ·have h:=ifT hb_6 h
  refine AW.seqK (fun K_7 hK_7=>?_)
  refine Sa (sT [(12,.d (.bool r0_1))] [] 0 0) ?_
  refine AW.cond rfl (fun hb_8=>?_) (fun hb_8=>?_)
  ·have h:=ifT hb_8 h
   refine Sa (sT [(4,jI 0)] [] 0 0) ?_
   obtain rfl:=Option.some.inj h
   exact rT hR_0 (.cons (.tmp rfl) .nil)
  ·have h:=ifF hb_8 h
   refine AW.skip (hK_7 _ ?_)
   refine Sa (sT [(4,jI (-1))] [] 0 0) ?_
   obtain rfl:=Option.some.inj h
   exact rT hR_0 (.cons (.tmp rfl) .nil)
 ·have h:=ifF hb_6 h
  refine AW.skip (hK_5 _ ?_)
  refine AW.seqK (fun K_9 hK_9=>?_)
  refine Sa (sT [(0,jI x),(1,jI y),(13,.d (.bool r0_1))] [] 0 0) ?_
  refine AW.cond rfl (fun hb_10=>?_) (fun hb_10=>?_)
  ·have h:=ifT hb_10 h
   refine Sa (sT [(4,jI 1)] [] 0 0) ?_
   obtain rfl:=Option.some.inj h
   exact rT hR_0 (.cons (.tmp rfl) .nil)
  ·have h:=ifF hb_10 h
   refine AW.skip (hK_9 _ ?_)
   refine AW.seqK (fun K_11 hK_11=>?_)
   refine Sa (sT [(0,jI x),(1,jI y),(16,.d (.bool (decide (x<y))))] [] 0 0) ?_
   refine AW.cond rfl (fun hb_12=>?_) (fun hb_12=>?_)
   ·have h:=ifT hb_12 h
    refine Sa (sT [(4,jI (-1))] [] 0 0) ?_
    obtain rfl:=Option.some.inj h
    exact rT hR_0 (.cons (.tmp rfl) .nil)
   ·have h:=ifF hb_12 h
    refine AW.skip (hK_11 _ ?_)
    refine AW.seqK (fun K_13 hK_13=>?_)
    refine Sa (sT [(19,.d (.bool (decide (y<x))))] [] 0 0) ?_
    refine AW.cond rfl (fun hb_14=>?_) (fun hb_14=>?_)
    ·have h:=ifT hb_14 h
     refine Sa (sT [(4,jI 1)] [] 0 0) ?_
     obtain rfl:=Option.some.inj h
     exact rT hR_0 (.cons (.tmp rfl) .nil)
    ·have h:=ifF hb_14 h
     refine AW.skip (hK_13 _ ?_)
     refine Sa (sT [(4,jI 0)] [] 0 0) ?_
     obtain rfl:=Option.some.inj h
     exact rT hR_0 (.cons (.tmp rfl) .nil)
def g83_3 (s2:(List Int)):Int→Int→Unit→Option (Ctl (Unit) (Int)):=fun v p _=>bif (decide ((s2.length:Int)≤v)) then (some (.brk 1)) else ((ixL s2 v).bind fun p1=>(g110 p p1).bind fun r0_7=>bif (decide (r0_7≠0)) then (some (.brk r0_7)) else (some (.next ())))
def g83 (s1:(List Int)) (s2:(List Int)):Option Int:=bindC (eachC (g83_3 s2) s1 0 ()) fun _=>bif (decide ((s1.length:Int)<(s2.length:Int))) then (some (-1)) else (some 0)
theorem k83 (s1:(List Int)) (s2:(List Int)) (r:Int) (h:g83 s1 s2=some r):SCall Tryd.prog Gs 83 [.d (q1 s1),.d (q1 s2)] [] 0 Fr.emp (jI r) [] 0 Fr.emp:=by
 unfold g83 at h
 refine SCall.mkK Tryd.func83 c83 rfl rfl (by kernel_rfl) (fun Q_0 hR_0 hN_0=>?_)
 refine Sa (sT [(0,.d (q1 s1)),(1,.d (q1 s2))] [] 0 0) ?_
 refine AW.seqK fun K_1 hK_1=>AW.srwK fun Q_2 hQ_2=>?_
 refine Au 1 (sT [(0,.d (q1 s1)),(1,.d (q1 s2)),(9,.d (q1 s1))] [] 0 0) ?_
 refine rL rfl ?_
 refine Au 1 (sT [(0,.d (q1 s1)),(1,.d (q1 s2)),(9,.d (q1 s1)),(10,jI (s1.length:Int)),(11,jI 0)] [] 0 0) ?_
 refine RW.nil (hQ_2 _ ?_)
 refine AW.block ?_
 refine AW.sln (t:=0) rfl (fun hN_3=>?_)
 rw [List.length_map] at hN_3
 obtain ⟨out_3,hx_3,hk_3⟩:=bsomeC h
 refine AW.evCK (fun (v:Int) (_:Unit)=>(sT [(0,.d (q1 s1)),(1,.d (q1 s2)),(9,.d (q1 s1)),(10,jI (s1.length:Int)),(11,jI v)] [] 0 0)) (g83_3 s2) hx_3 (Can.kp (by kernel_rfl)) (fun v p s_3 hi_3 hl_3 hp_3 c_3 h hb_3 K_3 hK_3=>?_) (fun v s_3 hi_3 hl_3 hout=>?_)
 ·unfold g83_3 at h
  refine Sa (sT [(0,.d (q1 s1)),(1,.d (q1 s2)),(9,.d (q1 s1)),(10,jI (s1.length:Int)),(11,jI v),(12,.d (.bool (decide (v<(s1.length:Int)))))] [] 0 0) ?_
  refine AW.seqK (fun K_4 hK_4=>?_)
  refine AW.cond rfl (fun hb_5=>?_) (fun hb_5=>False.elim (by have:=of_decide_eq_false hb_5;omega))
  refine AW.skip (hK_4 _ ?_)
  refine AW.seqK (fun K_6 hK_6=>?_)
  refine AW.block ?_
  refine AW.srwK (fun Q_7 hQ_7=>?_)
  refine Au 1 (sT [(0,.d (q1 s1)),(1,.d (q1 s2)),(9,.d (q1 s1)),(10,jI (s1.length:Int)),(11,jI v),(13,jI v)] [] 0 0) ?_
  refine RW.one fokW (r_iaD trivial rfl rfl hi_3 (row:=e3 p) (mapget hp_3) (r_end ?_))
  refine Au 3 (sT [(0,.d (q1 s1)),(1,.d (q1 s2)),(5,jI v),(6,jI p),(9,.d (q1 s1)),(10,jI (s1.length:Int)),(11,jI v)] [] 0 0) ?_
  refine RW.nil (hQ_7 _ ?_)
  refine AW.seqK fun K_8 hK_8=>AW.srwK fun Q_9 hQ_9=>?_
  refine Au 2 (sT [(0,.d (q1 s1)),(1,.d (q1 s2)),(5,jI v),(6,jI p),(9,.d (q1 s1)),(10,jI (s1.length:Int)),(11,jI v),(16,jI v),(17,.d (q1 s2))] [] 0 0) ?_
  refine rL rfl ?_
  refine Au 1 (sT [(0,.d (q1 s1)),(1,.d (q1 s2)),(5,jI v),(6,jI p),(9,.d (q1 s1)),(10,jI (s1.length:Int)),(11,jI v),(19,.d (.bool (decide ((s2.length:Int)≤v))))] [] 0 0) ?_
  refine RW.nil (hQ_9 _ ?_)
  refine AW.cond rfl (fun hb_10=>?_) (fun hb_10=>?_)
  ·have h:=ifT hb_10 h
   refine Sa (sT [(4,jI 1)] [] 0 0) ?_
   obtain rfl:=Option.some.inj h
   have e_1:=hb_3 _ rfl
   subst e_1
   obtain rfl:=Aft.bk hk_3
   exact rT hR_0 (.cons (.tmp rfl) .nil)
  ·have h:=ifF hb_10 h
   refine AW.skip (hK_8 _ ?_)
   refine AW.srwK (fun Q_11 hQ_11=>?_)
   refine Au 2 (sT [(0,.d (q1 s1)),(1,.d (q1 s2)),(6,jI p),(9,.d (q1 s1)),(10,jI (s1.length:Int)),(11,jI v),(20,.d (q1 s2)),(21,jI v)] [] 0 0) ?_
   obtain ⟨p1,hv_12,h⟩:=bsome h
   refine RW.one fokW (r_iaD trivial rfl rfl (ixL_ok hv_12).1 (row:=e3 p1) (mapget (ixL_ok hv_12).2) (r_end ?_))
   refine Au 2 (sT [(0,.d (q1 s1)),(1,.d (q1 s2)),(6,jI p),(7,jI p1),(9,.d (q1 s1)),(10,jI (s1.length:Int)),(11,jI v)] [] 0 0) ?_
   refine RW.nil (hQ_11 _ ?_)
   refine AW.srwK (fun Q_13 hQ_13=>?_)
   refine Au 2 (sT [(0,.d (q1 s1)),(1,.d (q1 s2)),(9,.d (q1 s1)),(10,jI (s1.length:Int)),(11,jI v),(24,jI p),(25,jI p1)] [] 0 0) ?_
   obtain ⟨r0_7,hx_14,h⟩:=bsome h
   refine rC (k110 p p1 _ hx_14) ?_
   refine Au 1 (sT [(0,.d (q1 s1)),(1,.d (q1 s2)),(8,jI r0_7),(9,.d (q1 s1)),(10,jI (s1.length:Int)),(11,jI v)] [] 0 0) ?_
   refine RW.nil (hQ_13 _ ?_)
   refine Sa (sT [(0,.d (q1 s1)),(1,.d (q1 s2)),(8,jI r0_7),(9,.d (q1 s1)),(10,jI (s1.length:Int)),(11,jI v),(28,.d (.bool (decide (r0_7≠0))))] [] 0 0) ?_
   refine AW.cond rfl (fun hb_15=>?_) (fun hb_15=>?_)
   ·have h:=ifT hb_15 h
    refine Sa (sT [(4,jI r0_7)] [] 0 0) ?_
    obtain rfl:=Option.some.inj h
    have e_1:=hb_3 _ rfl
    subst e_1
    obtain rfl:=Aft.bk hk_3
    exact rT hR_0 (.cons (.tmp rfl) .nil)
   ·have h:=ifF hb_15 h
    refine AW.skip (hK_6 _ ?_)
    refine Ra (sT [(0,.d (q1 s1)),(1,.d (q1 s2)),(9,.d (q1 s1)),(10,jI (s1.length:Int)),(11,jI (wr (v+1)))] [] 0 0) ?_
    obtain rfl:=Option.some.inj h
    have ew:wr (v+1)=v+1:=inext (N:=(s1.length:Int)) (by omega) (by omega) (by omega)
    rw [ew]
    exact hK_3 _ _ rfl (Can.kp (by kernel_rfl))
 ·subst hout
  have h:=Aft.nx hk_3
  refine Sa (sT [(0,.d (q1 s1)),(1,.d (q1 s2)),(9,.d (q1 s1)),(10,jI (s1.length:Int)),(11,jI v),(12,.d (.bool (decide (v<(s1.length:Int)))))] [] 0 0) ?_
  refine AW.seqK (fun K_16 hK_16=>?_)
  refine AW.cond rfl (fun hb_17=>False.elim (by have:=of_decide_eq_true hb_17;omega)) (fun hb_17=>?_)
  refine AW.exit ?_
  refine hK_1 _ ?_
  refine AW.seqK fun K_18 hK_18=>AW.srwK fun Q_19 hQ_19=>?_
  refine Au 1 (sT [(1,.d (q1 s2)),(31,.d (q1 s1))] [] 0 0) ?_
  refine rL rfl ?_
  refine Au 1 (sT [(32,jI (s1.length:Int)),(33,.d (q1 s2))] [] 0 0) ?_
  refine rL rfl ?_
  refine Au 1 (sT [(35,.d (.bool (decide ((s1.length:Int)<(s2.length:Int)))))] [] 0 0) ?_
  refine RW.nil (hQ_19 _ ?_)
  refine AW.cond rfl (fun hb_20=>?_) (fun hb_20=>?_)
  ·have h:=ifT hb_20 h
   refine Sa (sT [(4,jI (-1))] [] 0 0) ?_
   obtain rfl:=Option.some.inj h
   exact rT hR_0 (.cons (.tmp rfl) .nil)
  ·have h:=ifF hb_20 h
   refine AW.skip (hK_18 _ ?_)
   refine Sa (sT [(4,jI 0)] [] 0 0) ?_
   obtain rfl:=Option.some.inj h
   exact rT hR_0 (.cons (.tmp rfl) .nil)
def g29_14 (v1:Int):Int→HairHorse→((List Int)×(List HairHorse))→Option ((List Int)×(List HairHorse)):=fun v2 p (l,l1)=>(must (decide (0≤v2))).bind fun _=>bif (decide ((bAnd (shr64 v1 v2) 1)=1)) then ((appL 8 l [v2]).bind fun l2=>some (l2,l1)) else ((appL 24 l1 [p]).bind fun l3=>some (l,l3))
def g29_8 (x:HairBook):Int→((List Int)×Bool)→Option ((List Int)×Bool):=fun v1 (best1,found1)=>(eachS (g29_14 v1) x.Horses 0 (([],[]):(List Int)×(List HairHorse))).bind fun (l,l1)=>(bif found1 then (bif (decide ((best1.length:Int)<(l.length:Int))) then (some true) else (bif (decide ((l.length:Int)=(best1.length:Int))) then ((g83 l best1).bind fun r0_3=>some (decide (0≤r0_3))) else (some false))) else (some false)).bind fun v3=>bif v3 then (some (best1,found1)) else ((g80 (HairBook.mk x.Hanks l1 x.Dark x.Near x.Match)).bind fun (r0_B,mf)=>(g84 r0_B mf).bind fun r0_1=>bif r0_1 then (some (l,true)) else (some (best1,found1)))
def g29 (x:HairBook):Option ((List Int)×Int):=(g17 x).bind fun r0_9=>bif (decide (r0_9≠0)) then (some ([],r0_9)) else ((must (decide (0≤(x.Horses.length:Int)))).bind fun _=>(must (decide ((shl64 1 (x.Horses.length:Int))≤9223372036854775807))).bind fun _=>(forS (g29_8 x) ((((shl64 1 (x.Horses.length:Int)):Int) - 0).toNat) 0 (([],false):(List Int)×Bool)).bind fun (best1,found1)=>(slcL best1 0 (best1.length:Int)).bind fun l4=>some (l4,0))
def y27 (x:HairBook):List (Nat×Blk):=[(1,.var 25 [.d (.sl 4 (List.map e58 x.Hanks)),.d (.nilSl),jI x.Dark,jI x.Near,jI x.Match]),(0,.var 25 (cv25 x))]
def y28 (x:HairBook) (l1:List HairHorse) (l:List Int):List (Nat×Blk):=[(1,.var 25 [.d (.sl 4 (List.map e58 x.Hanks)),.own 3 (List.map e69 l1).length,jI x.Dark,jI x.Near,jI x.Match]),(3,.row 69 3 (List.map e69 l1)),(2,.row 3 1 (List.map e3 l)),(0,.var 25 (cv25 x))]
def y29 (l2:List Int) (x:HairBook) (l1:List HairHorse):List (Nat×Blk):=[(2,.row 3 1 (List.map e3 l2)),(1,.var 25 [.d (.sl 4 (List.map e58 x.Hanks)),.own 3 (List.map e69 l1).length,jI x.Dark,jI x.Near,jI x.Match]),(3,.row 69 3 (List.map e69 l1)),(0,.var 25 (cv25 x))]
def y30 (x:HairBook) (l3:List HairHorse) (l:List Int):List (Nat×Blk):=[(1,.var 25 [.d (.sl 4 (List.map e58 x.Hanks)),.own 3 (List.map e69 l3).length,jI x.Dark,jI x.Near,jI x.Match]),(3,.row 69 3 (List.map e69 l3)),(2,.row 3 1 (List.map e3 l)),(0,.var 25 (cv25 x))]
theorem k29 (x:HairBook) (r:(List Int)×Int) (h:g29 x=some r):SCall Tryd.prog Gs 29 [.agg (cv25 x)] [] 0 Fr.emp (match r with | (r0_2,r1_1)=>.tup [.d (q1 r0_2),jI r1_1]) [] 0 Fr.emp:=by
 unfold g29 at h
 refine SCall.mkK Tryd.func29 c29 rfl rfl (by kernel_rfl) (fun Q_0 hR_0 hN_0=>?_)
 refine Sa (sT [pR 1 0] [(0,.var 25 (cv25 x))] 1 0) ?_
 refine AW.seqK fun K_1 hK_1=>AW.srwK fun Q_2 hQ_2=>?_
 refine Au 1 (sT [pR 1 0,(12,.agg (cv25 x))] [(0,.var 25 (cv25 x))] 1 0) ?_
 obtain ⟨r0_9,hx_3,h⟩:=bsome h
 refine rC (k17 x _ hx_3) ?_
 refine Au 1 (sT [pR 1 0,(4,jI r0_9)] [(0,.var 25 (cv25 x))] 1 0) ?_
 refine RW.nil (hQ_2 _ ?_)
 refine Sa (sT [pR 1 0,(4,jI r0_9),(15,.d (.bool (decide (r0_9≠0))))] [(0,.var 25 (cv25 x))] 1 0) ?_
 refine AW.cond rfl (fun hb_4=>?_) (fun hb_4=>?_)
 ·have h:=ifT hb_4 h
  refine Sa (sT [(2,.d (.nilSl)),(3,jI r0_9)] [] 1 0) ?_
  obtain rfl:=Option.some.inj h
  exact AW.ret (hR_0 _ (retX (.cons (.tmp rfl) (.cons (.tmp rfl) .nil)) (Frz.tup_of ⟨.nil 1,.refl _,trivial⟩) rfl (by kernel_rfl) (by kernel_rfl)))
 ·have h:=ifF hb_4 h
  refine AW.skip (hK_1 _ ?_)
  refine Sa (sT [pR 1 0,(5,.d (.nilSl))] [(0,.var 25 (cv25 x))] 1 0) ?_
  refine Sa (sT [pR 1 0,(5,.d (.nilSl)),(6,.d (.bool false))] [(0,.var 25 (cv25 x))] 1 0) ?_
  refine AW.seqK fun K_5 hK_5=>AW.srwK fun Q_6 hQ_6=>?_
  refine Au 2 (sT [pR 1 0,(5,.d (.nilSl)),(6,.d (.bool false)),(18,.d (.sl 3 (List.map e69 x.Horses)))] [(0,.var 25 (cv25 x))] 1 0) ?_
  refine rL rfl ?_
  obtain ⟨_,hv_7,h⟩:=bsome h
  refine RW.one fokW (r_sh trivial rfl rfl (shl64_ok (of_decide_eq_true (must_ok hv_7))) (r_end ?_))
  refine Au 1 (sT [pR 1 0,(5,.d (.nilSl)),(6,.d (.bool false)),(20,jI (shl64 1 (x.Horses.length:Int))),(21,jI 0)] [(0,.var 25 (cv25 x))] 1 0) ?_
  refine RW.nil (hQ_6 _ ?_)
  refine AW.block ?_
  obtain ⟨_,hN_8,h⟩:=bsome h
  have hN_8:=of_decide_eq_true (must_ok hN_8)
  obtain ⟨out_8,hx_8,h⟩:=bsome h
  refine AW.lpSK (fun (v1:Int) (⟨best1,found1⟩:(List Int)×Bool)=>(sT [pR 1 0,(5,.d (q1 best1)),(6,.d (.bool found1)),(20,jI (shl64 1 (x.Horses.length:Int))),(21,jI v1)] [(0,.var 25 (cv25 x))] 1 0)) (g29_8 x) ((shl64 1 (x.Horses.length:Int))) hx_8 (Can.trans (Can.wkE 5 1 rfl) (Can.kp (by kernel_rfl))) (fun v1 s_8 hi_8 hl_8 c_8 h K_8 hK_8=>?_) (fun v1 s_8 hi_8 hl_8 hout=>?_)
  ·obtain ⟨best1,found1⟩:=s_8
   unfold g29_8 at h
   refine Sa (sT [pR 1 0,(5,.d (q1 best1)),(6,.d (.bool found1)),(20,jI (shl64 1 (x.Horses.length:Int))),(21,jI v1),(22,.d (.bool (decide (v1<(shl64 1 (x.Horses.length:Int))))))] [(0,.var 25 (cv25 x))] 1 0) ?_
   refine AW.seqK (fun K_9 hK_9=>?_)
   refine AW.cond rfl (fun hb_10=>?_) (fun hb_10=>False.elim (by have:=of_decide_eq_false hb_10;omega))
   refine AW.skip (hK_9 _ ?_)
   refine AW.seqK (fun K_11 hK_11=>?_)
   refine AW.block ?_
   refine Sa (sT [pR 1 0,(5,.d (q1 best1)),(6,.d (.bool found1)),(7,jI v1),(20,jI (shl64 1 (x.Horses.length:Int))),(21,jI v1)] [(0,.var 25 (cv25 x))] 1 0) ?_
   refine Sa (sT [pR 1 0,(5,.d (q1 best1)),(6,.d (.bool found1)),(7,jI v1),pR 8 1,(20,jI (shl64 1 (x.Horses.length:Int))),(21,jI v1)] [(1,.var 25 (cv25 x)),(0,.var 25 (cv25 x))] 2 0) ?_
   refine Sa (sT [pR 1 0,(5,.d (q1 best1)),(6,.d (.bool found1)),(7,jI v1),pR 8 1,(20,jI (shl64 1 (x.Horses.length:Int))),(21,jI v1)] (y27 x) 2 0) ?_
   refine Sa (sT [pR 1 0,(5,.d (q1 best1)),(6,.d (.bool found1)),(7,jI v1),pR 8 1,(9,.d (.nilSl)),(20,jI (shl64 1 (x.Horses.length:Int))),(21,jI v1)] (y27 x) 2 0) ?_
   refine AW.seqK fun K_12 hK_12=>AW.srwK fun Q_13 hQ_13=>?_
   refine Au 2 (sT [pR 1 0,(5,.d (q1 best1)),(6,.d (.bool found1)),(7,jI v1),pR 8 1,(9,.d (.nilSl)),(20,jI (shl64 1 (x.Horses.length:Int))),(21,jI v1),(27,.d (.sl 3 (List.map e69 x.Horses)))] (y27 x) 2 0) ?_
   refine rL rfl ?_
   refine Au 1 (sT [pR 1 0,(5,.d (q1 best1)),(6,.d (.bool found1)),(7,jI v1),pR 8 1,(9,.d (.nilSl)),(20,jI (shl64 1 (x.Horses.length:Int))),(21,jI v1),(27,.d (.sl 3 (List.map e69 x.Horses))),(28,jI (x.Horses.length:Int)),(29,jI 0)] (y27 x) 2 0) ?_
   refine RW.nil (hQ_13 _ ?_)
   refine AW.block ?_
   refine AW.sln (t:=27) rfl (fun hN_14=>?_)
   rw [List.length_map] at hN_14
   obtain ⟨out_14,hx_14,h⟩:=bsome h
   refine AW.evSK (fun (v2:Int) (⟨l,l1⟩:(List Int)×(List HairHorse))=>(sT [pR 1 0,(5,.d (q1 best1)),(6,.d (.bool found1)),(7,jI v1),pR 8 1,(9,.own 2 (List.map e3 l).length),(20,jI (shl64 1 (x.Horses.length:Int))),(21,jI v1),(27,.d (.sl 3 (List.map e69 x.Horses))),(28,jI (x.Horses.length:Int)),(29,jI v2)] (y28 x l1 l) 4 0)) (g29_14 v1) hx_14 (Can.trans (Can.thawT 9 3 1 rfl rfl) (Can.trans (Can.thawH 1 1 25 69 3 rfl rfl rfl) (Can.kp (by kernel_rfl)))) (fun v2 p s_14 hi_14 hl_14 hp_14 c_14 h K_14 hK_14=>?_) (fun v2 s_14 hi_14 hl_14 hout=>?_)
   ·obtain ⟨l,l1⟩:=s_14
    unfold g29_14 at h
    refine Sa (sT [pR 1 0,(5,.d (q1 best1)),(6,.d (.bool found1)),(7,jI v1),pR 8 1,(9,.own 2 (List.map e3 l).length),(20,jI (shl64 1 (x.Horses.length:Int))),(21,jI v1),(27,.d (.sl 3 (List.map e69 x.Horses))),(28,jI (x.Horses.length:Int)),(29,jI v2),(30,.d (.bool (decide (v2<(x.Horses.length:Int)))))] (y28 x l1 l) 4 0) ?_
    refine AW.seqK (fun K_15 hK_15=>?_)
    refine AW.cond rfl (fun hb_16=>?_) (fun hb_16=>False.elim (by have:=of_decide_eq_false hb_16;omega))
    refine AW.skip (hK_15 _ ?_)
    refine AW.seqK (fun K_17 hK_17=>?_)
    refine AW.block ?_
    refine AW.srwK (fun Q_18 hQ_18=>?_)
    refine Au 1 (sT [pR 1 0,(5,.d (q1 best1)),(6,.d (.bool found1)),(7,jI v1),pR 8 1,(9,.own 2 (List.map e3 l).length),(20,jI (shl64 1 (x.Horses.length:Int))),(21,jI v1),(27,.d (.sl 3 (List.map e69 x.Horses))),(28,jI (x.Horses.length:Int)),(29,jI v2),(31,jI v2)] (y28 x l1 l) 4 0) ?_
    refine RW.one fokW (r_iaD trivial rfl rfl hi_14 (row:=e69 p) (mapget hp_14) (r_end ?_))
    refine Au 4 (sT [pR 1 0,(5,.d (q1 best1)),(6,.d (.bool found1)),(7,jI v1),pR 8 1,(9,.own 2 (List.map e3 l).length),(10,jI v2),pR 11 4,(20,jI (shl64 1 (x.Horses.length:Int))),(21,jI v1),(27,.d (.sl 3 (List.map e69 x.Horses))),(28,jI (x.Horses.length:Int)),(29,jI v2)] [(4,.var 69 [jI p.Mane,jI p.Tail,jI p.Shade]),(1,.var 25 [.d (.sl 4 (List.map e58 x.Hanks)),.own 3 (List.map e69 l1).length,jI x.Dark,jI x.Near,jI x.Match]),(3,.row 69 3 (List.map e69 l1)),(2,.row 3 1 (List.map e3 l)),(0,.var 25 (cv25 x))] 5 0) ?_
    refine RW.nil (hQ_18 _ ?_)
    refine AW.srwK (fun Q_19 hQ_19=>?_)
    refine Au 2 (sT [pR 1 0,(5,.d (q1 best1)),(6,.d (.bool found1)),(7,jI v1),pR 8 1,(9,.own 2 (List.map e3 l).length),(10,jI v2),pR 11 4,(20,jI (shl64 1 (x.Horses.length:Int))),(21,jI v1),(27,.d (.sl 3 (List.map e69 x.Horses))),(28,jI (x.Horses.length:Int)),(29,jI v2),(34,jI v1),(35,jI v2)] [(4,.var 69 [jI p.Mane,jI p.Tail,jI p.Shade]),(1,.var 25 [.d (.sl 4 (List.map e58 x.Hanks)),.own 3 (List.map e69 l1).length,jI x.Dark,jI x.Near,jI x.Match]),(3,.row 69 3 (List.map e69 l1)),(2,.row 3 1 (List.map e3 l)),(0,.var 25 (cv25 x))] 5 0) ?_
    obtain ⟨_,hv_20,h⟩:=bsome h
    refine RW.one fokW (r_sh trivial rfl rfl (shr64_ok (of_decide_eq_true (must_ok hv_20))) (r_end ?_))
    refine Au 2 (sT [pR 1 0,(5,.d (q1 best1)),(6,.d (.bool found1)),(7,jI v1),pR 8 1,(9,.own 2 (List.map e3 l).length),(10,jI v2),pR 11 4,(20,jI (shl64 1 (x.Horses.length:Int))),(21,jI v1),(27,.d (.sl 3 (List.map e69 x.Horses))),(28,jI (x.Horses.length:Int)),(29,jI v2),(38,.d (.bool (decide ((bAnd (shr64 v1 v2) 1)=1))))] [(4,.var 69 [jI p.Mane,jI p.Tail,jI p.Shade]),(1,.var 25 [.d (.sl 4 (List.map e58 x.Hanks)),.own 3 (List.map e69 l1).length,jI x.Dark,jI x.Near,jI x.Match]),(3,.row 69 3 (List.map e69 l1)),(2,.row 3 1 (List.map e3 l)),(0,.var 25 (cv25 x))] 5 0) ?_
    refine RW.nil (hQ_19 _ ?_)
    refine AW.cond rfl (fun hb_21=>?_) (fun hb_21=>?_)
    ·have h:=ifT hb_21 h
     refine AW.rw ?_
     refine Au 3 (sT [pR 1 0,(5,.d (q1 best1)),(6,.d (.bool found1)),(7,jI v1),pR 8 1,(20,jI (shl64 1 (x.Horses.length:Int))),(21,jI v1),(27,.d (.sl 3 (List.map e69 x.Horses))),(28,jI (x.Horses.length:Int)),(29,jI v2),(39,.own 2 (List.map e3 l).length),(41,.own 5 (List.map e3 [v2]).length)] [(5,.row 3 1 (List.map e3 [v2])),(1,.var 25 [.d (.sl 4 (List.map e58 x.Hanks)),.own 3 (List.map e69 l1).length,jI x.Dark,jI x.Near,jI x.Match]),(3,.row 69 3 (List.map e69 l1)),(2,.row 3 1 (List.map e3 l)),(0,.var 25 (cv25 x))] 6 0) ?_
     obtain ⟨l2,hv_23,h⟩:=bsome h
     refine RW.one fokW (r_apO trivial rfl rfl rfl rfl rfl rfl (apz hv_23 e3) (apr hv_23 e3) (r_end ?_))
     refine Au 1 (sT [pR 1 0,(5,.d (q1 best1)),(6,.d (.bool found1)),(7,jI v1),pR 8 1,(9,.own 2 (List.map e3 l2).length),(20,jI (shl64 1 (x.Horses.length:Int))),(21,jI v1),(27,.d (.sl 3 (List.map e69 x.Horses))),(28,jI (x.Horses.length:Int)),(29,jI v2)] (y29 l2 x l1) 6 0) ?_
     refine RW.nil ?_
     refine hK_17 _ ?_
     refine Ra (sT [pR 1 0,(5,.d (q1 best1)),(6,.d (.bool found1)),(7,jI v1),pR 8 1,(9,.own 2 (List.map e3 l2).length),(20,jI (shl64 1 (x.Horses.length:Int))),(21,jI v1),(27,.d (.sl 3 (List.map e69 x.Horses))),(28,jI (x.Horses.length:Int)),(29,jI (wr (v2+1)))] (y29 l2 x l1) 6 0) ?_
     obtain rfl:=Option.some.inj h
     have ew:wr (v2+1)=v2+1:=inext (N:=(x.Horses.length:Int)) (by omega) (by omega) (by omega)
     rw [ew]
     exact hK_14 _ (Can.kp (by kernel_rfl))
    ·have h:=ifF hb_21 h
     refine AW.rw ?_
     refine Au 4 (sT [pR 1 0,(5,.d (q1 best1)),(6,.d (.bool found1)),(7,jI v1),pR 8 1,(9,.own 2 (List.map e3 l).length),(20,jI (shl64 1 (x.Horses.length:Int))),(21,jI v1),(27,.d (.sl 3 (List.map e69 x.Horses))),(28,jI (x.Horses.length:Int)),(29,jI v2),(44,.own 3 (List.map e69 l1).length),(46,.own 5 (List.map e69 [p]).length)] [(5,.row 69 3 (List.map e69 [p])),(1,.var 25 [.d (.sl 4 (List.map e58 x.Hanks)),.own 3 (List.map e69 l1).length,jI x.Dark,jI x.Near,jI x.Match]),(3,.row 69 3 (List.map e69 l1)),(2,.row 3 1 (List.map e3 l)),(0,.var 25 (cv25 x))] 6 0) ?_
     obtain ⟨l3,hv_25,h⟩:=bsome h
     refine RW.one fokW (r_apO trivial rfl rfl rfl rfl rfl rfl (apz hv_25 e69) (apr hv_25 e69) (r_end ?_))
     refine Au 2 (sT [pR 1 0,(5,.d (q1 best1)),(6,.d (.bool found1)),(7,jI v1),pR 8 1,(9,.own 2 (List.map e3 l).length),(20,jI (shl64 1 (x.Horses.length:Int))),(21,jI v1),(27,.d (.sl 3 (List.map e69 x.Horses))),(28,jI (x.Horses.length:Int)),(29,jI v2)] (y30 x l3 l) 6 0) ?_
     refine RW.nil ?_
     refine hK_17 _ ?_
     refine Ra (sT [pR 1 0,(5,.d (q1 best1)),(6,.d (.bool found1)),(7,jI v1),pR 8 1,(9,.own 2 (List.map e3 l).length),(20,jI (shl64 1 (x.Horses.length:Int))),(21,jI v1),(27,.d (.sl 3 (List.map e69 x.Horses))),(28,jI (x.Horses.length:Int)),(29,jI (wr (v2+1)))] (y30 x l3 l) 6 0) ?_
     obtain rfl:=Option.some.inj h
     have ew:wr (v2+1)=v2+1:=inext (N:=(x.Horses.length:Int)) (by omega) (by omega) (by omega)
     rw [ew]
     exact hK_14 _ (Can.kp (by kernel_rfl))
   ·obtain ⟨l,l1⟩:=s_14
    subst hout
    refine Sa (sT [pR 1 0,(5,.d (q1 best1)),(6,.d (.bool found1)),(7,jI v1),pR 8 1,(9,.own 2 (List.map e3 l).length),(20,jI (shl64 1 (x.Horses.length:Int))),(21,jI v1),(27,.d (.sl 3 (List.map e69 x.Horses))),(28,jI (x.Horses.length:Int)),(29,jI v2),(30,.d (.bool (decide (v2<(x.Horses.length:Int)))))] (y28 x l1 l) 4 0) ?_
    refine AW.seqK (fun K_26 hK_26=>?_)
    refine AW.cond rfl (fun hb_27=>False.elim (by have:=of_decide_eq_true hb_27;omega)) (fun hb_27=>?_)
    refine AW.exit ?_
    refine hK_12 _ ?_
    refine AW.seqK fun K_28 hK_28=>AW.srwK fun Q_29 hQ_29=>?_
    refine Au 2 (sT [pR 1 0,(5,.d (q1 best1)),(6,.d (.bool found1)),pR 8 1,(9,.own 2 (List.map e3 l).length),(20,jI (shl64 1 (x.Horses.length:Int))),(21,jI v1),(51,.d (.bool found1))] (y28 x l1 l) 4 0) ?_
    obtain ⟨v3,hx_30,h⟩:=bsome h
    refine RW.cut fokW 19 ((sT [pR 1 0,(5,.d (q1 best1)),(6,.d (.bool found1)),pR 8 1,(9,.own 2 (List.map e3 l).length),(20,jI (shl64 1 (x.Horses.length:Int))),(21,jI v1),(70,.d (.bool v3))] (y28 x l1 l) 4 0)) ?_ ?_
    ·refine r_split 51 rfl (fun hb_34=>?_) (fun hb_34=>?_)
     ·have h:=ifT hb_34 hx_30
      refine aX 1 (sT [pR 1 0,(5,.d (q1 best1)),(6,.d (.bool found1)),pR 8 1,(9,.own 2 (List.map e3 l).length),(20,jI (shl64 1 (x.Horses.length:Int))),(21,jI v1),(51,.d (.bool true)),(52,.own 2 (List.map e3 l).length)] (y28 x l1 l) 4 0) ?_
      refine r_lenY rfl rfl lenm ?_
      refine aX 1 (sT [pR 1 0,(5,.d (q1 best1)),(6,.d (.bool found1)),pR 8 1,(9,.own 2 (List.map e3 l).length),(20,jI (shl64 1 (x.Horses.length:Int))),(21,jI v1),(51,.d (.bool true)),(53,jI (l.length:Int)),(54,.d (q1 best1))] (y28 x l1 l) 4 0) ?_
      refine r_lenX rfl rfl lenm ?_
      refine aX 2 (sT [pR 1 0,(5,.d (q1 best1)),(6,.d (.bool found1)),pR 8 1,(9,.own 2 (List.map e3 l).length),(20,jI (shl64 1 (x.Horses.length:Int))),(21,jI v1),(51,.d (.bool true)),(57,.d (.bool (decide ((best1.length:Int)<(l.length:Int)))))] (y28 x l1 l) 4 0) ?_
      refine r_split 57 rfl (fun hb_31=>?_) (fun hb_31=>?_)
      ·have h:=ifT hb_31 h
       refine aX 13 (sT [pR 1 0,(5,.d (q1 best1)),(6,.d (.bool found1)),pR 8 1,(9,.own 2 (List.map e3 l).length),(20,jI (shl64 1 (x.Horses.length:Int))),(21,jI v1),(70,.d (.bool true))] (y28 x l1 l) 4 0) ?_
       obtain rfl:=Option.some.inj h
       refine RunC.finJ (Can.kp (by kernel_rfl))
      ·have h:=ifF hb_31 h
       refine aX 1 (sT [pR 1 0,(5,.d (q1 best1)),(6,.d (.bool found1)),pR 8 1,(9,.own 2 (List.map e3 l).length),(20,jI (shl64 1 (x.Horses.length:Int))),(21,jI v1),(51,.d (.bool true)),(57,.d (.bool false)),(58,.own 2 (List.map e3 l).length)] (y28 x l1 l) 4 0) ?_
       refine r_lenY rfl rfl lenm ?_
       refine aX 1 (sT [pR 1 0,(5,.d (q1 best1)),(6,.d (.bool found1)),pR 8 1,(9,.own 2 (List.map e3 l).length),(20,jI (shl64 1 (x.Horses.length:Int))),(21,jI v1),(51,.d (.bool true)),(57,.d (.bool false)),(59,jI (l.length:Int)),(60,.d (q1 best1))] (y28 x l1 l) 4 0) ?_
       refine r_lenX rfl rfl lenm ?_
       refine aX 2 (sT [pR 1 0,(5,.d (q1 best1)),(6,.d (.bool found1)),pR 8 1,(9,.own 2 (List.map e3 l).length),(20,jI (shl64 1 (x.Horses.length:Int))),(21,jI v1),(51,.d (.bool true)),(57,.d (.bool false)),(63,.d (.bool (decide ((l.length:Int)=(best1.length:Int)))))] (y28 x l1 l) 4 0) ?_
       refine r_split 63 rfl (fun hb_32=>?_) (fun hb_32=>?_)
       ·have h:=ifT hb_32 h
        refine aX 2 (sT [pR 1 0,(5,.d (q1 best1)),(6,.d (.bool found1)),pR 8 1,(9,.own 2 (List.map e3 l).length),(20,jI (shl64 1 (x.Horses.length:Int))),(21,jI v1),(51,.d (.bool true)),(57,.d (.bool false)),(63,.d (.bool true)),(64,.own 2 (List.map e3 l).length),(65,.d (q1 best1))] (y28 x l1 l) 4 0) ?_
        obtain ⟨r0_3,hx_33,h⟩:=bsome h
        refine r_callF (rs:=[(2,.row 3 1 (List.map e3 l))]) rfl rfl (k83 l best1 _ hx_33) ⟨rfl,trivial⟩ ⟨(.own rfl rfl),.refl _,trivial⟩ rfl rfl rfl ?_
        refine aX 4 (sT [pR 1 0,(5,.d (q1 best1)),(6,.d (.bool found1)),pR 8 1,(9,.own 2 (List.map e3 l).length),(20,jI (shl64 1 (x.Horses.length:Int))),(21,jI v1),(70,.d (.bool (decide (0≤r0_3))))] (y28 x l1 l) 4 0) ?_
        obtain rfl:=Option.some.inj h
        refine RunC.finJ (Can.kp (by kernel_rfl))
       ·have h:=ifF hb_32 h
        refine aX 7 (sT [pR 1 0,(5,.d (q1 best1)),(6,.d (.bool found1)),pR 8 1,(9,.own 2 (List.map e3 l).length),(20,jI (shl64 1 (x.Horses.length:Int))),(21,jI v1),(70,.d (.bool false))] (y28 x l1 l) 4 0) ?_
        obtain rfl:=Option.some.inj h
        refine RunC.finJ (Can.kp (by kernel_rfl))
     ·have h:=ifF hb_34 hx_30
      refine aX 19 (sT [pR 1 0,(5,.d (q1 best1)),(6,.d (.bool found1)),pR 8 1,(9,.own 2 (List.map e3 l).length),(20,jI (shl64 1 (x.Horses.length:Int))),(21,jI v1),(70,.d (.bool false))] (y28 x l1 l) 4 0) ?_
      obtain rfl:=Option.some.inj h
      refine RunC.finJ (Can.kp (by kernel_rfl))
    ·refine RW.nil (hQ_29 _ ?_)
     refine AW.cond rfl (fun hb_35=>?_) (fun hb_35=>?_)
     ·have h:=ifT hb_35 h
      refine AW.exit ?_
      refine hK_11 _ ?_
      refine Ra (sT [pR 1 0,(5,.d (q1 best1)),(6,.d (.bool found1)),(20,jI (shl64 1 (x.Horses.length:Int))),(21,jI (wr (v1+1)))] [(0,.var 25 (cv25 x))] 4 0) ?_
      obtain rfl:=Option.some.inj h
      have ew:wr (v1+1)=v1+1:=inext (N:=(shl64 1 (x.Horses.length:Int))) (by omega) (by omega) (by omega)
      rw [ew]
      exact hK_8 _ (Can.kp (by kernel_rfl))
     ·have h:=ifF hb_35 h
      refine AW.skip (hK_28 _ ?_)
      refine AW.srwK (fun Q_36 hQ_36=>?_)
      refine Au 1 (sT [pR 1 0,(5,.d (q1 best1)),(6,.d (.bool found1)),(9,.own 2 (List.map e3 l).length),(20,jI (shl64 1 (x.Horses.length:Int))),(21,jI v1),(71,.agg [.d (.sl 4 (List.map e58 x.Hanks)),.own 3 (List.map e69 l1).length,jI x.Dark,jI x.Near,jI x.Match])] [(3,.row 69 3 (List.map e69 l1)),(2,.row 3 1 (List.map e3 l)),(0,.var 25 (cv25 x))] 4 0) ?_
      obtain ⟨⟨r0_B,mf⟩,hx_37,h⟩:=bsome h
      refine RW.one fokW (r_callZ (zr:=[(3,.row 69 3 (List.map e69 l1))]) trivial rfl (k80 (HairBook.mk x.Hanks l1 x.Dark x.Near x.Match) _ hx_37) ⟨rfl,trivial⟩ ⟨(Frz.agg_of ⟨.refl _,(.own rfl rfl),.refl _,.refl _,.refl _,trivial⟩),trivial⟩ rfl rfl rfl rfl (r_end ?_))
      obtain ⟨r0_1,hx_38,h⟩:=bsome h
      refine rC (k84 r0_B mf _ hx_38) ?_
      refine RW.nil (hQ_36 _ ?_)
      refine AW.cond rfl (fun hb_39=>?_) (fun hb_39=>?_)
      ·have h:=ifT hb_39 h
       refine Ra (sT [pR 1 0,(5,.own 2 (List.map e3 l).length),(6,.d (.bool true)),(20,jI (shl64 1 (x.Horses.length:Int))),(21,jI v1)] [(2,.row 3 1 (List.map e3 l)),(0,.var 25 (cv25 x))] 4 0) ?_
       refine hK_11 _ ?_
       refine Ra (sT [pR 1 0,(5,.own 2 (List.map e3 l).length),(6,.d (.bool true)),(20,jI (shl64 1 (x.Horses.length:Int))),(21,jI (wr (v1+1)))] [(2,.row 3 1 (List.map e3 l)),(0,.var 25 (cv25 x))] 4 0) ?_
       obtain rfl:=Option.some.inj h
       have ew:wr (v1+1)=v1+1:=inext (N:=(shl64 1 (x.Horses.length:Int))) (by omega) (by omega) (by omega)
       rw [ew]
       exact hK_8 _ (Can.trans (Can.fzE 5 2 rfl rfl rfl) (Can.kp (by kernel_rfl)))
      ·have h:=ifF hb_39 h
       refine AW.skip (hK_11 _ ?_)
       refine Ra (sT [pR 1 0,(5,.d (q1 best1)),(6,.d (.bool found1)),(20,jI (shl64 1 (x.Horses.length:Int))),(21,jI (wr (v1+1)))] [(0,.var 25 (cv25 x))] 4 0) ?_
       obtain rfl:=Option.some.inj h
       have ew:wr (v1+1)=v1+1:=inext (N:=(shl64 1 (x.Horses.length:Int))) (by omega) (by omega) (by omega)
       rw [ew]
       exact hK_8 _ (Can.kp (by kernel_rfl))
  ·obtain ⟨best1,found1⟩:=s_8
   subst hout
   refine Sa (sT [pR 1 0,(5,.d (q1 best1)),(6,.d (.bool found1)),(20,jI (shl64 1 (x.Horses.length:Int))),(21,jI v1),(22,.d (.bool (decide (v1<(shl64 1 (x.Horses.length:Int))))))] [(0,.var 25 (cv25 x))] 1 0) ?_
   refine AW.seqK (fun K_40 hK_40=>?_)
   refine AW.cond rfl (fun hb_41=>False.elim (by have:=of_decide_eq_true hb_41;omega)) (fun hb_41=>?_)
   refine AW.exit ?_
   refine hK_5 _ ?_
   refine AW.srwK (fun Q_42 hQ_42=>?_)
   refine Au 2 (sT [(5,.d (q1 best1)),(76,.d (q1 best1)),(77,.d (q1 best1))] [] 1 0) ?_
   refine rL rfl ?_
   refine Au 1 (sT [(76,.d (q1 best1)),(78,jI (best1.length:Int)),(79,.d (q1 best1))] [] 1 0) ?_
   refine rL rfl ?_
   obtain ⟨l4,hv_43,h⟩:=bsome h
   refine RW.one fokW (r_slN trivial rfl rfl rfl DSl.d (slcL_ok hv_43).2.1 (by rw [List.length_map];exact (slcL_ok hv_43).2.2.1) rfl (slz hv_43 e3) (r_end ?_))
   refine Au 2 (sT [(2,.fsl 1 (List.map e3 l4)),(3,jI 0)] [] 1 0) ?_
   refine RW.nil (hQ_42 _ ?_)
   obtain rfl:=Option.some.inj h
   exact AW.ret (hR_0 _ (retX (.cons (.tmp rfl) (.cons (.tmp rfl) .nil)) (Frz.tup_of ⟨.fsl _ _,.refl _,trivial⟩) rfl (by kernel_rfl) (by kernel_rfl)))
def g87 (_B:HairBook) (mf:List (Hair_dye×Span)) (o0:Int):Option Bool:=(g57 o0 0 20).bind fun r0=>some r0
theorem k87 (_B:HairBook) (mf:List (Hair_dye×Span)) (o0:Int) (r:Bool) (h:g87 _B mf o0=some r):SCall Tryd.prog Gs 87 [.agg (hbm _B mf),.ptr 0 0] [(0,.var 3 [jI o0])] 1 Fr.emp (.d (.bool r)) [(0,.var 3 [jI o0])] 1 Fr.emp:=by
 unfold g87 at h
 refine SCall.mkK Tryd.func87 c87 rfl rfl (by kernel_rfl) (fun Q_0 hR_0 hN_0=>?_)
 refine Sa (sT [pR 1 0] [(0,.var 3 [jI o0])] 2 1) ?_
 refine AW.srwK (fun Q_1 hQ_1=>?_)
 refine Au 1 (sT [(4,jI o0)] [(0,.var 3 [jI o0])] 2 1) ?_
 obtain ⟨r0,hx_2,h⟩:=bsome h
 refine rC (k57 o0 0 20 _ hx_2) ?_
 refine Au 1 (sT [(3,.d (.bool r0))] [(0,.var 3 [jI o0])] 2 1) ?_
 refine RW.nil (hQ_1 _ ?_)
 obtain rfl:=Option.some.inj h
 exact rT hR_0 (.cons (.tmp rfl) .nil)
end Go.Proofs.Th
namespace Go.Proofs.Th
open Go Go.Abs Go.Proofs
def g55d (x:HairBook) (o0:Int):Option (Ctl (HairBook×Int) (HairBook×(List (Hair_dye×Span))×Int)):=(g17 x).bind fun r0_9=>bif (decide (r0_9≠0)) then (some (.next ((HairBook.mk [] [] 0 0 0),r0_9))) else ((g80 x).bind fun (r0_B,mf)=>(g87 r0_B mf o0).bind fun r0_1=>bif (!r0_1) then (some (.brk (r0_B,mf,61))) else (some (.brk (r0_B,mf,0))))
def y31 (x:HairBook) (o0:Int):List (Nat×Blk):=[(2,.var 78 [.d (.nilSl),.d (.nilSl),jI 0,jI 0,jI 0,.d (.nilMap)]),(1,.var 25 (cv25 x)),(0,.var 3 [jI o0])]
def y32 (o0:Int):List (Nat×Blk):=[(2,.var 78 [.d (.nilSl),.d (.nilSl),jI 0,jI 0,jI 0,.d (.nilMap)]),(0,.var 3 [jI o0])]
theorem k55d (x:HairBook) (o0:Int) (r:Ctl (HairBook×Int) (HairBook×(List (Hair_dye×Span))×Int)) (h:g55d x o0=some r):SCall Tryd.prog Gs 55 [.agg (cv25 x),.clo 87 [] [.ptr 0 0]] [(0,.var 3 [jI o0])] 1 Fr.emp (match r with | .next (r0_B4,r1_1)=>.tup [.agg [.d (.sl 4 (List.map e58 r0_B4.Hanks)),.d (.sl 3 (List.map e69 r0_B4.Horses)),jI r0_B4.Dark,jI r0_B4.Near,jI r0_B4.Match,.d (.nilMap)],jI r1_1] | .brk (r0_B5,mf2,r1_2)=>.tup [.agg (hbm r0_B5 mf2),jI r1_2]) (match r with | .next (r0_B4,r1_1)=>[(0,.var 3 [jI o0])] | .brk (r0_B5,mf2,r1_2)=>[(0,.var 3 [jI o0])]) 1 Fr.emp:=by
 unfold g55d at h
 refine SCall.mkK Tryd.func55 c55 rfl (by rcases r with _ | _<;>rfl) (by rcases r with _ | _<;>kernel_rfl) (fun Q_0 hR_0 hN_0=>?_)
 refine Sa (sT [(1,.clo 87 [] [.ptr 0 0]),pR 2 1,pR 4 2] (y31 x o0) 3 1) ?_
 refine AW.seqK fun K_1 hK_1=>AW.srwK fun Q_2 hQ_2=>?_
 refine Au 1 (sT [(1,.clo 87 [] [.ptr 0 0]),pR 2 1,pR 4 2,(8,.agg (cv25 x))] (y31 x o0) 3 1) ?_
 obtain ⟨r0_9,hx_3,h⟩:=bsome h
 refine rC (k17 x _ hx_3) ?_
 refine Au 1 (sT [(1,.clo 87 [] [.ptr 0 0]),pR 2 1,pR 4 2,(6,jI r0_9)] (y31 x o0) 3 1) ?_
 refine RW.nil (hQ_2 _ ?_)
 refine Sa (sT [(1,.clo 87 [] [.ptr 0 0]),pR 2 1,pR 4 2,(6,jI r0_9),(11,.d (.bool (decide (r0_9≠0))))] (y31 x o0) 3 1) ?_
 refine AW.cond rfl (fun hb_4=>?_) (fun hb_4=>?_)
 ·have h:=ifT hb_4 h
  refine Sa (sT [pR 4 2,(5,jI r0_9)] (y32 o0) 3 1) ?_
  obtain rfl:=Option.some.inj h
  exact AW.ret (hR_0 _ (retX (.cons (.agg rfl rfl (Nat.le_of_ble_eq_true rfl)) (.cons (.tmp rfl) .nil)) (Frz.tup_of ⟨Frz.agg_of ⟨(.nil 4),(.nil 3),.refl _,.refl _,.refl _,.refl _,trivial⟩,.refl _,trivial⟩) rfl (by kernel_rfl) (by kernel_rfl)))
 ·have h:=ifF hb_4 h
  refine AW.skip (hK_1 _ ?_)
  refine AW.srwK (fun Q_5 hQ_5=>?_)
  refine Au 1 (sT [(1,.clo 87 [] [.ptr 0 0]),pR 4 2,(14,.agg (cv25 x))] (y32 o0) 3 1) ?_
  obtain ⟨⟨r0_B,mf⟩,hx_6,h⟩:=bsome h
  refine rC (k80 x _ hx_6) ?_
  refine Au 2 (sT [(1,.clo 87 [] [.ptr 0 0]),pR 4 2,pR 7 3] [(3,.var 78 (hbm r0_B mf)),(2,.var 78 [.d (.nilSl),.d (.nilSl),jI 0,jI 0,jI 0,.d (.nilMap)]),(0,.var 3 [jI o0])] 4 1) ?_
  refine RW.nil (hQ_5 _ ?_)
  refine AW.seqK fun K_7 hK_7=>AW.srwK fun Q_8 hQ_8=>?_
  refine Au 2 (sT [pR 4 2,pR 7 3,(16,.clo 87 [] [.ptr 0 0]),(17,.agg (hbm r0_B mf))] [(3,.var 78 (hbm r0_B mf)),(2,.var 78 [.d (.nilSl),.d (.nilSl),jI 0,jI 0,jI 0,.d (.nilMap)]),(0,.var 3 [jI o0])] 4 1) ?_
  obtain ⟨r0_1,hx_9,h⟩:=bsome h
  refine RW.one fokW (r_callvE (zr:=[]) [0] trivial rfl (.clo _ _ _) (by kernel_rfl) rfl (k87 r0_B mf o0 _ hx_9) ⟨rfl,trivial⟩ rfl rfl ⟨.refl _,.refl _,trivial⟩ rfl rfl rfl (r_end ?_))
  refine Au 1 (sT [pR 4 2,pR 7 3,(19,.d (.bool (!r0_1)))] [(0,.var 3 [jI o0]),(3,.var 78 (hbm r0_B mf)),(2,.var 78 [.d (.nilSl),.d (.nilSl),jI 0,jI 0,jI 0,.d (.nilMap)])] 4 1) ?_
  refine RW.nil (hQ_8 _ ?_)
  refine AW.cond rfl (fun hb_10=>?_) (fun hb_10=>?_)
  ·have h:=ifT hb_10 h
   refine Sa (sT [pR 4 2,(5,jI 61)] [(2,.var 78 (hbm r0_B mf)),(0,.var 3 [jI o0])] 4 1) ?_
   obtain rfl:=Option.some.inj h
   exact rT hR_0 (.cons (.agg rfl rfl (Nat.le_of_ble_eq_true rfl)) (.cons (.tmp rfl) .nil))
  ·have h:=ifF hb_10 h
   refine AW.skip (hK_7 _ ?_)
   refine Sa (sT [pR 4 2,(5,jI 0)] [(2,.var 78 (hbm r0_B mf)),(0,.var 3 [jI o0])] 4 1) ?_
   obtain rfl:=Option.some.inj h
   exact rT hR_0 (.cons (.agg rfl rfl (Nat.le_of_ble_eq_true rfl)) (.cons (.tmp rfl) .nil))
def g31_r22 (l1:List HairHank):((List Int)×(Nat→Int))→(Int)→Option (Ctl (Int) (Unit)):=fun (a,a1) v=>(ixN 5 (wr ((l1.length:Int) - 1))).bind fun j=>some (.next (min v (a1 j)))
def g31 (x:HairBook) (shade:Int):Option (Int×Int):=(g55d x shade).bind fun r_26=>match r_26 with | .next (r0_B4,r1_1)=>(must (decide (r1_1≠0))).bind fun _=>some (0,r1_1) | .brk (r0_B5,mf2,r1_2)=>bif (decide (r1_2≠0)) then (some (0,r1_2)) else ((g84 r0_B5 mf2).bind fun r0_1=>bif r0_1 then (some (0,0)) else ((slcL x.Hanks 0 (x.Hanks.length:Int)).bind fun l=>(appL 32 l [(HairHank.mk (Span.mk 60 60) (Span.mk shade shade))]).bind fun l1=>(g80 (HairBook.mk l1 x.Horses x.Dark x.Near x.Match)).bind fun (r0_B,mf)=>(g76).bind fun _=>(g88 r0_B mf r0_B mf).bind fun (o0_B,mf1)=>(g111 (fun a a1 s=>rndC (g31_r22 l1) (a,a1) s) o0_B mf1 r0_B mf (.next 61)).bind fun out_22=>match out_22 with | .next v=>bif (decide (60<v)) then (some (0,4)) else (some (v,0)) | .brk _=>none))
def y33 (shade:Int) (x:HairBook):List (Nat×Blk):=[(4,.var 35 [jI shade,jI shade]),(3,.var 35 [jI 60,jI 60]),(0,.var 25 (cv25 x))]
def y34 (l1:List HairHank) (x:HairBook):List (Nat×Blk):=[(0,.var 25 [.own 6 (List.map e58 l1).length,.d (.sl 3 (List.map e69 x.Horses)),jI x.Dark,jI x.Near,jI x.Match]),(6,.row 58 4 (List.map e58 l1))]
theorem k31 (x:HairBook) (shade:Int) (r:Int×Int) (h:g31 x shade=some r):SCall Tryd.prog Gs 31 [.agg (cv25 x),jI shade] [] 0 Fr.emp (match r with | (r0_5,r1_6)=>.tup [jI r0_5,jI r1_6]) [] 0 Fr.emp:=by
 unfold g31 at h
 refine SCall.mkK Tryd.func31 c31 rfl rfl (by kernel_rfl) (fun Q_0 hR_0 hN_0=>?_)
 refine Sa (sT [pR 2 0,pR 3 1] [(1,.var 3 [jI shade]),(0,.var 25 (cv25 x))] 2 0) ?_
 refine AW.srwK (fun Q_1 hQ_1=>?_)
 refine Au 2 (sT [pR 2 0,pR 3 1,(15,.agg (cv25 x)),(16,.clo 87 [] [.ptr 1 0])] [(1,.var 3 [jI shade]),(0,.var 25 (cv25 x))] 2 0) ?_
 obtain ⟨r_26,hx_2,h⟩:=bsome h
 rcases r_26 with (⟨r0_B4,r1_1⟩ | (⟨r0_B5,mf2,r1_2⟩))
 ·refine RW.one fokW (r_callS (zr:=[]) [1] trivial rfl (k55d x shade _ hx_2) ⟨rfl,trivial⟩ rfl rfl ⟨.refl _,.refl _,trivial⟩ rfl rfl rfl (r_end ?_))
  obtain ⟨_,hv_3,h⟩:=bsome h
  have hf_4:=must_ok hv_3
  refine Au 6 (sT [pR 2 0,pR 3 1,pR 6 2,(7,jI r1_1)] [(2,.var 78 (catV (cv25 r0_B4) [.d (.nilMap)])),(1,.var 3 [jI shade]),(0,.var 25 (cv25 x))] 3 0) ?_
  refine RW.nil (hQ_1 _ ?_)
  refine AW.seqK (fun K_5 hK_5=>?_)
  refine Sa (sT [pR 2 0,pR 3 1,pR 6 2,(7,jI r1_1),(21,.d (.bool (decide (r1_1≠0))))] [(2,.var 78 (catV (cv25 r0_B4) [.d (.nilMap)])),(1,.var 3 [jI shade]),(0,.var 25 (cv25 x))] 3 0) ?_
  refine AW.cond rfl (fun hb_6=>?_) (fun hb_6=>False.elim (by rw [hf_4] at hb_6;cases hb_6))
  refine Sa (sT [(4,jI 0),(5,jI r1_1)] [] 3 0) ?_
  obtain rfl:=Option.some.inj h
  exact rT hR_0 (.cons (.tmp rfl) (.cons (.tmp rfl) .nil))
 ·refine RW.one fokW (r_callS (zr:=[]) [1] trivial rfl (k55d x shade _ hx_2) ⟨rfl,trivial⟩ rfl rfl ⟨.refl _,.refl _,trivial⟩ rfl rfl rfl (r_end ?_))
  refine Au 6 (sT [pR 2 0,pR 3 1,pR 6 2,(7,jI r1_2)] [(2,.var 78 (hbm r0_B5 mf2)),(1,.var 3 [jI shade]),(0,.var 25 (cv25 x))] 3 0) ?_
  refine RW.nil (hQ_1 _ ?_)
  refine AW.seqK (fun K_7 hK_7=>?_)
  refine Sa (sT [pR 2 0,pR 3 1,pR 6 2,(7,jI r1_2),(21,.d (.bool (decide (r1_2≠0))))] [(2,.var 78 (hbm r0_B5 mf2)),(1,.var 3 [jI shade]),(0,.var 25 (cv25 x))] 3 0) ?_
  refine AW.cond rfl (fun hb_8=>?_) (fun hb_8=>?_)
  ·have h:=ifT hb_8 h
   refine Sa (sT [(4,jI 0),(5,jI r1_2)] [] 3 0) ?_
   obtain rfl:=Option.some.inj h
   exact rT hR_0 (.cons (.tmp rfl) (.cons (.tmp rfl) .nil))
  ·have h:=ifF hb_8 h
   refine AW.skip (hK_7 _ ?_)
   refine AW.seqK fun K_9 hK_9=>AW.srwK fun Q_10 hQ_10=>?_
   refine Au 1 (sT [pR 2 0,pR 3 1,(23,.agg (hbm r0_B5 mf2))] [(1,.var 3 [jI shade]),(0,.var 25 (cv25 x))] 3 0) ?_
   obtain ⟨r0_1,hx_11,h⟩:=bsome h
   refine rC (k84 r0_B5 mf2 _ hx_11) ?_
   refine RW.nil (hQ_10 _ ?_)
   refine AW.cond rfl (fun hb_12=>?_) (fun hb_12=>?_)
   ·have h:=ifT hb_12 h
    refine Sa (sT [(4,jI 0),(5,jI 0)] [] 3 0) ?_
    obtain rfl:=Option.some.inj h
    exact rT hR_0 (.cons (.tmp rfl) (.cons (.tmp rfl) .nil))
   ·have h:=ifF hb_12 h
    refine AW.skip (hK_9 _ ?_)
    refine Sa (sT [pR 2 0,pR 8 3,pR 9 4] (y33 shade x) 5 0) ?_
    refine AW.sdrwK fokW (fun Q_13 hQ_13=>?_)
    refine aX 4 (sT [pR 2 0,pR 8 3,pR 9 4,(30,.d (.sl 4 (List.map e58 x.Hanks))),(32,.d (.sl 4 (List.map e58 x.Hanks)))] (y33 shade x) 5 0) ?_
    refine r_lenX trivial rfl lenm ?_
    refine aX 2 (sT [pR 2 0,pR 8 3,pR 9 4,(30,.d (.sl 4 (List.map e58 x.Hanks))),(33,jI (x.Hanks.length:Int)),(35,.d (.sl 4 (List.map e58 x.Hanks)))] (y33 shade x) 5 0) ?_
    refine r_lenX trivial rfl lenm ?_
    obtain ⟨l,hv_14,h⟩:=bsome h
    refine r_slN trivial rfl rfl rfl DSl.d (slcL_ok hv_14).2.1 (by rw [List.length_map];exact (slcL_ok hv_14).2.2.1) rfl (slz hv_14 e58) ?_
    refine aX 4 (sT [pR 2 0,(37,.fsl 4 (List.map e58 l)),(41,.own 5 (List.map e58 [(HairHank.mk (Span.mk 60 60) (Span.mk shade shade))]).length)] [(5,.row 58 4 (List.map e58 [(HairHank.mk (Span.mk 60 60) (Span.mk shade shade))])),(4,.var 35 [jI shade,jI shade]),(3,.var 35 [jI 60,jI 60]),(0,.var 25 (cv25 x))] 6 0) ?_
    obtain ⟨l1,hv_15,h⟩:=bsome h
    refine r_apF trivial rfl rfl rfl rfl (by simp) (zs:=List.map e58 l1) (apz hv_15 e58) (apr hv_15 e58) ?_
    refine aX 2 (sT [pR 2 0] [(0,.var 25 [.own 6 (List.map e58 l1).length,.d (.sl 3 (List.map e69 x.Horses)),jI x.Dark,jI x.Near,jI x.Match]),(6,.row 58 4 (List.map e58 l1)),(5,.row 58 4 (List.map e58 [(HairHank.mk (Span.mk 60 60) (Span.mk shade shade))])),(4,.var 35 [jI shade,jI shade]),(3,.var 35 [jI 60,jI 60])] 7 0) ?_
    refine Fi (sT [pR 2 0] (y34 l1 x) 7 0) ?_
    refine hQ_13 _ ?_
    refine AW.srwK (fun Q_16 hQ_16=>?_)
    refine Au 1 (sT [pR 2 0,(44,.agg [.own 6 (List.map e58 l1).length,.d (.sl 3 (List.map e69 x.Horses)),jI x.Dark,jI x.Near,jI x.Match])] (y34 l1 x) 7 0) ?_
    obtain ⟨⟨r0_B,mf⟩,hx_17,h⟩:=bsome h
    refine RW.one fokW (r_callZ (zr:=[(6,.row 58 4 (List.map e58 l1))]) trivial rfl (k80 (HairBook.mk l1 x.Horses x.Dark x.Near x.Match) _ hx_17) ⟨rfl,trivial⟩ ⟨(Frz.agg_of ⟨(.own rfl rfl),.refl _,.refl _,.refl _,.refl _,trivial⟩),trivial⟩ rfl rfl rfl rfl (r_end ?_))
    refine Au 4 (sT [pR 2 0,pR 10 7,pR 11 8] [(8,.var 3 [jI 61]),(7,.var 78 (hbm r0_B mf)),(6,.dead),(0,.var 25 [.own 6 (List.map e58 l1).length,.d (.sl 3 (List.map e69 x.Horses)),jI x.Dark,jI x.Near,jI x.Match])] 9 0) ?_
    refine RW.nil (hQ_16 _ ?_)
    refine AW.seqK (fun K_18 hK_18=>?_)
    refine AW.sdrwK fokW (fun Q_19 hQ_19=>?_)
    refine aX 1 (sT [pR 2 0,pR 10 7,pR 11 8,(46,.agg (hbm r0_B mf))] [(8,.var 3 [jI 61]),(7,.var 78 (hbm r0_B mf)),(6,.dead),(0,.var 25 [.own 6 (List.map e58 l1).length,.d (.sl 3 (List.map e69 x.Horses)),jI x.Dark,jI x.Near,jI x.Match])] 9 0) ?_
    obtain ⟨⟨⟩,hx_20,h⟩:=bsome h
    refine r_call trivial rfl (k76 _ hx_20) rfl rfl ?_
    refine aX 2 (sT [pR 2 0,pR 11 8,(46,.agg (hbm r0_B mf)),(47,.agg [.d (.fn 107)]),(49,.clo 89 [.agg (hbm r0_B mf)] [])] [(8,.var 3 [jI 61]),(7,.var 78 (hbm r0_B mf)),(6,.dead),(0,.var 25 [.own 6 (List.map e58 l1).length,.d (.sl 3 (List.map e69 x.Horses)),jI x.Dark,jI x.Near,jI x.Match])] 9 0) ?_
    obtain ⟨⟨o0_B,mf1⟩,hx_21,h⟩:=bsome h
    refine r_callS (zr:=[]) [] trivial rfl (k88 r0_B mf r0_B mf _ hx_21) trivial rfl rfl ⟨.refl _,.refl _,.refl _,trivial⟩ rfl rfl rfl ?_
    refine Fi (sT [pR 2 0,pR 11 8,(50,.clo 111 [] [.ptr 9 0,.ptr 10 0,.ptr 11 0])] [(9,.var 78 (hbm o0_B mf1)),(10,.var 99 [.d (.fn 107)]),(11,.var 65 [.clo 89 [.agg (hbm r0_B mf)] []]),(8,.var 3 [jI 61]),(6,.dead),(0,.var 25 [.own 6 (List.map e58 l1).length,.d (.sl 3 (List.map e69 x.Horses)),jI x.Dark,jI x.Near,jI x.Match])] 12 0) ?_
    refine hQ_19 _ ?_
    refine AW.block ?_
    obtain ⟨out_22,hx_22,h⟩:=bsome h
    refine AW.rfX (fun (v:Int)=>[(12,.dm),(8,.var 3 [jI v]),(6,.dead),(0,.var 25 [.own 6 (List.map e58 l1).length,.d (.sl 3 (List.map e69 x.Horses)),jI x.Dark,jI x.Near,jI x.Match])]) (fun (_:Unit)=>[]) (fun _=>some .ret) (g31_r22 l1) (fun (⟨a,a1⟩:(List Int)×(Nat→Int))=>[.d (q1 a),.agg (cfv a1)]) (s0:=61) (out:=out_22) [pR 2 0,pR 11 8] [(8,.var 3 [jI 61]),(6,.dead),(0,.var 25 [.own 6 (List.map e58 l1).length,.d (.sl 3 (List.map e69 x.Horses)),jI x.Dark,jI x.Near,jI x.Match])] [9,10,11] rfl (.clo _ _ _) (by kernel_rfl) (by kernel_rfl) (fun fr_ hY_22=>k111 fr_ _ (fun a a1 s s2 b h=>hY_22 (a,a1) s s2 b h) o0_B mf1 r0_B mf (.next 61) _ hx_22) (by kernel_rfl) ⟨rfl,rfl,rfl,trivial⟩ rfl ⟨rfl,rfl⟩ rfl rfl (fun _=>rfl) (fun _=>rfl) (fun a_22 s_22 c_22 h l_22=>?_) (fun _=>rfl) ?_
    ·obtain ⟨a,a1⟩:=a_22
     have ⟨v,e_22⟩:∃ x,x=s_22:=⟨_,rfl⟩
     subst e_22
     unfold g31_r22 at h
     refine AW.ra (fokR l_22) [] (sT [pR 2 0,pR 11 8,pR 13 13] [(13,.var 92 (cfv a1)),(12,.dm),(8,.var 3 [jI v]),(6,.dead),(0,.var 25 [.own 6 (List.map e58 l1).length,.d (.sl 3 (List.map e69 x.Horses)),jI x.Dark,jI x.Near,jI x.Match])] 14 13) (by kernel_rfl) ?_
     refine AW.block ?_
     refine AW.drw (fokR l_22) ?_
     refine aX 3 (sT [pR 11 8,pR 13 13,(53,jI v),(55,.own 6 (List.map e58 l1).length)] [(13,.var 92 (cfv a1)),(12,.dm),(8,.var 3 [jI v]),(6,.dead),(0,.var 25 [.own 6 (List.map e58 l1).length,.d (.sl 3 (List.map e69 x.Horses)),jI x.Dark,jI x.Near,jI x.Match])] 14 13) ?_
     refine r_lenY trivial rfl lenm ?_
     refine aX 1 (sT [pR 11 8,pR 13 13,(53,jI v),(57,jI (wr ((l1.length:Int) - 1)))] [(13,.var 92 (cfv a1)),(12,.dm),(8,.var 3 [jI v]),(6,.dead),(0,.var 25 [.own 6 (List.map e58 l1).length,.d (.sl 3 (List.map e69 x.Horses)),jI x.Dark,jI x.Near,jI x.Match])] 14 13) ?_
     obtain ⟨j,hv_24,h⟩:=bsome h
     refine r_iaV trivial rfl rfl rfl (ixN_ok hv_24).1 (ixN_ok hv_24).2.1 ?_
     refine r_loadV trivial rfl rfl (u:=jI (a1 j)) (agt (f:=fun k=>jI (a1 k)) hv_24) ?_
     refine aX 2 (sT [] [(8,.var 3 [jI (min v (a1 j))]),(13,.var 92 (cfv a1)),(12,.dm),(6,.dead),(0,.var 25 [.own 6 (List.map e58 l1).length,.d (.sl 3 (List.map e69 x.Horses)),jI x.Dark,jI x.Near,jI x.Match])] 14 13) ?_
     refine Fi (sT [] [(8,.var 3 [jI (min v (a1 j))]),(12,.dm),(6,.dead),(0,.var 25 [.own 6 (List.map e58 l1).length,.d (.sl 3 (List.map e69 x.Horses)),jI x.Dark,jI x.Near,jI x.Match])] 14 13) ?_
     obtain rfl:=Option.some.inj h
     exact ⟨(sT [] [(12,.dm),(8,.var 3 [jI (min v (a1 j))]),(6,.dead),(0,.var 25 [.own 6 (List.map e58 l1).length,.d (.sl 3 (List.map e69 x.Horses)),jI x.Dark,jI x.Near,jI x.Match])] 13 13),Can.kp (by kernel_rfl),rdX trivial rfl (by kernel_rfl) (by kernel_rfl)⟩
    ·rcases out_22 with v | _
     ·refine hK_18 _ ?_
      refine AW.seqK (fun K_25 hK_25=>?_)
      refine Sa ⟨[pR 11 8,(62,.d (.bool (decide (60<v))))],[(12,.dm),(8,.var 3 [jI v])],13,Fr.emp,[12],0⟩ ?_
      refine AW.cond rfl (fun hb_26=>?_) (fun hb_26=>?_)
      ·have h:=ifT hb_26 h
       refine Sa ⟨[(4,jI 0),(5,jI 4)],[(12,.dm)],13,Fr.emp,[12],0⟩ ?_
       obtain rfl:=Option.some.inj h
       exact rT hR_0 (.cons (.tmp rfl) (.cons (.tmp rfl) .nil))
      ·have h:=ifF hb_26 h
       refine AW.skip (hK_25 _ ?_)
       refine Sa ⟨[(4,jI v),(5,jI 0)],[(12,.dm)],13,Fr.emp,[12],0⟩ ?_
       obtain rfl:=Option.some.inj h
       exact rT hR_0 (.cons (.tmp rfl) (.cons (.tmp rfl) .nil))
     ·cases h
def g88a (b_B:HairBook) (mf:List (Hair_dye×Span)) (m0_B:HairBook) (mf_1:List (Hair_dye×Span)):Option (HairBook×(List (Hair_dye×Span))):=some (b_B,mf)
theorem k88a (b_B:HairBook) (mf:List (Hair_dye×Span)) (m0_B:HairBook) (mf_1:List (Hair_dye×Span)) (r:HairBook×(List (Hair_dye×Span))) (h:g88a b_B mf m0_B mf_1=some r):SCall Tryd.prog Gs 88 [.agg (hbm b_B mf),.agg [.d (.fn 108)],.clo 89 [.agg (hbm m0_B mf_1)] []] [] 0 Fr.emp (match r with | (o0_B,mf1)=>.clo 111 [] [.ptr 0 0,.ptr 1 0,.ptr 2 0]) (match r with | (o0_B,mf1)=>[(0,.var 78 (hbm o0_B mf1)),(1,.var 99 [.d (.fn 108)]),(2,.var 65 [.clo 89 [.agg (hbm m0_B mf_1)] []])]) 3 Fr.emp:=by
 unfold g88a at h
 refine SCall.mkK Tryd.func88 c88 rfl rfl (by kernel_rfl) (fun Q_0 hR_0 hN_0=>?_)
 refine Sa (sT [pR 3 0,pR 4 1,pR 5 2] [(2,.var 65 [.clo 89 [.agg (hbm m0_B mf_1)] []]),(1,.var 99 [.d (.fn 108)]),(0,.var 78 (hbm b_B mf))] 3 0) ?_
 refine Sa (sT [(6,.clo 111 [] [.ptr 0 0,.ptr 1 0,.ptr 2 0])] [(2,.var 65 [.clo 89 [.agg (hbm m0_B mf_1)] []]),(1,.var 99 [.d (.fn 108)]),(0,.var 78 (hbm b_B mf))] 3 0) ?_
 obtain rfl:=Option.some.inj h
 exact rT hR_0 (.cons (.tmp rfl) .nil)
def g112a_16 {S_:Type} (rec_:(List Int)→(Nat→Int)→HairBook→(List (Hair_dye×Span))→HairBook→(List (Hair_dye×Span))→S_→Option (Bool×S_)) (plan:(List Int)) (cut:(Nat→Int)) (o0_B:HairBook) (mf:List (Hair_dye×Span)) (m0_B:HairBook) (mf_1:List (Hair_dye×Span)) (need:Int):Int→HairHank→S_→Option (Ctl (S_) (Bool×S_)):=fun v p2 s_2=>bindC ((ixN 5 v).bind fun j1=>(g108 p2.Weight).bind fun r0_2=>bif (decide (r0_2<(wr ((cut j1)+need)))) then (some (.brk (.next s_2))) else (bif (decide (((plan.length:Int).tmod 2)=1)) then ((ixL plan (wr ((plan.length:Int) - 1))).bind fun p3=>(g89 m0_B mf_1 (wr ((plan.length:Int).tdiv 2)) p3 v).bind fun r0_3=>bif (!r0_3) then (some (.brk (.next s_2))) else (some (.next ()))) else (some (.next ()))):Option (Ctl (Unit) (Ctl (S_) (Bool×S_)))) fun _=>(ixN 5 v).bind fun j2=>(ixN 5 v).bind fun j3=>(slcL plan 0 (plan.length:Int)).bind fun l=>(appL 8 l [v]).bind fun l1=>(rec_ l1 (aset cut j3 (wr ((cut j2)+need))) o0_B mf m0_B mf_1 s_2).bind fun (r0_7_1,s_5_1)=>bif (!r0_7_1) then (some (.brk (false,s_5_1))) else (some (.next s_5_1))
def g112a {S_:Type} (c_:(List Int)→(Nat→Int)→S_→Option (S_×Bool)):Nat→(List Int)→(Nat→Int)→HairBook→(List (Hair_dye×Span))→HairBook→(List (Hair_dye×Span))→S_→Option (Bool×S_)
 | 0,_,_,_,_,_,_,_=>none
 | n_+1,plan,cut,o0_B,mf,m0_B,mf_1,s_=>bif (decide ((plan.length:Int)=(wr (2*(o0_B.Horses.length:Int))))) then ((c_ plan cut s_).bind fun (s_1,go)=>some (go,s_1)) else (((ixN 2 ((plan.length:Int).tmod 2)).bind fun j=>match j with | 0=>(ixL o0_B.Horses (wr ((plan.length:Int).tdiv 2))).bind fun p=>(g133 p).bind fun r0=>some r0 | 1=>(ixL o0_B.Horses (wr ((plan.length:Int).tdiv 2))).bind fun p1=>(g135 p1).bind fun r0_1=>some r0_1 | _=>none).bind fun need=>bindC (eachC (g112a_16 (g112a c_ n_) plan cut o0_B mf m0_B mf_1 need) o0_B.Hanks 0 s_) fun s_2=>some (true,s_2))
def y35 (cut:(Nat→Int)) (o0_B:HairBook) (mf:List (Hair_dye×Span)) (m0_B:HairBook) (mf_1:List (Hair_dye×Span)):List (Nat×Blk):=[(5,.var 92 (cfv cut)),(0,.var 78 (hbm o0_B mf)),(1,.var 127 [.yld]),(2,.var 99 [.d (.fn 108)]),(3,.var 65 [.clo 89 [.agg (hbm m0_B mf_1)] []]),(4,.var 127 [.clo 112 [] [.ptr 0 0,.ptr 1 0,.ptr 2 0,.ptr 3 0,.ptr 4 0]])]
def y36 (o0_B:HairBook) (mf:List (Hair_dye×Span)) (m0_B:HairBook) (mf_1:List (Hair_dye×Span)):List (Nat×Blk):=[(0,.var 78 (hbm o0_B mf)),(1,.var 127 [.yld]),(2,.var 99 [.d (.fn 108)]),(3,.var 65 [.clo 89 [.agg (hbm m0_B mf_1)] []]),(4,.var 127 [.clo 112 [] [.ptr 0 0,.ptr 1 0,.ptr 2 0,.ptr 3 0,.ptr 4 0]])]
def y37 (cut:(Nat→Int)) (o0_B:HairBook) (mf:List (Hair_dye×Span)) (m0_B:HairBook) (mf_1:List (Hair_dye×Span)):List (Nat×Blk):=[(7,.var 92 (cfv cut)),(5,.var 92 (cfv cut)),(0,.var 78 (hbm o0_B mf)),(1,.var 127 [.yld]),(2,.var 99 [.d (.fn 108)]),(3,.var 65 [.clo 89 [.agg (hbm m0_B mf_1)] []]),(4,.var 127 [.clo 112 [] [.ptr 0 0,.ptr 1 0,.ptr 2 0,.ptr 3 0,.ptr 4 0]])]
def y38 (o0_B:HairBook) (mf:List (Hair_dye×Span)) (m0_B:HairBook) (mf_1:List (Hair_dye×Span)) (cut:(Nat→Int)):List (Nat×Blk):=[(0,.var 78 (hbm o0_B mf)),(1,.var 127 [.yld]),(2,.var 99 [.d (.fn 108)]),(3,.var 65 [.clo 89 [.agg (hbm m0_B mf_1)] []]),(4,.var 127 [.clo 112 [] [.ptr 0 0,.ptr 1 0,.ptr 2 0,.ptr 3 0,.ptr 4 0]]),(5,.var 92 (cfv cut))]
theorem k112a {S_:Type} (fr_:S_→Fr) (c_:(List Int)→(Nat→Int)→S_→Option (S_×Bool)) (hc_:∀ (a0:(List Int)) (a1:(Nat→Int)) s s2 b,c_ a0 a1 s=some (s2,b)→YCall Tryd.prog Gs (fr_ s) [.d (q1 a0),.agg (cfv a1)] (.d (.bool b)) (fr_ s2)):∀ (n_:Nat) (plan:(List Int)) (cut:(Nat→Int)) (o0_B:HairBook) (mf:List (Hair_dye×Span)) (m0_B:HairBook) (mf_1:List (Hair_dye×Span)) (s_:S_) (r:Bool×S_) (h:g112a c_ n_ plan cut o0_B mf m0_B mf_1 s_=some r),SCall Tryd.prog Gs 112 [.d (q1 plan),.agg (cfv cut),.ptr 0 0,.ptr 1 0,.ptr 2 0,.ptr 3 0,.ptr 4 0] [(0,.var 78 (hbm o0_B mf)),(1,.var 127 [.yld]),(2,.var 99 [.d (.fn 108)]),(3,.var 65 [.clo 89 [.agg (hbm m0_B mf_1)] []]),(4,.var 127 [.clo 112 [] [.ptr 0 0,.ptr 1 0,.ptr 2 0,.ptr 3 0,.ptr 4 0]])] 5 (fr_ s_) (match r with | (r0_7,s_5)=>.d (.bool r0_7)) (match r with | (r0_7,s_5)=>[(0,.var 78 (hbm o0_B mf)),(1,.var 127 [.yld]),(2,.var 99 [.d (.fn 108)]),(3,.var 65 [.clo 89 [.agg (hbm m0_B mf_1)] []]),(4,.var 127 [.clo 112 [] [.ptr 0 0,.ptr 1 0,.ptr 2 0,.ptr 3 0,.ptr 4 0]])]) 5 (fr_ (match r with | (r0_7,s_5)=>s_5)):=by
 intro n_
 induction n_ with
 | zero=>intro plan cut o0_B mf m0_B mf_1 s_ r h;cases h
 | succ n_ ih=>
  intro plan cut o0_B mf m0_B mf_1 s_ r h
  rw [g112a] at h
  refine SCall.mkK Tryd.func112 c112 rfl rfl (by kernel_rfl) (fun Q_0 hR_0 hN_0=>?_)
  refine Sa ⟨[(0,.d (q1 plan)),pR 2 0,pR 3 1,pR 4 2,pR 5 3,pR 6 4,pR 8 5],(y35 cut o0_B mf m0_B mf_1),6,(fr_ s_),[],5⟩ ?_
  refine AW.scope ?_
  refine AW.srwK (fun Q_1 hQ_1=>?_)
  refine Au 1 ⟨[(0,.d (q1 plan)),pR 2 0,pR 3 1,pR 4 2,pR 5 3,pR 6 4,pR 8 5,(15,.d (q1 plan))],(y35 cut o0_B mf m0_B mf_1),6,(fr_ s_),[],5⟩ ?_
  refine rL rfl ?_
  refine Au 1 ⟨[(0,.d (q1 plan)),pR 2 0,pR 3 1,pR 4 2,pR 5 3,pR 6 4,pR 8 5,(10,jI (plan.length:Int))],(y35 cut o0_B mf m0_B mf_1),6,(fr_ s_),[],5⟩ ?_
  refine RW.nil (hQ_1 _ ?_)
  refine AW.seqK fun K_2 hK_2=>AW.srwK fun Q_3 hQ_3=>?_
  refine Au 4 ⟨[(0,.d (q1 plan)),pR 2 0,pR 3 1,pR 4 2,pR 5 3,pR 6 4,pR 8 5,(10,jI (plan.length:Int)),(17,jI (plan.length:Int)),(20,.d (.sl 3 (List.map e69 o0_B.Horses)))],(y35 cut o0_B mf m0_B mf_1),6,(fr_ s_),[],5⟩ ?_
  refine rL rfl ?_
  refine Au 2 ⟨[(0,.d (q1 plan)),pR 2 0,pR 3 1,pR 4 2,pR 5 3,pR 6 4,pR 8 5,(10,jI (plan.length:Int)),(23,.d (.bool (decide ((plan.length:Int)=(wr (2*(o0_B.Horses.length:Int)))))))],(y35 cut o0_B mf m0_B mf_1),6,(fr_ s_),[],5⟩ ?_
  refine RW.nil (hQ_3 _ ?_)
  refine AW.cond rfl (fun hb_4=>?_) (fun hb_4=>?_)
  ·have h:=ifT hb_4 h
   refine AW.srwK (fun Q_5 hQ_5=>?_)
   refine Au 3 ⟨[(24,.yld),(25,.d (q1 plan)),(26,.agg (cfv cut))],(y36 o0_B mf m0_B mf_1),6,(fr_ s_),[],5⟩ ?_
   obtain ⟨⟨s_1,go⟩,hx_6,h⟩:=bsome h
   refine RW.one fokW (r_yield (zr:=[]) trivial rfl rfl (hc_ plan cut _ _ _ hx_6) trivial ⟨.refl _,.refl _,trivial⟩ rfl rfl rfl rfl (r_end ?_))
   refine Au 1 ⟨[(9,.d (.bool go))],(y36 o0_B mf m0_B mf_1),6,(fr_ s_1),[],5⟩ ?_
   refine RW.nil (hQ_5 _ ?_)
   obtain rfl:=Option.some.inj h
   exact rT hR_0 (.cons (.tmp rfl) .nil)
  ·have h:=ifF hb_4 h
   refine AW.skip (hK_2 _ ?_)
   obtain ⟨need,hx_7,h⟩:=bsome h
   refine AW.jnSK (fun (need:Int)=>⟨[(0,.d (q1 plan)),pR 2 0,pR 4 2,pR 5 3,pR 6 4,pR 8 5,(10,jI (plan.length:Int)),(11,jI need)],(y35 cut o0_B mf m0_B mf_1),6,(fr_ s_),[],5⟩) (c:=need) (fun K_7 hK_7=>?_) ?_
   ·have h:=hx_7
    refine AW.drw fokW ?_
    refine aX 2 ⟨[(0,.d (q1 plan)),pR 2 0,pR 4 2,pR 5 3,pR 6 4,pR 8 5,(10,jI (plan.length:Int)),(29,jI ((plan.length:Int).tmod 2))],(y35 cut o0_B mf m0_B mf_1),6,(fr_ s_),[],5⟩ ?_
    obtain ⟨j,hv_9,h⟩:=bsome h
    rcases j with _ | _ | j
    ·refine r_iaF trivial rfl rfl (ixN_ok hv_9).1 (ixN_ok hv_9).2.1 ?_
     refine r_loadF trivial rfl (u:=.fn 133) (by rw [(ixN_ok hv_9).2.2];rfl) ?_
     refine aX 5 ⟨[(0,.d (q1 plan)),pR 2 0,pR 4 2,pR 5 3,pR 6 4,pR 8 5,(10,jI (plan.length:Int)),(31,.d (.fn 133)),(34,.d (.sl 3 (List.map e69 o0_B.Horses))),(36,jI (wr ((plan.length:Int).tdiv 2)))],(y35 cut o0_B mf m0_B mf_1),6,(fr_ s_),[],5⟩ ?_
     obtain ⟨p,hv_10,h⟩:=bsome h
     refine r_iaD trivial rfl rfl (ixL_ok hv_10).1 (row:=e69 p) (mapget (ixL_ok hv_10).2) ?_
     refine aX 1 ⟨[(0,.d (q1 plan)),pR 2 0,pR 4 2,pR 5 3,pR 6 4,pR 8 5,(10,jI (plan.length:Int)),(31,.d (.fn 133)),(38,.agg [jI p.Mane,jI p.Tail,jI p.Shade])],(y35 cut o0_B mf m0_B mf_1),6,(fr_ s_),[],5⟩ ?_
     obtain ⟨r0,hx_11,h⟩:=bsome h
     refine r_callvZ (zr:=[]) trivial rfl (.fn _) (by kernel_rfl) rfl (k133 p _ hx_11) trivial ⟨.refl _,trivial⟩ rfl rfl rfl rfl ?_
     refine aX 1 ⟨[(0,.d (q1 plan)),pR 2 0,pR 4 2,pR 5 3,pR 6 4,pR 8 5,(10,jI (plan.length:Int)),(11,jI r0)],(y35 cut o0_B mf m0_B mf_1),6,(fr_ s_),[],5⟩ ?_
     refine Fi ⟨[(0,.d (q1 plan)),pR 2 0,pR 4 2,pR 5 3,pR 6 4,pR 8 5,(10,jI (plan.length:Int)),(11,jI r0)],(y35 cut o0_B mf m0_B mf_1),6,(fr_ s_),[],5⟩ ?_
     obtain rfl:=Option.some.inj h
     exact hK_7 _ (Can.kp (by kernel_rfl))
    ·refine r_iaF trivial rfl rfl (ixN_ok hv_9).1 (ixN_ok hv_9).2.1 ?_
     refine r_loadF trivial rfl (u:=.fn 135) (by rw [(ixN_ok hv_9).2.2];rfl) ?_
     refine aX 5 ⟨[(0,.d (q1 plan)),pR 2 0,pR 4 2,pR 5 3,pR 6 4,pR 8 5,(10,jI (plan.length:Int)),(31,.d (.fn 135)),(34,.d (.sl 3 (List.map e69 o0_B.Horses))),(36,jI (wr ((plan.length:Int).tdiv 2)))],(y35 cut o0_B mf m0_B mf_1),6,(fr_ s_),[],5⟩ ?_
     obtain ⟨p1,hv_12,h⟩:=bsome h
     refine r_iaD trivial rfl rfl (ixL_ok hv_12).1 (row:=e69 p1) (mapget (ixL_ok hv_12).2) ?_
     refine aX 1 ⟨[(0,.d (q1 plan)),pR 2 0,pR 4 2,pR 5 3,pR 6 4,pR 8 5,(10,jI (plan.length:Int)),(31,.d (.fn 135)),(38,.agg [jI p1.Mane,jI p1.Tail,jI p1.Shade])],(y35 cut o0_B mf m0_B mf_1),6,(fr_ s_),[],5⟩ ?_
     obtain ⟨r0_1,hx_13,h⟩:=bsome h
     refine r_callvZ (zr:=[]) trivial rfl (.fn _) (by kernel_rfl) rfl (k135 p1 _ hx_13) trivial ⟨.refl _,trivial⟩ rfl rfl rfl rfl ?_
     refine aX 1 ⟨[(0,.d (q1 plan)),pR 2 0,pR 4 2,pR 5 3,pR 6 4,pR 8 5,(10,jI (plan.length:Int)),(11,jI r0_1)],(y35 cut o0_B mf m0_B mf_1),6,(fr_ s_),[],5⟩ ?_
     refine Fi ⟨[(0,.d (q1 plan)),pR 2 0,pR 4 2,pR 5 3,pR 6 4,pR 8 5,(10,jI (plan.length:Int)),(11,jI r0_1)],(y35 cut o0_B mf m0_B mf_1),6,(fr_ s_),[],5⟩ ?_
     obtain rfl:=Option.some.inj h
     exact hK_7 _ (Can.kp (by kernel_rfl))
    ·cases h
   ·refine AW.seq (AW.skip ?_)
    refine AW.seqK fun K_14 hK_14=>AW.srwK fun Q_15 hQ_15=>?_
    refine Au 3 ⟨[(0,.d (q1 plan)),pR 4 2,pR 5 3,pR 6 4,pR 8 5,(10,jI (plan.length:Int)),(11,jI need),(42,.d (.sl 4 (List.map e58 o0_B.Hanks)))],(y35 cut o0_B mf m0_B mf_1),6,(fr_ s_),[],5⟩ ?_
    refine rL rfl ?_
    refine Au 1 ⟨[(0,.d (q1 plan)),pR 4 2,pR 5 3,pR 6 4,pR 8 5,(10,jI (plan.length:Int)),(11,jI need),(42,.d (.sl 4 (List.map e58 o0_B.Hanks))),(43,jI (o0_B.Hanks.length:Int)),(44,jI 0)],(y35 cut o0_B mf m0_B mf_1),6,(fr_ s_),[],5⟩ ?_
    refine RW.nil (hQ_15 _ ?_)
    refine AW.block ?_
    refine AW.sln (t:=42) rfl (fun hN_16=>?_)
    rw [List.length_map] at hN_16
    obtain ⟨out_16,hx_16,hk_16⟩:=bsomeC h
    refine AW.evCK (fun (v:Int) (s_2:S_)=>⟨[(0,.d (q1 plan)),pR 4 2,pR 5 3,pR 6 4,pR 8 5,(10,jI (plan.length:Int)),(11,jI need),(42,.d (.sl 4 (List.map e58 o0_B.Hanks))),(43,jI (o0_B.Hanks.length:Int)),(44,jI v)],(y35 cut o0_B mf m0_B mf_1),6,(fr_ s_2),[],5⟩) (g112a_16 (g112a c_ n_) plan cut o0_B mf m0_B mf_1 need) hx_16 (Can.kp (by kernel_rfl)) (fun v p2 s_2 hi_16 hl_16 hp_16 c_16 h hb_16 K_16 hK_16=>?_) (fun v s_2 hi_16 hl_16 hout=>?_)
    ·unfold g112a_16 at h
     refine Sa ⟨[(0,.d (q1 plan)),pR 4 2,pR 5 3,pR 6 4,pR 8 5,(10,jI (plan.length:Int)),(11,jI need),(42,.d (.sl 4 (List.map e58 o0_B.Hanks))),(43,jI (o0_B.Hanks.length:Int)),(44,jI v),(45,.d (.bool (decide (v<(o0_B.Hanks.length:Int)))))],(y35 cut o0_B mf m0_B mf_1),6,(fr_ s_2),[],5⟩ ?_
     refine AW.seqK (fun K_17 hK_17=>?_)
     refine AW.cond rfl (fun hb_18=>?_) (fun hb_18=>False.elim (by have:=of_decide_eq_false hb_18;omega))
     refine AW.skip (hK_17 _ ?_)
     refine AW.seqK (fun K_19 hK_19=>?_)
     refine AW.block ?_
     refine AW.srwK (fun Q_20 hQ_20=>?_)
     refine Au 1 ⟨[(0,.d (q1 plan)),pR 4 2,pR 5 3,pR 6 4,pR 8 5,(10,jI (plan.length:Int)),(11,jI need),(42,.d (.sl 4 (List.map e58 o0_B.Hanks))),(43,jI (o0_B.Hanks.length:Int)),(44,jI v),(46,jI v)],(y35 cut o0_B mf m0_B mf_1),6,(fr_ s_2),[],5⟩ ?_
     refine RW.one fokW (r_iaD trivial rfl rfl hi_16 (row:=e58 p2) (mapget hp_16) (r_end ?_))
     refine Au 4 ⟨[(0,.d (q1 plan)),pR 4 2,pR 5 3,pR 6 4,pR 8 5,(10,jI (plan.length:Int)),(11,jI need),(12,jI v),pR 13 6,(42,.d (.sl 4 (List.map e58 o0_B.Hanks))),(43,jI (o0_B.Hanks.length:Int)),(44,jI v)],[(6,.var 58 (cv58 p2)),(5,.var 92 (cfv cut)),(0,.var 78 (hbm o0_B mf)),(1,.var 127 [.yld]),(2,.var 99 [.d (.fn 108)]),(3,.var 65 [.clo 89 [.agg (hbm m0_B mf_1)] []]),(4,.var 127 [.clo 112 [] [.ptr 0 0,.ptr 1 0,.ptr 2 0,.ptr 3 0,.ptr 4 0]])],7,(fr_ s_2),[],5⟩ ?_
     refine RW.nil (hQ_20 _ ?_)
     obtain ⟨c_21,hx_21,hk_21⟩:=bsomeC h
     refine AW.jnK (fun (_:Unit)=>⟨[(0,.d (q1 plan)),pR 4 2,pR 5 3,pR 6 4,pR 8 5,(10,jI (plan.length:Int)),(11,jI need),(12,jI v),(42,.d (.sl 4 (List.map e58 o0_B.Hanks))),(43,jI (o0_B.Hanks.length:Int)),(44,jI v)],(y35 cut o0_B mf m0_B mf_1),7,(fr_ s_2),[],5⟩) (c:=c_21) (fun K_21 hK_21=>?_) (fun j_21 hj_21=>?_)
     ·have h:=hx_21
      refine AW.sdrwK fokW (fun Q_22 hQ_22=>?_)
      refine aX 1 ⟨[(0,.d (q1 plan)),pR 4 2,pR 5 3,pR 6 4,pR 8 5,(10,jI (plan.length:Int)),(11,jI need),(12,jI v),pR 13 6,(42,.d (.sl 4 (List.map e58 o0_B.Hanks))),(43,jI (o0_B.Hanks.length:Int)),(44,jI v),(49,jI v)],[(6,.var 58 (cv58 p2)),(5,.var 92 (cfv cut)),(0,.var 78 (hbm o0_B mf)),(1,.var 127 [.yld]),(2,.var 99 [.d (.fn 108)]),(3,.var 65 [.clo 89 [.agg (hbm m0_B mf_1)] []]),(4,.var 127 [.clo 112 [] [.ptr 0 0,.ptr 1 0,.ptr 2 0,.ptr 3 0,.ptr 4 0]])],7,(fr_ s_2),[],5⟩ ?_
      obtain ⟨j1,hv_23,h⟩:=bsome h
      refine r_iaV trivial rfl rfl rfl (ixN_ok hv_23).1 (ixN_ok hv_23).2.1 ?_
      refine r_loadV trivial rfl rfl (u:=jI (cut j1)) (agt (f:=fun k=>jI (cut k)) hv_23) ?_
      refine aX 6 ⟨[(0,.d (q1 plan)),pR 4 2,pR 5 3,pR 6 4,pR 8 5,(10,jI (plan.length:Int)),(11,jI need),(12,jI v),(42,.d (.sl 4 (List.map e58 o0_B.Hanks))),(43,jI (o0_B.Hanks.length:Int)),(44,jI v),(53,jI (wr ((cut j1)+need))),(55,.d (.fn 108)),(57,.agg [jI p2.Weight.Low,jI p2.Weight.High])],[(6,.var 58 (cv58 p2)),(5,.var 92 (cfv cut)),(0,.var 78 (hbm o0_B mf)),(1,.var 127 [.yld]),(2,.var 99 [.d (.fn 108)]),(3,.var 65 [.clo 89 [.agg (hbm m0_B mf_1)] []]),(4,.var 127 [.clo 112 [] [.ptr 0 0,.ptr 1 0,.ptr 2 0,.ptr 3 0,.ptr 4 0]])],7,(fr_ s_2),[],5⟩ ?_
      obtain ⟨r0_2,hx_24,h⟩:=bsome h
      refine r_callvZ (zr:=[]) trivial rfl (.fn _) (by kernel_rfl) rfl (k108 p2.Weight _ hx_24) trivial ⟨.refl _,trivial⟩ rfl rfl rfl rfl ?_
      refine aX 2 ⟨[(0,.d (q1 plan)),pR 4 2,pR 5 3,pR 6 4,pR 8 5,(10,jI (plan.length:Int)),(11,jI need),(12,jI v),(42,.d (.sl 4 (List.map e58 o0_B.Hanks))),(43,jI (o0_B.Hanks.length:Int)),(44,jI v),(60,.d (.bool (decide (r0_2<(wr ((cut j1)+need))))))],[(6,.var 58 (cv58 p2)),(5,.var 92 (cfv cut)),(0,.var 78 (hbm o0_B mf)),(1,.var 127 [.yld]),(2,.var 99 [.d (.fn 108)]),(3,.var 65 [.clo 89 [.agg (hbm m0_B mf_1)] []]),(4,.var 127 [.clo 112 [] [.ptr 0 0,.ptr 1 0,.ptr 2 0,.ptr 3 0,.ptr 4 0]])],7,(fr_ s_2),[],5⟩ ?_
      refine r_split 60 rfl (fun hb_25=>?_) (fun hb_25=>?_)
      ·have h:=ifT hb_25 h
       refine aX 17 ⟨[(0,.d (q1 plan)),pR 4 2,pR 5 3,pR 6 4,pR 8 5,(10,jI (plan.length:Int)),(11,jI need),(12,jI v),(42,.d (.sl 4 (List.map e58 o0_B.Hanks))),(43,jI (o0_B.Hanks.length:Int)),(44,jI v),(77,.d (.bool true))],[(6,.var 58 (cv58 p2)),(5,.var 92 (cfv cut)),(0,.var 78 (hbm o0_B mf)),(1,.var 127 [.yld]),(2,.var 99 [.d (.fn 108)]),(3,.var 65 [.clo 89 [.agg (hbm m0_B mf_1)] []]),(4,.var 127 [.clo 112 [] [.ptr 0 0,.ptr 1 0,.ptr 2 0,.ptr 3 0,.ptr 4 0]])],7,(fr_ s_2),[],5⟩ ?_
       refine Fi ⟨[(0,.d (q1 plan)),pR 4 2,pR 5 3,pR 6 4,pR 8 5,(10,jI (plan.length:Int)),(11,jI need),(12,jI v),(42,.d (.sl 4 (List.map e58 o0_B.Hanks))),(43,jI (o0_B.Hanks.length:Int)),(44,jI v),(77,.d (.bool true))],(y35 cut o0_B mf m0_B mf_1),7,(fr_ s_2),[],5⟩ ?_
       refine hQ_22 _ ?_
       refine AW.condT rfl ?_
       refine AW.exit ?_
       refine hK_19 _ ?_
       refine Ra ⟨[(0,.d (q1 plan)),pR 4 2,pR 5 3,pR 6 4,pR 8 5,(10,jI (plan.length:Int)),(11,jI need),(42,.d (.sl 4 (List.map e58 o0_B.Hanks))),(43,jI (o0_B.Hanks.length:Int)),(44,jI (wr (v+1)))],(y35 cut o0_B mf m0_B mf_1),7,(fr_ s_2),[],5⟩ ?_
       obtain rfl:=Option.some.inj h
       obtain rfl:=Aft.bk hk_21
       have ew:wr (v+1)=v+1:=inext (N:=(o0_B.Hanks.length:Int)) (by omega) (by omega) (by omega)
       rw [ew]
       exact hK_16 _ _ rfl (Can.kp (by kernel_rfl))
      ·have h:=ifF hb_25 h
       refine aX 4 ⟨[(0,.d (q1 plan)),pR 4 2,pR 5 3,pR 6 4,pR 8 5,(10,jI (plan.length:Int)),(11,jI need),(12,jI v),(42,.d (.sl 4 (List.map e58 o0_B.Hanks))),(43,jI (o0_B.Hanks.length:Int)),(44,jI v),(60,.d (.bool false)),(64,.d (.bool (decide (((plan.length:Int).tmod 2)=1))))],[(6,.var 58 (cv58 p2)),(5,.var 92 (cfv cut)),(0,.var 78 (hbm o0_B mf)),(1,.var 127 [.yld]),(2,.var 99 [.d (.fn 108)]),(3,.var 65 [.clo 89 [.agg (hbm m0_B mf_1)] []]),(4,.var 127 [.clo 112 [] [.ptr 0 0,.ptr 1 0,.ptr 2 0,.ptr 3 0,.ptr 4 0]])],7,(fr_ s_2),[],5⟩ ?_
       refine r_split 64 rfl (fun hb_26=>?_) (fun hb_26=>?_)
       ·have h:=ifT hb_26 h
        refine aX 6 ⟨[(0,.d (q1 plan)),pR 4 2,pR 5 3,pR 6 4,pR 8 5,(10,jI (plan.length:Int)),(11,jI need),(12,jI v),(42,.d (.sl 4 (List.map e58 o0_B.Hanks))),(43,jI (o0_B.Hanks.length:Int)),(44,jI v),(60,.d (.bool false)),(64,.d (.bool true)),(65,.clo 89 [.agg (hbm m0_B mf_1)] []),(67,jI (wr ((plan.length:Int).tdiv 2))),(68,.d (q1 plan)),(70,jI (wr ((plan.length:Int) - 1)))],[(6,.var 58 (cv58 p2)),(5,.var 92 (cfv cut)),(0,.var 78 (hbm o0_B mf)),(1,.var 127 [.yld]),(2,.var 99 [.d (.fn 108)]),(3,.var 65 [.clo 89 [.agg (hbm m0_B mf_1)] []]),(4,.var 127 [.clo 112 [] [.ptr 0 0,.ptr 1 0,.ptr 2 0,.ptr 3 0,.ptr 4 0]])],7,(fr_ s_2),[],5⟩ ?_
        obtain ⟨p3,hv_27,h⟩:=bsome h
        refine r_iaD rfl rfl rfl (ixL_ok hv_27).1 (row:=e3 p3) (mapget (ixL_ok hv_27).2) ?_
        refine aX 2 ⟨[(0,.d (q1 plan)),pR 4 2,pR 5 3,pR 6 4,pR 8 5,(10,jI (plan.length:Int)),(11,jI need),(12,jI v),(42,.d (.sl 4 (List.map e58 o0_B.Hanks))),(43,jI (o0_B.Hanks.length:Int)),(44,jI v),(60,.d (.bool false)),(64,.d (.bool true)),(65,.clo 89 [.agg (hbm m0_B mf_1)] []),(67,jI (wr ((plan.length:Int).tdiv 2))),(72,jI p3),(73,jI v)],[(6,.var 58 (cv58 p2)),(5,.var 92 (cfv cut)),(0,.var 78 (hbm o0_B mf)),(1,.var 127 [.yld]),(2,.var 99 [.d (.fn 108)]),(3,.var 65 [.clo 89 [.agg (hbm m0_B mf_1)] []]),(4,.var 127 [.clo 112 [] [.ptr 0 0,.ptr 1 0,.ptr 2 0,.ptr 3 0,.ptr 4 0]])],7,(fr_ s_2),[],5⟩ ?_
        obtain ⟨r0_3,hx_28,h⟩:=bsome h
        refine r_callvZ (zr:=[]) rfl rfl (.clo _ _ _) (by kernel_rfl) rfl (k89 m0_B mf_1 (wr ((plan.length:Int).tdiv 2)) p3 v _ hx_28) trivial ⟨.refl _,.refl _,.refl _,.refl _,trivial⟩ rfl rfl rfl rfl ?_
        refine aX 3 ⟨[(0,.d (q1 plan)),pR 4 2,pR 5 3,pR 6 4,pR 8 5,(10,jI (plan.length:Int)),(11,jI need),(12,jI v),(42,.d (.sl 4 (List.map e58 o0_B.Hanks))),(43,jI (o0_B.Hanks.length:Int)),(44,jI v),(77,.d (.bool (!r0_3)))],[(6,.var 58 (cv58 p2)),(5,.var 92 (cfv cut)),(0,.var 78 (hbm o0_B mf)),(1,.var 127 [.yld]),(2,.var 99 [.d (.fn 108)]),(3,.var 65 [.clo 89 [.agg (hbm m0_B mf_1)] []]),(4,.var 127 [.clo 112 [] [.ptr 0 0,.ptr 1 0,.ptr 2 0,.ptr 3 0,.ptr 4 0]])],7,(fr_ s_2),[],5⟩ ?_
        refine Fi ⟨[(0,.d (q1 plan)),pR 4 2,pR 5 3,pR 6 4,pR 8 5,(10,jI (plan.length:Int)),(11,jI need),(12,jI v),(42,.d (.sl 4 (List.map e58 o0_B.Hanks))),(43,jI (o0_B.Hanks.length:Int)),(44,jI v),(77,.d (.bool (!r0_3)))],(y35 cut o0_B mf m0_B mf_1),7,(fr_ s_2),[],5⟩ ?_
        refine hQ_22 _ ?_
        refine AW.cond rfl (fun hb_29=>?_) (fun hb_29=>?_)
        ·have h:=ifT hb_29 h
         refine AW.exit ?_
         refine hK_19 _ ?_
         refine Ra ⟨[(0,.d (q1 plan)),pR 4 2,pR 5 3,pR 6 4,pR 8 5,(10,jI (plan.length:Int)),(11,jI need),(42,.d (.sl 4 (List.map e58 o0_B.Hanks))),(43,jI (o0_B.Hanks.length:Int)),(44,jI (wr (v+1)))],(y35 cut o0_B mf m0_B mf_1),7,(fr_ s_2),[],5⟩ ?_
         obtain rfl:=Option.some.inj h
         obtain rfl:=Aft.bk hk_21
         have ew:wr (v+1)=v+1:=inext (N:=(o0_B.Hanks.length:Int)) (by omega) (by omega) (by omega)
         rw [ew]
         exact hK_16 _ _ rfl (Can.kp (by kernel_rfl))
        ·have h:=ifF hb_29 h
         refine AW.skip ?_
         obtain rfl:=Option.some.inj h
         exact hK_21 _ _ rfl (Can.kp (by kernel_rfl))
       ·have h:=ifF hb_26 h
        refine aX 13 ⟨[(0,.d (q1 plan)),pR 4 2,pR 5 3,pR 6 4,pR 8 5,(10,jI (plan.length:Int)),(11,jI need),(12,jI v),(42,.d (.sl 4 (List.map e58 o0_B.Hanks))),(43,jI (o0_B.Hanks.length:Int)),(44,jI v),(77,.d (.bool false))],[(6,.var 58 (cv58 p2)),(5,.var 92 (cfv cut)),(0,.var 78 (hbm o0_B mf)),(1,.var 127 [.yld]),(2,.var 99 [.d (.fn 108)]),(3,.var 65 [.clo 89 [.agg (hbm m0_B mf_1)] []]),(4,.var 127 [.clo 112 [] [.ptr 0 0,.ptr 1 0,.ptr 2 0,.ptr 3 0,.ptr 4 0]])],7,(fr_ s_2),[],5⟩ ?_
        refine Fi ⟨[(0,.d (q1 plan)),pR 4 2,pR 5 3,pR 6 4,pR 8 5,(10,jI (plan.length:Int)),(11,jI need),(12,jI v),(42,.d (.sl 4 (List.map e58 o0_B.Hanks))),(43,jI (o0_B.Hanks.length:Int)),(44,jI v),(77,.d (.bool false))],(y35 cut o0_B mf m0_B mf_1),7,(fr_ s_2),[],5⟩ ?_
        refine hQ_22 _ ?_
        refine AW.condF rfl ?_
        refine AW.skip ?_
        obtain rfl:=Option.some.inj h
        exact hK_21 _ _ rfl (Can.kp (by kernel_rfl))
     ·subst hj_21
      have h:=Aft.nx hk_21
      refine Sa ⟨[(0,.d (q1 plan)),pR 4 2,pR 5 3,pR 6 4,pR 8 5,(10,jI (plan.length:Int)),(11,jI need),(12,jI v),pR 14 7,(42,.d (.sl 4 (List.map e58 o0_B.Hanks))),(43,jI (o0_B.Hanks.length:Int)),(44,jI v)],(y37 cut o0_B mf m0_B mf_1),8,(fr_ s_2),[],5⟩ ?_
      refine AW.srwK (fun Q_30 hQ_30=>?_)
      refine Au 1 ⟨[(0,.d (q1 plan)),pR 4 2,pR 5 3,pR 6 4,pR 8 5,(10,jI (plan.length:Int)),(11,jI need),(12,jI v),pR 14 7,(42,.d (.sl 4 (List.map e58 o0_B.Hanks))),(43,jI (o0_B.Hanks.length:Int)),(44,jI v),(79,jI v)],(y37 cut o0_B mf m0_B mf_1),8,(fr_ s_2),[],5⟩ ?_
      obtain ⟨j2,hv_31,h⟩:=bsome h
      refine RW.one fokW (r_iaV trivial rfl rfl rfl (ixN_ok hv_31).1 (ixN_ok hv_31).2.1 (r_end ?_))
      refine RW.one fokW (r_loadV trivial rfl rfl (u:=jI (cut j2)) (agt (f:=fun k=>jI (cut k)) hv_31) (r_end ?_))
      refine Au 2 ⟨[(0,.d (q1 plan)),pR 4 2,pR 5 3,pR 6 4,pR 8 5,(10,jI (plan.length:Int)),(11,jI need),(12,jI v),pR 14 7,(42,.d (.sl 4 (List.map e58 o0_B.Hanks))),(43,jI (o0_B.Hanks.length:Int)),(44,jI v),(79,jI v),(83,jI (wr ((cut j2)+need)))],(y37 cut o0_B mf m0_B mf_1),8,(fr_ s_2),[],5⟩ ?_
      obtain ⟨j3,hv_32,h⟩:=bsome h
      refine RW.one fokW (r_iaV trivial rfl rfl rfl (ixN_ok hv_32).1 (ixN_ok hv_32).2.1 (r_end ?_))
      refine RW.one fokW (r_stX trivial rfl rfl rfl rfl rfl (aslot hv_32 rfl) (cs':=[jI ((aset cut j3 (wr ((cut j2)+need))) 0),jI ((aset cut j3 (wr ((cut j2)+need))) 1),jI ((aset cut j3 (wr ((cut j2)+need))) 2),jI ((aset cut j3 (wr ((cut j2)+need))) 3),jI ((aset cut j3 (wr ((cut j2)+need))) 4)]) (ast (w:=cut) (c:=fun z=>jI z) hv_32) (r_end ?_))
      refine RW.nil (hQ_30 _ ?_)
      refine AW.sdrwK fokW (fun Q_33 hQ_33=>?_)
      refine aX 4 ⟨[(0,.d (q1 plan)),pR 4 2,pR 5 3,pR 6 4,pR 8 5,(10,jI (plan.length:Int)),(11,jI need),(12,jI v),pR 14 7,(42,.d (.sl 4 (List.map e58 o0_B.Hanks))),(43,jI (o0_B.Hanks.length:Int)),(44,jI v),(85,.clo 112 [] [.ptr 0 0,.ptr 1 0,.ptr 2 0,.ptr 3 0,.ptr 4 0]),(86,.d (q1 plan)),(87,jI (plan.length:Int)),(88,jI (plan.length:Int))],[(7,.var 92 [jI ((aset cut j3 (wr ((cut j2)+need))) 0),jI ((aset cut j3 (wr ((cut j2)+need))) 1),jI ((aset cut j3 (wr ((cut j2)+need))) 2),jI ((aset cut j3 (wr ((cut j2)+need))) 3),jI ((aset cut j3 (wr ((cut j2)+need))) 4)]),(5,.var 92 (cfv cut)),(0,.var 78 (hbm o0_B mf)),(1,.var 127 [.yld]),(2,.var 99 [.d (.fn 108)]),(3,.var 65 [.clo 89 [.agg (hbm m0_B mf_1)] []]),(4,.var 127 [.clo 112 [] [.ptr 0 0,.ptr 1 0,.ptr 2 0,.ptr 3 0,.ptr 4 0]])],8,(fr_ s_2),[],5⟩ ?_
      obtain ⟨l,hv_34,h⟩:=bsome h
      refine r_slN trivial rfl rfl rfl DSl.d (slcL_ok hv_34).2.1 (by rw [List.length_map];exact (slcL_ok hv_34).2.2.1) rfl (slz hv_34 e3) ?_
      refine aX 2 ⟨[(0,.d (q1 plan)),pR 4 2,pR 5 3,pR 6 4,pR 8 5,(10,jI (plan.length:Int)),(11,jI need),pR 14 7,(42,.d (.sl 4 (List.map e58 o0_B.Hanks))),(43,jI (o0_B.Hanks.length:Int)),(44,jI v),(85,.clo 112 [] [.ptr 0 0,.ptr 1 0,.ptr 2 0,.ptr 3 0,.ptr 4 0]),(89,.fsl 1 (List.map e3 l)),(91,.own 8 (List.map e3 [v]).length)],[(8,.row 3 1 (List.map e3 [v])),(7,.var 92 [jI ((aset cut j3 (wr ((cut j2)+need))) 0),jI ((aset cut j3 (wr ((cut j2)+need))) 1),jI ((aset cut j3 (wr ((cut j2)+need))) 2),jI ((aset cut j3 (wr ((cut j2)+need))) 3),jI ((aset cut j3 (wr ((cut j2)+need))) 4)]),(5,.var 92 (cfv cut)),(0,.var 78 (hbm o0_B mf)),(1,.var 127 [.yld]),(2,.var 99 [.d (.fn 108)]),(3,.var 65 [.clo 89 [.agg (hbm m0_B mf_1)] []]),(4,.var 127 [.clo 112 [] [.ptr 0 0,.ptr 1 0,.ptr 2 0,.ptr 3 0,.ptr 4 0]])],9,(fr_ s_2),[],5⟩ ?_
      obtain ⟨l1,hv_35,h⟩:=bsome h
      refine r_apF trivial rfl rfl rfl rfl (by simp) (zs:=List.map e3 l1) (apz hv_35 e3) (apr hv_35 e3) ?_
      refine aX 1 ⟨[(0,.d (q1 plan)),pR 4 2,pR 5 3,pR 6 4,pR 8 5,(10,jI (plan.length:Int)),(11,jI need),(42,.d (.sl 4 (List.map e58 o0_B.Hanks))),(43,jI (o0_B.Hanks.length:Int)),(44,jI v),(85,.clo 112 [] [.ptr 0 0,.ptr 1 0,.ptr 2 0,.ptr 3 0,.ptr 4 0]),(92,.own 9 (List.map e3 l1).length),(93,.agg [jI ((aset cut j3 (wr ((cut j2)+need))) 0),jI ((aset cut j3 (wr ((cut j2)+need))) 1),jI ((aset cut j3 (wr ((cut j2)+need))) 2),jI ((aset cut j3 (wr ((cut j2)+need))) 3),jI ((aset cut j3 (wr ((cut j2)+need))) 4)])],[(9,.row 3 1 (List.map e3 l1)),(8,.row 3 1 (List.map e3 [v])),(7,.var 92 [jI ((aset cut j3 (wr ((cut j2)+need))) 0),jI ((aset cut j3 (wr ((cut j2)+need))) 1),jI ((aset cut j3 (wr ((cut j2)+need))) 2),jI ((aset cut j3 (wr ((cut j2)+need))) 3),jI ((aset cut j3 (wr ((cut j2)+need))) 4)]),(5,.var 92 (cfv cut)),(0,.var 78 (hbm o0_B mf)),(1,.var 127 [.yld]),(2,.var 99 [.d (.fn 108)]),(3,.var 65 [.clo 89 [.agg (hbm m0_B mf_1)] []]),(4,.var 127 [.clo 112 [] [.ptr 0 0,.ptr 1 0,.ptr 2 0,.ptr 3 0,.ptr 4 0]])],10,(fr_ s_2),[],5⟩ ?_
      obtain ⟨⟨r0_7_1,s_5_1⟩,hx_36,h⟩:=bsome h
      refine r_callvS (zr:=[(9,.row 3 1 (List.map e3 l1))]) [0,1,2,3,4] trivial rfl (.clo _ _ _) (by kernel_rfl) rfl (ih l1 (aset cut j3 (wr ((cut j2)+need))) o0_B mf m0_B mf_1 s_2 _ hx_36) ⟨rfl,rfl,rfl,rfl,rfl,rfl,trivial⟩ rfl rfl ⟨(.own rfl rfl),.refl _,.refl _,.refl _,.refl _,.refl _,.refl _,trivial⟩ rfl rfl rfl ?_
      refine aX 1 ⟨[(0,.d (q1 plan)),pR 4 2,pR 5 3,pR 6 4,pR 8 5,(10,jI (plan.length:Int)),(11,jI need),(42,.d (.sl 4 (List.map e58 o0_B.Hanks))),(43,jI (o0_B.Hanks.length:Int)),(44,jI v),(95,.d (.bool (!r0_7_1)))],[(0,.var 78 (hbm o0_B mf)),(1,.var 127 [.yld]),(2,.var 99 [.d (.fn 108)]),(3,.var 65 [.clo 89 [.agg (hbm m0_B mf_1)] []]),(4,.var 127 [.clo 112 [] [.ptr 0 0,.ptr 1 0,.ptr 2 0,.ptr 3 0,.ptr 4 0]]),(9,.dead),(8,.row 3 1 (List.map e3 [v])),(7,.var 92 [jI ((aset cut j3 (wr ((cut j2)+need))) 0),jI ((aset cut j3 (wr ((cut j2)+need))) 1),jI ((aset cut j3 (wr ((cut j2)+need))) 2),jI ((aset cut j3 (wr ((cut j2)+need))) 3),jI ((aset cut j3 (wr ((cut j2)+need))) 4)]),(5,.var 92 (cfv cut))],10,(fr_ s_5_1),[],5⟩ ?_
      refine Fi ⟨[(0,.d (q1 plan)),pR 4 2,pR 5 3,pR 6 4,pR 8 5,(10,jI (plan.length:Int)),(11,jI need),(42,.d (.sl 4 (List.map e58 o0_B.Hanks))),(43,jI (o0_B.Hanks.length:Int)),(44,jI v),(95,.d (.bool (!r0_7_1)))],(y38 o0_B mf m0_B mf_1 cut),10,(fr_ s_5_1),[],5⟩ ?_
      refine hQ_33 _ ?_
      refine AW.cond rfl (fun hb_37=>?_) (fun hb_37=>?_)
      ·have h:=ifT hb_37 h
       refine Sa ⟨[(9,.d (.bool false))],(y36 o0_B mf m0_B mf_1),10,(fr_ s_5_1),[],5⟩ ?_
       obtain rfl:=Option.some.inj h
       have e_1:=hb_16 _ rfl
       subst e_1
       obtain rfl:=Aft.bk hk_16
       exact rT hR_0 (.cons (.tmp rfl) .nil)
      ·have h:=ifF hb_37 h
       refine AW.skip (hK_19 _ ?_)
       refine Ra ⟨[(0,.d (q1 plan)),pR 4 2,pR 5 3,pR 6 4,pR 8 5,(10,jI (plan.length:Int)),(11,jI need),(42,.d (.sl 4 (List.map e58 o0_B.Hanks))),(43,jI (o0_B.Hanks.length:Int)),(44,jI (wr (v+1)))],(y38 o0_B mf m0_B mf_1 cut),10,(fr_ s_5_1),[],5⟩ ?_
       obtain rfl:=Option.some.inj h
       have ew:wr (v+1)=v+1:=inext (N:=(o0_B.Hanks.length:Int)) (by omega) (by omega) (by omega)
       rw [ew]
       exact hK_16 _ _ rfl (Can.kp (by kernel_rfl))
    ·subst hout
     have h:=Aft.nx hk_16
     refine Sa ⟨[(0,.d (q1 plan)),pR 4 2,pR 5 3,pR 6 4,pR 8 5,(10,jI (plan.length:Int)),(11,jI need),(42,.d (.sl 4 (List.map e58 o0_B.Hanks))),(43,jI (o0_B.Hanks.length:Int)),(44,jI v),(45,.d (.bool (decide (v<(o0_B.Hanks.length:Int)))))],(y35 cut o0_B mf m0_B mf_1),6,(fr_ s_2),[],5⟩ ?_
     refine AW.seqK (fun K_38 hK_38=>?_)
     refine AW.cond rfl (fun hb_39=>False.elim (by have:=of_decide_eq_true hb_39;omega)) (fun hb_39=>?_)
     refine AW.exit ?_
     refine hK_14 _ ?_
     refine Sa ⟨[(9,.d (.bool true))],(y36 o0_B mf m0_B mf_1),6,(fr_ s_2),[],5⟩ ?_
     obtain rfl:=Option.some.inj h
     exact rT hR_0 (.cons (.tmp rfl) .nil)
def g111a {S_:Type} (c_:(List Int)→(Nat→Int)→S_→Option (S_×Bool)) (o0_B:HairBook) (mf:List (Hair_dye×Span)) (m0_B:HairBook) (mf_1:List (Hair_dye×Span)) (s_:S_):Option S_:=(g105).bind fun r0=>(g112a c_ 1000 ([]:(List Int)) r0 o0_B mf m0_B mf_1 s_).bind fun (r0_7,s_5)=>some s_5
def y39 (o0_B:HairBook) (mf:List (Hair_dye×Span)) (m0_B:HairBook) (mf_1:List (Hair_dye×Span)):List (Nat×Blk):=[(4,.var 127 [.clo 112 [] [.ptr 0 0,.ptr 3 0,.ptr 1 0,.ptr 2 0,.ptr 4 0]]),(3,.var 127 [.yld]),(0,.var 78 (hbm o0_B mf)),(1,.var 99 [.d (.fn 108)]),(2,.var 65 [.clo 89 [.agg (hbm m0_B mf_1)] []])]
theorem k111a {S_:Type} (fr_:S_→Fr) (c_:(List Int)→(Nat→Int)→S_→Option (S_×Bool)) (hc_:∀ (a0:(List Int)) (a1:(Nat→Int)) s s2 b,c_ a0 a1 s=some (s2,b)→YCall Tryd.prog Gs (fr_ s) [.d (q1 a0),.agg (cfv a1)] (.d (.bool b)) (fr_ s2)) (o0_B:HairBook) (mf:List (Hair_dye×Span)) (m0_B:HairBook) (mf_1:List (Hair_dye×Span)) (s_:S_) (r:S_) (h:g111a c_ o0_B mf m0_B mf_1 s_=some r):SCall Tryd.prog Gs 111 [.yld,.ptr 0 0,.ptr 1 0,.ptr 2 0] [(0,.var 78 (hbm o0_B mf)),(1,.var 99 [.d (.fn 108)]),(2,.var 65 [.clo 89 [.agg (hbm m0_B mf_1)] []])] 3 (fr_ s_) (.tup []) [(0,.var 78 (hbm o0_B mf)),(1,.var 99 [.d (.fn 108)]),(2,.var 65 [.clo 89 [.agg (hbm m0_B mf_1)] []])] 3 (fr_ r):=by
 unfold g111a at h
 refine SCall.mkK Tryd.func111 c111 rfl rfl (by kernel_rfl) (fun Q_0 hR_0 hN_0=>?_)
 refine Sa ⟨[pR 1 0,pR 2 1,pR 3 2,pR 4 3],[(3,.var 127 [.yld]),(0,.var 78 (hbm o0_B mf)),(1,.var 99 [.d (.fn 108)]),(2,.var 65 [.clo 89 [.agg (hbm m0_B mf_1)] []])],4,(fr_ s_),[],3⟩ ?_
 refine Sa ⟨[pR 1 0,pR 2 1,pR 3 2,pR 4 3,pR 5 4],[(4,.var 127 [.d (.nilFn)]),(3,.var 127 [.yld]),(0,.var 78 (hbm o0_B mf)),(1,.var 99 [.d (.fn 108)]),(2,.var 65 [.clo 89 [.agg (hbm m0_B mf_1)] []])],5,(fr_ s_),[],3⟩ ?_
 refine Sa ⟨[pR 5 4],(y39 o0_B mf m0_B mf_1),5,(fr_ s_),[],3⟩ ?_
 refine AW.drw fokW ?_
 refine aX 1 ⟨[(7,.clo 112 [] [.ptr 0 0,.ptr 3 0,.ptr 1 0,.ptr 2 0,.ptr 4 0])],(y39 o0_B mf m0_B mf_1),5,(fr_ s_),[],3⟩ ?_
 obtain ⟨r0,hx_2,h⟩:=bsome h
 refine r_call trivial rfl (k105 _ hx_2) rfl rfl ?_
 obtain ⟨⟨r0_7,s_5⟩,hx_3,h⟩:=bsome h
 refine r_callvS (zr:=[]) [0,3,1,2,4] trivial rfl (.clo _ _ _) (by kernel_rfl) rfl (k112a fr_ c_ hc_ 1000 ([]:(List Int)) r0 o0_B mf m0_B mf_1 s_ _ hx_3) ⟨rfl,rfl,rfl,rfl,rfl,trivial⟩ rfl rfl ⟨(.nil 1),.refl _,.refl _,.refl _,.refl _,.refl _,.refl _,trivial⟩ rfl rfl rfl ?_
 refine Fi ⟨[],[(0,.var 78 (hbm o0_B mf)),(1,.var 99 [.d (.fn 108)]),(2,.var 65 [.clo 89 [.agg (hbm m0_B mf_1)] []])],5,(fr_ s_5),[],3⟩ ?_
 obtain rfl:=Option.some.inj h
 exact hN_0 _ (retX .nil (.refl _) rfl (by kernel_rfl) (by kernel_rfl))
def g91_r11:((List Int)×(Nat→Int))→(Unit)→Option (Ctl (Unit) (Unit)):=fun (a,a1) _=>some (.brk ())
def g91_16 (rec_:(List HairHank)→HairBook→Option Bool) (hanks:(List HairHank)) (o0:HairBook) (p:HairHank):Int→Unit→Option (Ctl (Unit) (Ctl (Unit) (Ctl (Unit) (Bool)))):=fun v _=>(slcL hanks 0 (hanks.length:Int)).bind fun l=>(appL 32 l [(HairHank.mk p.Weight (Span.mk (wr (p.Shade.Low+v)) (wr (p.Shade.Low+v))))]).bind fun l1=>(rec_ l1 o0).bind fun r0_4_1=>bif r0_4_1 then (some (.brk (.brk (.brk true)))) else (some (.next ()))
def g91:Nat→(List HairHank)→HairBook→Option Bool
 | 0,_,_=>none
 | n_+1,hanks,o0=>bif (decide ((hanks.length:Int)=(o0.Hanks.length:Int))) then ((g80 (HairBook.mk hanks o0.Horses o0.Dark o0.Near o0.Match)).bind fun (r0_B,mf)=>(g77).bind fun _=>(g88a r0_B mf r0_B mf).bind fun (o0_B,mf1)=>(g111a (fun a a1 s=>rndC g91_r11 (a,a1) s) o0_B mf1 r0_B mf (.next ())).bind fun out_11=>match out_11 with | .next _=>some false | .brk _=>some true) else ((ixL o0.Hanks (hanks.length:Int)).bind fun p=>bindC (bindC (bindC (forC (g91_16 (g91 n_) hanks o0 p) ((((wr ((wr (p.Shade.High - p.Shade.Low))+1)):Int) - 0).toNat) 0 ()) fun _=>some (.next ()):Option (Ctl (Unit) (Ctl (Unit) (Bool)))) fun _=>some (.next ()):Option (Ctl (Unit) (Bool))) fun _=>some false)
def y40 (o0:HairBook):List (Nat×Blk):=[(2,.var 4 [.d (.bool false)]),(0,.var 25 (cv25 o0)),(1,.var 110 [.clo 91 [] [.ptr 0 0,.ptr 1 0]])]
theorem k91:∀ (n_:Nat) (hanks:(List HairHank)) (o0:HairBook) (r:Bool) (h:g91 n_ hanks o0=some r),SCall Tryd.prog Gs 91 [.d (.sl 4 (List.map e58 hanks)),.ptr 0 0,.ptr 1 0] [(0,.var 25 (cv25 o0)),(1,.var 110 [.clo 91 [] [.ptr 0 0,.ptr 1 0]])] 2 Fr.emp (.d (.bool r)) [(0,.var 25 (cv25 o0)),(1,.var 110 [.clo 91 [] [.ptr 0 0,.ptr 1 0]])] 2 Fr.emp:=by
 intro n_
 induction n_ with
 | zero=>intro hanks o0 r h;cases h
 | succ n_ ih=>
  intro hanks o0 r h
  rw [g91] at h
  refine SCall.mkK Tryd.func91 c91 rfl rfl (by kernel_rfl) (fun Q_0 hR_0 hN_0=>?_)
  refine Sa (sT [(0,.d (.sl 4 (List.map e58 hanks))),pR 1 0,pR 2 1,pR 4 2] (y40 o0) 3 2) ?_
  refine AW.srwK (fun Q_1 hQ_1=>?_)
  refine Au 1 (sT [(0,.d (.sl 4 (List.map e58 hanks))),pR 1 0,pR 2 1,pR 4 2,(11,.d (.sl 4 (List.map e58 hanks)))] (y40 o0) 3 2) ?_
  refine rL rfl ?_
  refine Au 1 (sT [(0,.d (.sl 4 (List.map e58 hanks))),pR 1 0,pR 2 1,pR 4 2,(5,jI (hanks.length:Int))] (y40 o0) 3 2) ?_
  refine RW.nil (hQ_1 _ ?_)
  refine AW.seqK fun K_2 hK_2=>AW.srwK fun Q_3 hQ_3=>?_
  refine Au 3 (sT [(0,.d (.sl 4 (List.map e58 hanks))),pR 1 0,pR 2 1,pR 4 2,(5,jI (hanks.length:Int)),(13,jI (hanks.length:Int)),(15,.d (.sl 4 (List.map e58 o0.Hanks)))] (y40 o0) 3 2) ?_
  refine rL rfl ?_
  refine Au 1 (sT [(0,.d (.sl 4 (List.map e58 hanks))),pR 1 0,pR 2 1,pR 4 2,(5,jI (hanks.length:Int)),(17,.d (.bool (decide ((hanks.length:Int)=(o0.Hanks.length:Int)))))] (y40 o0) 3 2) ?_
  refine RW.nil (hQ_3 _ ?_)
  refine AW.cond rfl (fun hb_4=>?_) (fun hb_4=>?_)
  ·have h:=ifT hb_4 h
   refine Sa (sT [(0,.d (.sl 4 (List.map e58 hanks))),pR 4 2,pR 6 3] [(3,.var 25 (cv25 o0)),(2,.var 4 [.d (.bool false)]),(0,.var 25 (cv25 o0)),(1,.var 110 [.clo 91 [] [.ptr 0 0,.ptr 1 0]])] 4 2) ?_
   refine Sa (sT [pR 4 2,pR 6 3] [(3,.var 25 [.d (.sl 4 (List.map e58 hanks)),.d (.sl 3 (List.map e69 o0.Horses)),jI o0.Dark,jI o0.Near,jI o0.Match]),(2,.var 4 [.d (.bool false)]),(0,.var 25 (cv25 o0)),(1,.var 110 [.clo 91 [] [.ptr 0 0,.ptr 1 0]])] 4 2) ?_
   refine AW.srwK (fun Q_5 hQ_5=>?_)
   refine Au 1 (sT [pR 4 2,(21,.agg [.d (.sl 4 (List.map e58 hanks)),.d (.sl 3 (List.map e69 o0.Horses)),jI o0.Dark,jI o0.Near,jI o0.Match])] (y40 o0) 4 2) ?_
   obtain ⟨⟨r0_B,mf⟩,hx_6,h⟩:=bsome h
   refine rC (k80 (HairBook.mk hanks o0.Horses o0.Dark o0.Near o0.Match) _ hx_6) ?_
   refine Au 2 (sT [pR 4 2,pR 7 4] [(4,.var 78 (hbm r0_B mf)),(2,.var 4 [.d (.bool false)]),(0,.var 25 (cv25 o0)),(1,.var 110 [.clo 91 [] [.ptr 0 0,.ptr 1 0]])] 5 2) ?_
   refine RW.nil (hQ_5 _ ?_)
   refine AW.seqK (fun K_7 hK_7=>?_)
   refine AW.sdrwK fokW (fun Q_8 hQ_8=>?_)
   refine aX 1 (sT [pR 4 2,pR 7 4,(23,.agg (hbm r0_B mf))] [(4,.var 78 (hbm r0_B mf)),(2,.var 4 [.d (.bool false)]),(0,.var 25 (cv25 o0)),(1,.var 110 [.clo 91 [] [.ptr 0 0,.ptr 1 0]])] 5 2) ?_
   obtain ⟨⟨⟩,hx_9,h⟩:=bsome h
   refine r_call trivial rfl (k77 _ hx_9) rfl rfl ?_
   refine aX 2 (sT [pR 4 2,(23,.agg (hbm r0_B mf)),(24,.agg [.d (.fn 108)]),(26,.clo 89 [.agg (hbm r0_B mf)] [])] [(4,.var 78 (hbm r0_B mf)),(2,.var 4 [.d (.bool false)]),(0,.var 25 (cv25 o0)),(1,.var 110 [.clo 91 [] [.ptr 0 0,.ptr 1 0]])] 5 2) ?_
   obtain ⟨⟨o0_B,mf1⟩,hx_10,h⟩:=bsome h
   refine r_callS (zr:=[]) [] trivial rfl (k88a r0_B mf r0_B mf _ hx_10) trivial rfl rfl ⟨.refl _,.refl _,.refl _,trivial⟩ rfl rfl rfl ?_
   refine Fi (sT [pR 4 2,(27,.clo 111 [] [.ptr 5 0,.ptr 6 0,.ptr 7 0])] [(5,.var 78 (hbm o0_B mf1)),(6,.var 99 [.d (.fn 108)]),(7,.var 65 [.clo 89 [.agg (hbm r0_B mf)] []]),(2,.var 4 [.d (.bool false)]),(0,.var 25 (cv25 o0)),(1,.var 110 [.clo 91 [] [.ptr 0 0,.ptr 1 0]])] 8 2) ?_
   refine hQ_8 _ ?_
   refine AW.block ?_
   obtain ⟨out_11,hx_11,h⟩:=bsome h
   refine AW.rfX (fun (_:Unit)=>[(8,.dm),(2,.var 4 [.d (.bool false)]),(0,.var 25 (cv25 o0)),(1,.var 110 [.clo 91 [] [.ptr 0 0,.ptr 1 0]])]) (fun (_:Unit)=>[(8,.dm),(2,.var 4 [.d (.bool true)]),(0,.var 25 (cv25 o0)),(1,.var 110 [.clo 91 [] [.ptr 0 0,.ptr 1 0]])]) (fun _=>some .ret) g91_r11 (fun (⟨a,a1⟩:(List Int)×(Nat→Int))=>[.d (q1 a),.agg (cfv a1)]) (s0:=()) (out:=out_11) [pR 4 2] [(2,.var 4 [.d (.bool false)]),(0,.var 25 (cv25 o0)),(1,.var 110 [.clo 91 [] [.ptr 0 0,.ptr 1 0]])] [5,6,7] rfl (.clo _ _ _) (by kernel_rfl) (by kernel_rfl) (fun fr_ hY_11=>k111a fr_ _ (fun a a1 s s2 b h=>hY_11 (a,a1) s s2 b h) o0_B mf1 r0_B mf (.next ()) _ hx_11) (by kernel_rfl) ⟨rfl,rfl,rfl,trivial⟩ rfl ⟨rfl,rfl⟩ rfl rfl (fun _=>rfl) (fun _=>rfl) (fun a_11 s_11 c_11 h l_11=>?_) (fun _=>rfl) ?_
   ·obtain ⟨a,a1⟩:=a_11
    unfold g91_r11 at h
    refine AW.skip ?_
    refine AW.block ?_
    refine AW.sa (fokR l_11) [] (sT [pR 4 2] [(2,.var 4 [.d (.bool true)]),(8,.dm),(0,.var 25 (cv25 o0)),(1,.var 110 [.clo 91 [] [.ptr 0 0,.ptr 1 0]])] 9 9) (by kernel_rfl) ?_
    refine AW.ret ?_
    obtain rfl:=Option.some.inj h
    exact ⟨(sT [] [(8,.dm),(2,.var 4 [.d (.bool true)]),(0,.var 25 (cv25 o0)),(1,.var 110 [.clo 91 [] [.ptr 0 0,.ptr 1 0]])] 9 9),Can.kp (by kernel_rfl),rdX trivial rfl (by kernel_rfl) (by kernel_rfl)⟩
   ·rcases out_11 with _ | _
    ·refine hK_7 _ ?_
     refine Sa ⟨[pR 4 2],[(2,.var 4 [.d (.bool false)]),(8,.dm),(0,.var 25 (cv25 o0)),(1,.var 110 [.clo 91 [] [.ptr 0 0,.ptr 1 0]])],9,Fr.emp,[8],2⟩ ?_
     obtain rfl:=Option.some.inj h
     exact rT hR_0 (.cons (.one rfl rfl rfl) .nil)
    ·obtain rfl:=Option.some.inj h
     exact hR_0 _ (retX (.cons (.one rfl rfl rfl) .nil) (.refl _) rfl (by kernel_rfl) (by kernel_rfl))
  ·have h:=ifF hb_4 h
   refine AW.skip (hK_2 _ ?_)
   refine AW.srwK (fun Q_12 hQ_12=>?_)
   refine Au 3 (sT [(0,.d (.sl 4 (List.map e58 hanks))),pR 1 0,pR 2 1,pR 4 2,(5,jI (hanks.length:Int)),(31,.d (.sl 4 (List.map e58 o0.Hanks))),(32,jI (hanks.length:Int))] (y40 o0) 3 2) ?_
   obtain ⟨p,hv_13,h⟩:=bsome h
   refine RW.one fokW (r_iaD trivial rfl rfl (ixL_ok hv_13).1 (row:=e58 p) (mapget (ixL_ok hv_13).2) (r_end ?_))
   refine Au 4 (sT [(0,.d (.sl 4 (List.map e58 hanks))),pR 1 0,pR 2 1,pR 4 2,(5,jI (hanks.length:Int)),pR 8 3] [(3,.var 35 [jI p.Shade.Low,jI p.Shade.High]),(2,.var 4 [.d (.bool false)]),(0,.var 25 (cv25 o0)),(1,.var 110 [.clo 91 [] [.ptr 0 0,.ptr 1 0]])] 4 2) ?_
   refine RW.nil (hQ_12 _ ?_)
   obtain ⟨c_14,hx_14,hk_14⟩:=bsomeC h
   refine AW.jnK (fun (_:Unit)=>(sT [pR 4 2] (y40 o0) 4 2)) (c:=c_14) (fun K_14 hK_14=>?_) (fun j_14 hj_14=>?_)
   ·have h:=hx_14
    refine Sa (sT [(0,.d (.sl 4 (List.map e58 hanks))),pR 1 0,pR 2 1,pR 4 2,(5,jI (hanks.length:Int)),pR 8 3,(41,jI (wr ((wr (p.Shade.High - p.Shade.Low))+1))),(42,jI 0)] [(3,.var 35 [jI p.Shade.Low,jI p.Shade.High]),(2,.var 4 [.d (.bool false)]),(0,.var 25 (cv25 o0)),(1,.var 110 [.clo 91 [] [.ptr 0 0,.ptr 1 0]])] 4 2) ?_
    obtain ⟨c_15,hx_15,hk_15⟩:=bsomeC h
    refine AW.jqK (fun (_:Unit)=>(sT [pR 4 2] (y40 o0) 4 2)) (c:=c_15) (fun K_15 hK_15=>?_) (fun j_15 hj_15=>?_)
    ·have h:=hx_15
     refine AW.block ?_
     have hN_16:(wr ((wr (p.Shade.High - p.Shade.Low))+1))≤9223372036854775807:=(wr_range _).2
     obtain ⟨out_16,hx_16,hk_16⟩:=bsomeC h
     refine AW.lpCK (fun (v:Int) (_:Unit)=>(sT [(0,.d (.sl 4 (List.map e58 hanks))),pR 1 0,pR 2 1,pR 4 2,(5,jI (hanks.length:Int)),pR 8 3,(41,jI (wr ((wr (p.Shade.High - p.Shade.Low))+1))),(42,jI v)] [(3,.var 35 [jI p.Shade.Low,jI p.Shade.High]),(2,.var 4 [.d (.bool false)]),(0,.var 25 (cv25 o0)),(1,.var 110 [.clo 91 [] [.ptr 0 0,.ptr 1 0]])] 4 2)) (g91_16 (g91 n_) hanks o0 p) ((wr ((wr (p.Shade.High - p.Shade.Low))+1))) hx_16 (Can.kp (by kernel_rfl)) (fun v s_16 hi_16 hl_16 c_16 h hb_16 K_16 hK_16=>?_) (fun v s_16 hi_16 hl_16 hout=>?_)
     ·unfold g91_16 at h
      refine Sa (sT [(0,.d (.sl 4 (List.map e58 hanks))),pR 1 0,pR 2 1,pR 4 2,(5,jI (hanks.length:Int)),pR 8 3,(41,jI (wr ((wr (p.Shade.High - p.Shade.Low))+1))),(42,jI v),(43,.d (.bool (decide (v<(wr ((wr (p.Shade.High - p.Shade.Low))+1))))))] [(3,.var 35 [jI p.Shade.Low,jI p.Shade.High]),(2,.var 4 [.d (.bool false)]),(0,.var 25 (cv25 o0)),(1,.var 110 [.clo 91 [] [.ptr 0 0,.ptr 1 0]])] 4 2) ?_
      refine AW.seqK (fun K_17 hK_17=>?_)
      refine AW.cond rfl (fun hb_18=>?_) (fun hb_18=>False.elim (by have:=of_decide_eq_false hb_18;omega))
      refine AW.skip (hK_17 _ ?_)
      refine AW.seqK (fun K_19 hK_19=>?_)
      refine AW.block ?_
      refine Sa (sT [(0,.d (.sl 4 (List.map e58 hanks))),pR 1 0,pR 2 1,pR 4 2,(5,jI (hanks.length:Int)),pR 8 3,(9,jI v),(41,jI (wr ((wr (p.Shade.High - p.Shade.Low))+1))),(42,jI v)] [(3,.var 35 [jI p.Shade.Low,jI p.Shade.High]),(2,.var 4 [.d (.bool false)]),(0,.var 25 (cv25 o0)),(1,.var 110 [.clo 91 [] [.ptr 0 0,.ptr 1 0]])] 4 2) ?_
      refine Sa (sT [(0,.d (.sl 4 (List.map e58 hanks))),pR 1 0,pR 2 1,pR 4 2,(5,jI (hanks.length:Int)),pR 8 3,pR 10 4,(41,jI (wr ((wr (p.Shade.High - p.Shade.Low))+1))),(42,jI v)] [(4,.var 35 [jI (wr (p.Shade.Low+v)),jI (wr (p.Shade.Low+v))]),(3,.var 35 [jI p.Shade.Low,jI p.Shade.High]),(2,.var 4 [.d (.bool false)]),(0,.var 25 (cv25 o0)),(1,.var 110 [.clo 91 [] [.ptr 0 0,.ptr 1 0]])] 5 2) ?_
      refine AW.sdrwK fokW (fun Q_20 hQ_20=>?_)
      refine aX 4 (sT [(0,.d (.sl 4 (List.map e58 hanks))),pR 1 0,pR 2 1,pR 4 2,(5,jI (hanks.length:Int)),pR 8 3,pR 10 4,(41,jI (wr ((wr (p.Shade.High - p.Shade.Low))+1))),(42,jI v),(54,.clo 91 [] [.ptr 0 0,.ptr 1 0]),(55,.d (.sl 4 (List.map e58 hanks))),(56,jI (hanks.length:Int)),(57,jI (hanks.length:Int))] [(4,.var 35 [jI (wr (p.Shade.Low+v)),jI (wr (p.Shade.Low+v))]),(3,.var 35 [jI p.Shade.Low,jI p.Shade.High]),(2,.var 4 [.d (.bool false)]),(0,.var 25 (cv25 o0)),(1,.var 110 [.clo 91 [] [.ptr 0 0,.ptr 1 0]])] 5 2) ?_
      obtain ⟨l,hv_21,h⟩:=bsome h
      refine r_slN trivial rfl rfl rfl DSl.d (slcL_ok hv_21).2.1 (by rw [List.length_map];exact (slcL_ok hv_21).2.2.1) rfl (slz hv_21 e58) ?_
      refine aX 3 (sT [(0,.d (.sl 4 (List.map e58 hanks))),pR 1 0,pR 2 1,pR 4 2,(5,jI (hanks.length:Int)),pR 8 3,pR 10 4,(41,jI (wr ((wr (p.Shade.High - p.Shade.Low))+1))),(42,jI v),(54,.clo 91 [] [.ptr 0 0,.ptr 1 0]),(58,.fsl 4 (List.map e58 l)),(60,.d (.sl 4 (List.map e58 o0.Hanks))),(61,jI (hanks.length:Int))] [(4,.var 35 [jI (wr (p.Shade.Low+v)),jI (wr (p.Shade.Low+v))]),(3,.var 35 [jI p.Shade.Low,jI p.Shade.High]),(2,.var 4 [.d (.bool false)]),(0,.var 25 (cv25 o0)),(1,.var 110 [.clo 91 [] [.ptr 0 0,.ptr 1 0]])] 5 2) ?_
      refine r_iaD trivial rfl rfl (ixL_ok hv_13).1 (row:=e58 p) (mapget (ixL_ok hv_13).2) ?_
      refine aX 5 (sT [(0,.d (.sl 4 (List.map e58 hanks))),pR 1 0,pR 2 1,pR 4 2,(5,jI (hanks.length:Int)),pR 8 3,(41,jI (wr ((wr (p.Shade.High - p.Shade.Low))+1))),(42,jI v),(54,.clo 91 [] [.ptr 0 0,.ptr 1 0]),(58,.fsl 4 (List.map e58 l)),(67,.own 5 (List.map e58 [(HairHank.mk p.Weight (Span.mk (wr (p.Shade.Low+v)) (wr (p.Shade.Low+v))))]).length)] [(5,.row 58 4 (List.map e58 [(HairHank.mk p.Weight (Span.mk (wr (p.Shade.Low+v)) (wr (p.Shade.Low+v))))])),(4,.var 35 [jI (wr (p.Shade.Low+v)),jI (wr (p.Shade.Low+v))]),(3,.var 35 [jI p.Shade.Low,jI p.Shade.High]),(2,.var 4 [.d (.bool false)]),(0,.var 25 (cv25 o0)),(1,.var 110 [.clo 91 [] [.ptr 0 0,.ptr 1 0]])] 6 2) ?_
      obtain ⟨l1,hv_22,h⟩:=bsome h
      refine r_apF trivial rfl rfl rfl rfl (by simp) (zs:=List.map e58 l1) (apz hv_22 e58) (apr hv_22 e58) ?_
      obtain ⟨r0_4_1,hx_23,h⟩:=bsome h
      refine r_callvE (zr:=[(6,.row 58 4 (List.map e58 l1))]) [0,1] trivial rfl (.clo _ _ _) (by kernel_rfl) rfl (ih l1 o0 _ hx_23) ⟨rfl,rfl,rfl,trivial⟩ rfl rfl ⟨(.own rfl rfl),.refl _,.refl _,trivial⟩ rfl rfl rfl ?_
      refine Fi (sT [(0,.d (.sl 4 (List.map e58 hanks))),pR 1 0,pR 2 1,pR 4 2,(5,jI (hanks.length:Int)),pR 8 3,(41,jI (wr ((wr (p.Shade.High - p.Shade.Low))+1))),(42,jI v),(69,.d (.bool r0_4_1))] [(0,.var 25 (cv25 o0)),(1,.var 110 [.clo 91 [] [.ptr 0 0,.ptr 1 0]]),(3,.var 35 [jI p.Shade.Low,jI p.Shade.High]),(2,.var 4 [.d (.bool false)])] 7 2) ?_
      refine hQ_20 _ ?_
      refine AW.cond rfl (fun hb_24=>?_) (fun hb_24=>?_)
      ·have h:=ifT hb_24 h
       refine Sa (sT [pR 4 2] [(2,.var 4 [.d (.bool true)]),(0,.var 25 (cv25 o0)),(1,.var 110 [.clo 91 [] [.ptr 0 0,.ptr 1 0]])] 7 2) ?_
       obtain rfl:=Option.some.inj h
       have e_3:=hb_16 _ rfl
       subst e_3
       obtain rfl:=Aft.bk hk_16
       obtain rfl:=Aft.bk hk_15
       obtain rfl:=Aft.bk hk_14
       exact rT hR_0 (.cons (.one rfl rfl rfl) .nil)
      ·have h:=ifF hb_24 h
       refine AW.skip (hK_19 _ ?_)
       refine Ra (sT [(0,.d (.sl 4 (List.map e58 hanks))),pR 1 0,pR 2 1,pR 4 2,(5,jI (hanks.length:Int)),pR 8 3,(41,jI (wr ((wr (p.Shade.High - p.Shade.Low))+1))),(42,jI (wr (v+1)))] [(0,.var 25 (cv25 o0)),(1,.var 110 [.clo 91 [] [.ptr 0 0,.ptr 1 0]]),(3,.var 35 [jI p.Shade.Low,jI p.Shade.High]),(2,.var 4 [.d (.bool false)])] 7 2) ?_
       obtain rfl:=Option.some.inj h
       have ew:wr (v+1)=v+1:=inext (N:=(wr ((wr (p.Shade.High - p.Shade.Low))+1))) (by omega) (by omega) (by omega)
       rw [ew]
       exact hK_16 _ _ rfl (Can.kp (by kernel_rfl))
     ·subst hout
      have h:=Aft.nx hk_16
      refine Sa (sT [(0,.d (.sl 4 (List.map e58 hanks))),pR 1 0,pR 2 1,pR 4 2,(5,jI (hanks.length:Int)),pR 8 3,(41,jI (wr ((wr (p.Shade.High - p.Shade.Low))+1))),(42,jI v),(43,.d (.bool (decide (v<(wr ((wr (p.Shade.High - p.Shade.Low))+1))))))] [(3,.var 35 [jI p.Shade.Low,jI p.Shade.High]),(2,.var 4 [.d (.bool false)]),(0,.var 25 (cv25 o0)),(1,.var 110 [.clo 91 [] [.ptr 0 0,.ptr 1 0]])] 4 2) ?_
      refine AW.seqK (fun K_25 hK_25=>?_)
      refine AW.cond rfl (fun hb_26=>False.elim (by have:=of_decide_eq_true hb_26;omega)) (fun hb_26=>?_)
      refine AW.exit ?_
      obtain rfl:=Option.some.inj h
      exact hK_15 _ _ rfl (Can.kp (by kernel_rfl))
    ·subst hj_15
     have h:=Aft.nx hk_15
     obtain rfl:=Option.some.inj h
     exact hK_14 _ _ rfl (Can.kp (by kernel_rfl))
   ·subst hj_14
    have h:=Aft.nx hk_14
    refine Sa (sT [pR 4 2] (y40 o0) 4 2) ?_
    obtain rfl:=Option.some.inj h
    exact rT hR_0 (.cons (.one rfl rfl rfl) .nil)
def g33 (x:HairBook):Option (Bool×Int):=(g17 x).bind fun r0_9=>bif (decide (r0_9≠0)) then (some (false,r0_9)) else ((g91 1000 ([]:(List HairHank)) x).bind fun r0_4=>some (r0_4,0))
def y41 (x:HairBook):List (Nat×Blk):=[(1,.var 110 [.clo 91 [] [.ptr 0 0,.ptr 1 0]]),(0,.var 25 (cv25 x))]
theorem k33 (x:HairBook) (r:Bool×Int) (h:g33 x=some r):SCall Tryd.prog Gs 33 [.agg (cv25 x)] [] 0 Fr.emp (match r with | (r0_1,r1_1)=>.tup [.d (.bool r0_1),jI r1_1]) [] 0 Fr.emp:=by
 unfold g33 at h
 refine SCall.mkK Tryd.func33 c33 rfl rfl (by kernel_rfl) (fun Q_0 hR_0 hN_0=>?_)
 refine Sa (sT [pR 1 0] [(0,.var 25 (cv25 x))] 1 0) ?_
 refine AW.seqK fun K_1 hK_1=>AW.srwK fun Q_2 hQ_2=>?_
 refine Au 1 (sT [pR 1 0,(6,.agg (cv25 x))] [(0,.var 25 (cv25 x))] 1 0) ?_
 obtain ⟨r0_9,hx_3,h⟩:=bsome h
 refine rC (k17 x _ hx_3) ?_
 refine Au 1 (sT [pR 1 0,(4,jI r0_9)] [(0,.var 25 (cv25 x))] 1 0) ?_
 refine RW.nil (hQ_2 _ ?_)
 refine Sa (sT [pR 1 0,(4,jI r0_9),(9,.d (.bool (decide (r0_9≠0))))] [(0,.var 25 (cv25 x))] 1 0) ?_
 refine AW.cond rfl (fun hb_4=>?_) (fun hb_4=>?_)
 ·have h:=ifT hb_4 h
  refine Sa (sT [(2,.d (.bool false)),(3,jI r0_9)] [] 1 0) ?_
  obtain rfl:=Option.some.inj h
  exact rT hR_0 (.cons (.tmp rfl) (.cons (.tmp rfl) .nil))
 ·have h:=ifF hb_4 h
  refine AW.skip (hK_1 _ ?_)
  refine Sa (sT [pR 1 0,pR 5 1] [(1,.var 110 [.d (.nilFn)]),(0,.var 25 (cv25 x))] 2 0) ?_
  refine Sa (sT [pR 5 1] (y41 x) 2 0) ?_
  refine AW.srwK (fun Q_5 hQ_5=>?_)
  refine Au 1 (sT [(12,.clo 91 [] [.ptr 0 0,.ptr 1 0])] (y41 x) 2 0) ?_
  obtain ⟨r0_4,hx_6,h⟩:=bsome h
  refine RW.one fokW (r_callvE (zr:=[]) [0,1] trivial rfl (.clo _ _ _) (by kernel_rfl) rfl (k91 1000 ([]:(List HairHank)) x _ hx_6) ⟨rfl,rfl,trivial⟩ rfl rfl ⟨(.nil 4),.refl _,.refl _,trivial⟩ rfl rfl rfl (r_end ?_))
  refine Au 2 (sT [(2,.d (.bool r0_4)),(3,jI 0)] [] 2 0) ?_
  refine RW.nil (hQ_5 _ ?_)
  obtain rfl:=Option.some.inj h
  exact rT hR_0 (.cons (.tmp rfl) (.cons (.tmp rfl) .nil))
def g25 :Option Bool:=(g53).bind fun (r0_Hanks,r0_Horses,r0_Dark,r0_Near,r0_Match)=>(g15 (HairBook.mk r0_Hanks r0_Horses r0_Dark r0_Near r0_Match) 0 1 2).bind fun (r0_4,r1_5,r2_4)=>(g53).bind fun (r0_Hanks1,r0_Horses1,r0_Dark1,r0_Near1,r0_Match1)=>(g19 (HairBook.mk r0_Hanks1 r0_Horses1 r0_Dark1 r0_Near1 r0_Match1) [2,2,1,1]).bind fun (r0_2,r1_4)=>(g53).bind fun (r0_Hanks2,r0_Horses2,r0_Dark2,r0_Near2,r0_Match2)=>(g23 (HairBook.mk r0_Hanks2 r0_Horses2 r0_Dark2 r0_Near2 r0_Match2) [2,2,1,1]).bind fun (r0_2_1,r1_4_1)=>(g53).bind fun (r0_Hanks3,r0_Horses3,r0_Dark3,r0_Near3,r0_Match3)=>(g21 (HairBook.mk r0_Hanks3 r0_Horses3 r0_Dark3 r0_Near3 r0_Match3) [0,0,1,1] 0).bind fun (r0_2_2,r1_4_2)=>(g79).bind fun r0_1=>(g26 r0_1).bind fun (r0_3,r1_3)=>bindC ((bif (decide (r2_4≠0)) then (some true) else (bif (decide (r1_4≠0)) then (some true) else (bif (decide (r1_4_1≠0)) then (some true) else (bif (decide (r1_4_2≠0)) then (some true) else (bif (decide (r1_3≠0)) then (some true) else (bif (decide (r0_4≠0)) then (some true) else (bif (decide (r1_5≠2)) then (some true) else (bif (!r0_2) then (some true) else ((g44 10 13).bind fun r0=>bif (true != ((r0_2_1.Low==r0.Low)&&((r0_2_1.High==r0.High)&&true))) then (some true) else ((g44 0 1).bind fun r0_5=>bif (true != ((r0_2_2.Low==r0_5.Low)&&((r0_2_2.High==r0_5.High)&&true))) then (some true) else ((g28 r0_3 [2,2,0,0]).bind fun r0_6=>some (!r0_6)))))))))))).bind fun v=>bif v then (some (.brk false)) else (some (.next ())):Option (Ctl (Unit) (Bool))) fun _=>(g54).bind fun r0_7=>(g29 r0_7).bind fun (r0_2_3,r1_1)=>(g54).bind fun r0_8=>(g31 r0_8 6).bind fun (r0_5_1,r1_6)=>(g54).bind fun r0_9=>(g33 r0_9).bind fun (r0_1_1,r1_1_1)=>(bif (((decide (r1_1=0))&&(decide (r1_6=0)))&&(decide (r1_1_1=0))) then ((g28 r0_2_3 [0]).bind fun r0_10=>some r0_10) else (some false)).bind fun v1=>some ((v1&&(decide (r0_5_1=3)))&&r0_1_1)
theorem k25  (r:Bool) (h:g25=some r):SCall Tryd.prog Gs 25 [] [] 0 Fr.emp (.d (.bool r)) [] 0 Fr.emp:=by
 unfold g25 at h
 refine SCall.mkK Tryd.func25 c25 rfl rfl (by kernel_rfl) (fun Q_0 hR_0 hN_0=>?_)
 refine Sa (sT [] [] 0 0) ?_
 refine AW.srwK (fun Q_1 hQ_1=>?_)
 obtain ⟨⟨r0_Hanks,r0_Horses,r0_Dark,r0_Near,r0_Match⟩,hx_2,h⟩:=bsome h
 refine RW.one fokW (r_callS (zr:=[]) [] trivial rfl (k53 _ hx_2) trivial rfl rfl trivial rfl rfl rfl (r_end ?_))
 obtain ⟨⟨r0_4,r1_5,r2_4⟩,hx_3,h⟩:=bsome h
 refine RW.one fokW (r_callF (rs:=[(1,.row 58 4 (List.map e58 r0_Hanks)),(2,.row 69 3 (List.map e69 r0_Horses))]) trivial rfl (k15 (HairBook.mk r0_Hanks r0_Horses r0_Dark r0_Near r0_Match) 0 1 2 _ hx_3) ⟨rfl,rfl,trivial⟩ ⟨(Frz.agg_of ⟨(.own rfl rfl),(.own rfl rfl),.refl _,.refl _,.refl _,trivial⟩),.refl _,.refl _,.refl _,trivial⟩ rfl rfl rfl (r_end ?_))
 refine Au 7 (sT [(1,jI r0_4),(2,jI r1_5),(3,jI r2_4)] [] 3 0) ?_
 refine RW.nil (hQ_1 _ ?_)
 refine AW.srwK (fun Q_4 hQ_4=>?_)
 obtain ⟨⟨r0_Hanks1,r0_Horses1,r0_Dark1,r0_Near1,r0_Match1⟩,hx_5,h⟩:=bsome h
 refine RW.one fokW (r_callS (zr:=[]) [] trivial rfl (k53 _ hx_5) trivial rfl rfl trivial rfl rfl rfl (r_end ?_))
 refine Au 1 (sT [(1,jI r0_4),(2,jI r1_5),(3,jI r2_4),(22,.agg [.own 4 (List.map e58 r0_Hanks1).length,.own 5 (List.map e69 r0_Horses1).length,jI r0_Dark1,jI r0_Near1,jI r0_Match1]),(23,.own 6 (List.map e3 [2,2,1,1]).length)] [(6,.row 3 1 (List.map e3 [2,2,1,1])),(4,.row 58 4 (List.map e58 r0_Hanks1)),(5,.row 69 3 (List.map e69 r0_Horses1))] 7 0) ?_
 obtain ⟨⟨r0_2,r1_4⟩,hx_6,h⟩:=bsome h
 refine RW.one fokW (r_callF (rs:=[(4,.row 58 4 (List.map e58 r0_Hanks1)),(5,.row 69 3 (List.map e69 r0_Horses1)),(6,.row 3 1 (List.map e3 [2,2,1,1]))]) trivial rfl (k19 (HairBook.mk r0_Hanks1 r0_Horses1 r0_Dark1 r0_Near1 r0_Match1) [2,2,1,1] _ hx_6) ⟨rfl,rfl,rfl,trivial⟩ ⟨(Frz.agg_of ⟨(.own rfl rfl),(.own rfl rfl),.refl _,.refl _,.refl _,trivial⟩),(.own rfl rfl),trivial⟩ rfl rfl rfl (r_end ?_))
 refine Au 5 (sT [(1,jI r0_4),(2,jI r1_5),(3,jI r2_4),(4,.d (.bool r0_2)),(5,jI r1_4)] [] 7 0) ?_
 refine RW.nil (hQ_4 _ ?_)
 refine AW.srwK (fun Q_7 hQ_7=>?_)
 obtain ⟨⟨r0_Hanks2,r0_Horses2,r0_Dark2,r0_Near2,r0_Match2⟩,hx_8,h⟩:=bsome h
 refine RW.one fokW (r_callS (zr:=[]) [] trivial rfl (k53 _ hx_8) trivial rfl rfl trivial rfl rfl rfl (r_end ?_))
 refine Au 1 (sT [(1,jI r0_4),(2,jI r1_5),(3,jI r2_4),(4,.d (.bool r0_2)),(5,jI r1_4),(28,.agg [.own 8 (List.map e58 r0_Hanks2).length,.own 9 (List.map e69 r0_Horses2).length,jI r0_Dark2,jI r0_Near2,jI r0_Match2]),(29,.own 10 (List.map e3 [2,2,1,1]).length)] [(10,.row 3 1 (List.map e3 [2,2,1,1])),(8,.row 58 4 (List.map e58 r0_Hanks2)),(9,.row 69 3 (List.map e69 r0_Horses2))] 11 0) ?_
 obtain ⟨⟨r0_2_1,r1_4_1⟩,hx_9,h⟩:=bsome h
 refine RW.one fokW (r_callF (rs:=[(8,.row 58 4 (List.map e58 r0_Hanks2)),(9,.row 69 3 (List.map e69 r0_Horses2)),(10,.row 3 1 (List.map e3 [2,2,1,1]))]) trivial rfl (k23 (HairBook.mk r0_Hanks2 r0_Horses2 r0_Dark2 r0_Near2 r0_Match2) [2,2,1,1] _ hx_9) ⟨rfl,rfl,rfl,trivial⟩ ⟨(Frz.agg_of ⟨(.own rfl rfl),(.own rfl rfl),.refl _,.refl _,.refl _,trivial⟩),(.own rfl rfl),trivial⟩ rfl rfl rfl (r_end ?_))
 refine Au 6 (sT [(1,jI r0_4),(2,jI r1_5),(3,jI r2_4),(4,.d (.bool r0_2)),(5,jI r1_4),pR 6 11,(7,jI r1_4_1)] [(11,.var 35 [jI r0_2_1.Low,jI r0_2_1.High])] 12 0) ?_
 refine RW.nil (hQ_7 _ ?_)
 refine AW.srwK (fun Q_10 hQ_10=>?_)
 obtain ⟨⟨r0_Hanks3,r0_Horses3,r0_Dark3,r0_Near3,r0_Match3⟩,hx_11,h⟩:=bsome h
 refine RW.one fokW (r_callS (zr:=[]) [] trivial rfl (k53 _ hx_11) trivial rfl rfl trivial rfl rfl rfl (r_end ?_))
 refine Au 1 (sT [(1,jI r0_4),(2,jI r1_5),(3,jI r2_4),(4,.d (.bool r0_2)),(5,jI r1_4),pR 6 11,(7,jI r1_4_1),(34,.agg [.own 13 (List.map e58 r0_Hanks3).length,.own 14 (List.map e69 r0_Horses3).length,jI r0_Dark3,jI r0_Near3,jI r0_Match3]),(35,.own 15 (List.map e3 [0,0,1,1]).length)] [(15,.row 3 1 (List.map e3 [0,0,1,1])),(13,.row 58 4 (List.map e58 r0_Hanks3)),(14,.row 69 3 (List.map e69 r0_Horses3)),(11,.var 35 [jI r0_2_1.Low,jI r0_2_1.High])] 16 0) ?_
 obtain ⟨⟨r0_2_2,r1_4_2⟩,hx_12,h⟩:=bsome h
 refine RW.one fokW (r_callF (rs:=[(13,.row 58 4 (List.map e58 r0_Hanks3)),(14,.row 69 3 (List.map e69 r0_Horses3)),(15,.row 3 1 (List.map e3 [0,0,1,1]))]) trivial rfl (k21 (HairBook.mk r0_Hanks3 r0_Horses3 r0_Dark3 r0_Near3 r0_Match3) [0,0,1,1] 0 _ hx_12) ⟨rfl,rfl,rfl,trivial⟩ ⟨(Frz.agg_of ⟨(.own rfl rfl),(.own rfl rfl),.refl _,.refl _,.refl _,trivial⟩),(.own rfl rfl),.refl _,trivial⟩ rfl rfl rfl (r_end ?_))
 refine Au 6 (sT [(1,jI r0_4),(2,jI r1_5),(3,jI r2_4),(4,.d (.bool r0_2)),(5,jI r1_4),pR 6 11,(7,jI r1_4_1),pR 8 16,(9,jI r1_4_2)] [(16,.var 35 [jI r0_2_2.Low,jI r0_2_2.High]),(11,.var 35 [jI r0_2_1.Low,jI r0_2_1.High])] 17 0) ?_
 refine RW.nil (hQ_10 _ ?_)
 refine AW.srwK (fun Q_13 hQ_13=>?_)
 obtain ⟨r0_1,hx_14,h⟩:=bsome h
 refine rC (k79 _ hx_14) ?_
 obtain ⟨⟨r0_3,r1_3⟩,hx_15,h⟩:=bsome h
 refine rC (k26 r0_1 _ hx_15) ?_
 refine Au 5 (sT [(1,jI r0_4),(2,jI r1_5),(3,jI r2_4),(4,.d (.bool r0_2)),(5,jI r1_4),pR 6 11,(7,jI r1_4_1),pR 8 16,(9,jI r1_4_2),(10,.d (q1 r0_3)),(11,jI r1_3)] [(16,.var 35 [jI r0_2_2.Low,jI r0_2_2.High]),(11,.var 35 [jI r0_2_1.Low,jI r0_2_1.High])] 17 0) ?_
 refine RW.nil (hQ_13 _ ?_)
 obtain ⟨c_16,hx_16,hk_16⟩:=bsomeC h
 refine AW.jnK (fun (_:Unit)=>(sT [] [] 17 0)) (c:=c_16) (fun K_16 hK_16=>?_) (fun j_16 hj_16=>?_)
 ·have h:=hx_16
  obtain ⟨v,hx_17,h⟩:=bsome h
  refine AW.jnSK (fun (v:Bool)=>(sT [(89,.d (.bool v))] [] 17 0)) (c:=v) (fun K_17 hK_17=>?_) ?_
  ·have h:=hx_17
   refine AW.drw fokW ?_
   refine aX 3 (sT [(1,jI r0_4),(2,jI r1_5),(4,.d (.bool r0_2)),(5,jI r1_4),pR 6 11,(7,jI r1_4_1),pR 8 16,(9,jI r1_4_2),(10,.d (q1 r0_3)),(11,jI r1_3),(46,.d (.bool (decide (r2_4≠0))))] [(16,.var 35 [jI r0_2_2.Low,jI r0_2_2.High]),(11,.var 35 [jI r0_2_1.Low,jI r0_2_1.High])] 17 0) ?_
   refine r_split 46 rfl (fun hb_19=>?_) (fun hb_19=>?_)
   ·have h:=ifT hb_19 h
    refine aX 43 (sT [(89,.d (.bool true))] [(16,.var 35 [jI r0_2_2.Low,jI r0_2_2.High]),(11,.var 35 [jI r0_2_1.Low,jI r0_2_1.High])] 17 0) ?_
    refine Fi (sT [(89,.d (.bool true))] [] 17 0) ?_
    obtain rfl:=Option.some.inj h
    exact hK_17 _ (Can.kp (by kernel_rfl))
   ·have h:=ifF hb_19 h
    refine aX 4 (sT [(1,jI r0_4),(2,jI r1_5),(4,.d (.bool r0_2)),pR 6 11,(7,jI r1_4_1),pR 8 16,(9,jI r1_4_2),(10,.d (q1 r0_3)),(11,jI r1_3),(50,.d (.bool (decide (r1_4≠0))))] [(16,.var 35 [jI r0_2_2.Low,jI r0_2_2.High]),(11,.var 35 [jI r0_2_1.Low,jI r0_2_1.High])] 17 0) ?_
    refine r_split 50 rfl (fun hb_20=>?_) (fun hb_20=>?_)
    ·have h:=ifT hb_20 h
     refine aX 39 (sT [(89,.d (.bool true))] [(16,.var 35 [jI r0_2_2.Low,jI r0_2_2.High]),(11,.var 35 [jI r0_2_1.Low,jI r0_2_1.High])] 17 0) ?_
     refine Fi (sT [(89,.d (.bool true))] [] 17 0) ?_
     obtain rfl:=Option.some.inj h
     exact hK_17 _ (Can.kp (by kernel_rfl))
    ·have h:=ifF hb_20 h
     refine aX 4 (sT [(1,jI r0_4),(2,jI r1_5),(4,.d (.bool r0_2)),pR 6 11,pR 8 16,(9,jI r1_4_2),(10,.d (q1 r0_3)),(11,jI r1_3),(54,.d (.bool (decide (r1_4_1≠0))))] [(16,.var 35 [jI r0_2_2.Low,jI r0_2_2.High]),(11,.var 35 [jI r0_2_1.Low,jI r0_2_1.High])] 17 0) ?_
     refine r_split 54 rfl (fun hb_21=>?_) (fun hb_21=>?_)
     ·have h:=ifT hb_21 h
      refine aX 35 (sT [(89,.d (.bool true))] [(16,.var 35 [jI r0_2_2.Low,jI r0_2_2.High]),(11,.var 35 [jI r0_2_1.Low,jI r0_2_1.High])] 17 0) ?_
      refine Fi (sT [(89,.d (.bool true))] [] 17 0) ?_
      obtain rfl:=Option.some.inj h
      exact hK_17 _ (Can.kp (by kernel_rfl))
     ·have h:=ifF hb_21 h
      refine aX 4 (sT [(1,jI r0_4),(2,jI r1_5),(4,.d (.bool r0_2)),pR 6 11,pR 8 16,(10,.d (q1 r0_3)),(11,jI r1_3),(58,.d (.bool (decide (r1_4_2≠0))))] [(16,.var 35 [jI r0_2_2.Low,jI r0_2_2.High]),(11,.var 35 [jI r0_2_1.Low,jI r0_2_1.High])] 17 0) ?_
      refine r_split 58 rfl (fun hb_22=>?_) (fun hb_22=>?_)
      ·have h:=ifT hb_22 h
       refine aX 31 (sT [(89,.d (.bool true))] [(16,.var 35 [jI r0_2_2.Low,jI r0_2_2.High]),(11,.var 35 [jI r0_2_1.Low,jI r0_2_1.High])] 17 0) ?_
       refine Fi (sT [(89,.d (.bool true))] [] 17 0) ?_
       obtain rfl:=Option.some.inj h
       exact hK_17 _ (Can.kp (by kernel_rfl))
      ·have h:=ifF hb_22 h
       refine aX 4 (sT [(1,jI r0_4),(2,jI r1_5),(4,.d (.bool r0_2)),pR 6 11,pR 8 16,(10,.d (q1 r0_3)),(62,.d (.bool (decide (r1_3≠0))))] [(16,.var 35 [jI r0_2_2.Low,jI r0_2_2.High]),(11,.var 35 [jI r0_2_1.Low,jI r0_2_1.High])] 17 0) ?_
       refine r_split 62 rfl (fun hb_23=>?_) (fun hb_23=>?_)
       ·have h:=ifT hb_23 h
        refine aX 27 (sT [(89,.d (.bool true))] [(16,.var 35 [jI r0_2_2.Low,jI r0_2_2.High]),(11,.var 35 [jI r0_2_1.Low,jI r0_2_1.High])] 17 0) ?_
        refine Fi (sT [(89,.d (.bool true))] [] 17 0) ?_
        obtain rfl:=Option.some.inj h
        exact hK_17 _ (Can.kp (by kernel_rfl))
       ·have h:=ifF hb_23 h
        refine aX 4 (sT [(2,jI r1_5),(4,.d (.bool r0_2)),pR 6 11,pR 8 16,(10,.d (q1 r0_3)),(66,.d (.bool (decide (r0_4≠0))))] [(16,.var 35 [jI r0_2_2.Low,jI r0_2_2.High]),(11,.var 35 [jI r0_2_1.Low,jI r0_2_1.High])] 17 0) ?_
        refine r_split 66 rfl (fun hb_24=>?_) (fun hb_24=>?_)
        ·have h:=ifT hb_24 h
         refine aX 23 (sT [(89,.d (.bool true))] [(16,.var 35 [jI r0_2_2.Low,jI r0_2_2.High]),(11,.var 35 [jI r0_2_1.Low,jI r0_2_1.High])] 17 0) ?_
         refine Fi (sT [(89,.d (.bool true))] [] 17 0) ?_
         obtain rfl:=Option.some.inj h
         exact hK_17 _ (Can.kp (by kernel_rfl))
        ·have h:=ifF hb_24 h
         refine aX 4 (sT [(4,.d (.bool r0_2)),pR 6 11,pR 8 16,(10,.d (q1 r0_3)),(70,.d (.bool (decide (r1_5≠2))))] [(16,.var 35 [jI r0_2_2.Low,jI r0_2_2.High]),(11,.var 35 [jI r0_2_1.Low,jI r0_2_1.High])] 17 0) ?_
         refine r_split 70 rfl (fun hb_25=>?_) (fun hb_25=>?_)
         ·have h:=ifT hb_25 h
          refine aX 19 (sT [(89,.d (.bool true))] [(16,.var 35 [jI r0_2_2.Low,jI r0_2_2.High]),(11,.var 35 [jI r0_2_1.Low,jI r0_2_1.High])] 17 0) ?_
          refine Fi (sT [(89,.d (.bool true))] [] 17 0) ?_
          obtain rfl:=Option.some.inj h
          exact hK_17 _ (Can.kp (by kernel_rfl))
         ·have h:=ifF hb_25 h
          refine aX 4 (sT [pR 6 11,pR 8 16,(10,.d (q1 r0_3)),(74,.d (.bool (!r0_2)))] [(16,.var 35 [jI r0_2_2.Low,jI r0_2_2.High]),(11,.var 35 [jI r0_2_1.Low,jI r0_2_1.High])] 17 0) ?_
          refine r_split 74 rfl (fun hb_26=>?_) (fun hb_26=>?_)
          ·have h:=ifT hb_26 h
           refine aX 15 (sT [(89,.d (.bool true))] [(16,.var 35 [jI r0_2_2.Low,jI r0_2_2.High]),(11,.var 35 [jI r0_2_1.Low,jI r0_2_1.High])] 17 0) ?_
           refine Fi (sT [(89,.d (.bool true))] [] 17 0) ?_
           obtain rfl:=Option.some.inj h
           exact hK_17 _ (Can.kp (by kernel_rfl))
          ·have h:=ifF hb_26 h
           refine aX 1 (sT [pR 8 16,(10,.d (q1 r0_3)),(74,.d (.bool false)),(75,.agg [jI r0_2_1.Low,jI r0_2_1.High])] [(16,.var 35 [jI r0_2_2.Low,jI r0_2_2.High]),(11,.var 35 [jI r0_2_1.Low,jI r0_2_1.High])] 17 0) ?_
           obtain ⟨r0,hx_27,h⟩:=bsome h
           refine r_call rfl rfl (k44 10 13 _ hx_27) rfl rfl ?_
           refine r_aeq rfl rfl rfl rfl rfl ft35 rfl rfl rfl ?_
           refine aX 2 (sT [pR 8 16,(10,.d (q1 r0_3)),(79,.d (.bool (true != ((r0_2_1.Low==r0.Low)&&((r0_2_1.High==r0.High)&&true)))))] [(16,.var 35 [jI r0_2_2.Low,jI r0_2_2.High]),(11,.var 35 [jI r0_2_1.Low,jI r0_2_1.High])] 17 0) ?_
           refine r_split 79 rfl (fun hb_28=>?_) (fun hb_28=>?_)
           ·have h:=ifT hb_28 h
            refine aX 10 (sT [(89,.d (.bool true))] [(16,.var 35 [jI r0_2_2.Low,jI r0_2_2.High]),(11,.var 35 [jI r0_2_1.Low,jI r0_2_1.High])] 17 0) ?_
            refine Fi (sT [(89,.d (.bool true))] [] 17 0) ?_
            obtain rfl:=Option.some.inj h
            exact hK_17 _ (Can.kp (by kernel_rfl))
           ·have h:=ifF hb_28 h
            refine aX 1 (sT [(10,.d (q1 r0_3)),(79,.d (.bool false)),(80,.agg [jI r0_2_2.Low,jI r0_2_2.High])] [(16,.var 35 [jI r0_2_2.Low,jI r0_2_2.High]),(11,.var 35 [jI r0_2_1.Low,jI r0_2_1.High])] 17 0) ?_
            obtain ⟨r0_5,hx_29,h⟩:=bsome h
            refine r_call rfl rfl (k44 0 1 _ hx_29) rfl rfl ?_
            refine r_aeq rfl rfl rfl rfl rfl ft35 rfl rfl rfl ?_
            refine aX 2 (sT [(10,.d (q1 r0_3)),(84,.d (.bool (true != ((r0_2_2.Low==r0_5.Low)&&((r0_2_2.High==r0_5.High)&&true)))))] [(16,.var 35 [jI r0_2_2.Low,jI r0_2_2.High]),(11,.var 35 [jI r0_2_1.Low,jI r0_2_1.High])] 17 0) ?_
            refine r_split 84 rfl (fun hb_30=>?_) (fun hb_30=>?_)
            ·have h:=ifT hb_30 h
             refine aX 5 (sT [(89,.d (.bool true))] [(16,.var 35 [jI r0_2_2.Low,jI r0_2_2.High]),(11,.var 35 [jI r0_2_1.Low,jI r0_2_1.High])] 17 0) ?_
             refine Fi (sT [(89,.d (.bool true))] [] 17 0) ?_
             obtain rfl:=Option.some.inj h
             exact hK_17 _ (Can.kp (by kernel_rfl))
            ·have h:=ifF hb_30 h
             refine aX 2 (sT [(84,.d (.bool false)),(85,.d (q1 r0_3)),(86,.own 17 (List.map e3 [2,2,0,0]).length)] [(17,.row 3 1 (List.map e3 [2,2,0,0])),(16,.var 35 [jI r0_2_2.Low,jI r0_2_2.High]),(11,.var 35 [jI r0_2_1.Low,jI r0_2_1.High])] 18 0) ?_
             obtain ⟨r0_6,hx_31,h⟩:=bsome h
             refine r_callF (rs:=[(17,.row 3 1 (List.map e3 [2,2,0,0]))]) rfl rfl (k28 r0_3 [2,2,0,0] _ hx_31) ⟨rfl,trivial⟩ ⟨.refl _,(.own rfl rfl),trivial⟩ rfl rfl rfl ?_
             refine aX 2 (sT [(89,.d (.bool (!r0_6)))] [(17,.row 3 1 (List.map e3 [2,2,0,0])),(16,.var 35 [jI r0_2_2.Low,jI r0_2_2.High]),(11,.var 35 [jI r0_2_1.Low,jI r0_2_1.High])] 18 0) ?_
             refine Fi (sT [(89,.d (.bool (!r0_6)))] [] 18 0) ?_
             obtain rfl:=Option.some.inj h
             exact hK_17 _ (Can.kp (by kernel_rfl))
  ·refine AW.cond rfl (fun hb_32=>?_) (fun hb_32=>?_)
   ·have h:=ifT hb_32 h
    refine Sa (sT [(0,.d (.bool false))] [] 17 0) ?_
    obtain rfl:=Option.some.inj h
    obtain rfl:=Aft.bk hk_16
    exact rT hR_0 (.cons (.tmp rfl) .nil)
   ·have h:=ifF hb_32 h
    refine AW.skip ?_
    obtain rfl:=Option.some.inj h
    exact hK_16 _ _ rfl (Can.kp (by kernel_rfl))
 ·subst hj_16
  have h:=Aft.nx hk_16
  refine AW.srwK (fun Q_33 hQ_33=>?_)
  obtain ⟨r0_7,hx_34,h⟩:=bsome h
  refine rC (k54 _ hx_34) ?_
  obtain ⟨⟨r0_2_3,r1_1⟩,hx_35,h⟩:=bsome h
  refine rC (k29 r0_7 _ hx_35) ?_
  refine Au 5 (sT [(3,jI r1_1),(12,.d (q1 r0_2_3))] [] 17 0) ?_
  refine RW.nil (hQ_33 _ ?_)
  refine AW.srwK (fun Q_36 hQ_36=>?_)
  obtain ⟨r0_8,hx_37,h⟩:=bsome h
  refine rC (k54 _ hx_37) ?_
  obtain ⟨⟨r0_5_1,r1_6⟩,hx_38,h⟩:=bsome h
  refine rC (k31 r0_8 6 _ hx_38) ?_
  refine Au 5 (sT [(3,jI r1_1),(5,jI r1_6),(12,.d (q1 r0_2_3)),(13,jI r0_5_1)] [] 17 0) ?_
  refine RW.nil (hQ_36 _ ?_)
  refine AW.srwK (fun Q_39 hQ_39=>?_)
  obtain ⟨r0_9,hx_40,h⟩:=bsome h
  refine rC (k54 _ hx_40) ?_
  obtain ⟨⟨r0_1_1,r1_1_1⟩,hx_41,h⟩:=bsome h
  refine rC (k33 r0_9 _ hx_41) ?_
  refine Au 5 (sT [(3,jI r1_1),(5,jI r1_6),(7,jI r1_1_1),(12,.d (q1 r0_2_3)),(13,jI r0_5_1),(14,.d (.bool r0_1_1))] [] 17 0) ?_
  refine RW.nil (hQ_39 _ ?_)
  refine AW.srwK (fun Q_42 hQ_42=>?_)
  refine RW.au fokW 11 [107,111] (sT [(12,.d (q1 r0_2_3)),(13,jI r0_5_1),(14,.d (.bool r0_1_1)),(115,.d (.bool (((decide (r1_1=0))&&(decide (r1_6=0)))&&(decide (r1_1_1=0)))))] [] 17 0) (by kernel_rfl) ?_
  obtain ⟨v1,hx_43,h⟩:=bsome h
  refine RW.cut fokW 4 ((sT [(13,jI r0_5_1),(14,.d (.bool r0_1_1)),(119,.d (.bool v1))] [] 17 0)) ?_ ?_
  ·refine r_split 115 rfl (fun hb_45=>?_) (fun hb_45=>?_)
   ·have h:=ifT hb_45 hx_43
    refine aX 2 (sT [(13,jI r0_5_1),(14,.d (.bool r0_1_1)),(115,.d (.bool true)),(116,.d (q1 r0_2_3)),(117,.own 17 (List.map e3 [0]).length)] [(17,.row 3 1 (List.map e3 [0]))] 18 0) ?_
    obtain ⟨r0_10,hx_44,h⟩:=bsome h
    refine r_callF (rs:=[(17,.row 3 1 (List.map e3 [0]))]) rfl rfl (k28 r0_2_3 [0] _ hx_44) ⟨rfl,trivial⟩ ⟨.refl _,(.own rfl rfl),trivial⟩ rfl rfl rfl ?_
    refine aX 1 (sT [(13,jI r0_5_1),(14,.d (.bool r0_1_1)),(119,.d (.bool r0_10))] [(17,.row 3 1 (List.map e3 [0]))] 18 0) ?_
    obtain rfl:=Option.some.inj h
    refine RunC.finJ (Can.kp (by kernel_rfl))
   ·have h:=ifF hb_45 hx_43
    refine aX 4 (sT [(13,jI r0_5_1),(14,.d (.bool r0_1_1)),(119,.d (.bool false))] [] 17 0) ?_
    obtain rfl:=Option.some.inj h
    refine RunC.finJ (Can.kp (by kernel_rfl))
  ·refine RW.au fokW 8 [120,124] (sT [(0,.d (.bool ((v1&&(decide (r0_5_1=3)))&&r0_1_1)))] [] 17 0) (by kernel_rfl) ?_
   refine RW.nil (hQ_42 _ ?_)
   obtain rfl:=Option.some.inj h
   exact rT hR_0 (.cons (.tmp rfl) .nil)
end Go.Proofs.Th
namespace Go.Proofs.Th
open Go Go.Abs Go.Proofs
def g109 (l:(List Int)) (n:Int):Option (List Int):=(mkL2 8 0 (wr ((l.length:Int)+1)) 0).bind fun l1=>(appL 8 l1 l).bind fun l2=>(appL 8 l2 [n]).bind fun l3=>some l3
theorem k109 (l:(List Int)) (n:Int) (r:(List Int)) (h:g109 l n=some r):SCall Tryd.prog Gs 109 [.d (q1 l),jI n] [] 0 Fr.emp (.d (q1 r)) [] 0 Fr.emp:=by
 unfold g109 at h
 refine SCall.mkK Tryd.func109 c109 rfl rfl (by kernel_rfl) (fun Q_0 hR_0 hN_0=>?_)
 refine Sa (sT [(0,.d (q1 l)),(1,jI n)] [] 0 0) ?_
 refine AW.srwK (fun Q_1 hQ_1=>?_)
 refine Au 1 (sT [(0,.d (q1 l)),(1,jI n),(6,.d (q1 l))] [] 0 0) ?_
 refine rL rfl ?_
 refine Au 1 (sT [(0,.d (q1 l)),(1,jI n),(8,jI (wr ((l.length:Int)+1)))] [] 0 0) ?_
 obtain ⟨l1,hv_2,h⟩:=bsome h
 refine RW.one fokW (r_mkX e3 trivial rfl rfl hv_2 rfl (r_end ?_))
 refine Au 1 (sT [(0,.d (q1 l)),(1,jI n),(5,.own 0 (List.map e3 l1).length)] [(0,.row 3 1 (List.map e3 l1))] 1 0) ?_
 refine RW.nil (hQ_1 _ ?_)
 refine AW.srwK (fun Q_3 hQ_3=>?_)
 refine Au 2 (sT [(1,jI n),(10,.own 0 (List.map e3 l1).length),(11,.d (q1 l))] [(0,.row 3 1 (List.map e3 l1))] 1 0) ?_
 obtain ⟨l2,hv_4,h⟩:=bsome h
 refine RW.one fokW (r_apD trivial rfl rfl rfl rfl (apz hv_4 e3) (apr hv_4 e3) (r_end ?_))
 refine Au 1 (sT [(1,jI n),(5,.own 0 (List.map e3 l2).length)] [(0,.row 3 1 (List.map e3 l2))] 1 0) ?_
 refine RW.nil (hQ_3 _ ?_)
 refine AW.srwK (fun Q_5 hQ_5=>?_)
 refine Au 3 (sT [(13,.own 0 (List.map e3 l2).length),(15,.own 1 (List.map e3 [n]).length)] [(1,.row 3 1 (List.map e3 [n])),(0,.row 3 1 (List.map e3 l2))] 2 0) ?_
 obtain ⟨l3,hv_6,h⟩:=bsome h
 refine RW.one fokW (r_apO trivial rfl rfl rfl rfl rfl rfl (apz hv_6 e3) (apr hv_6 e3) (r_end ?_))
 refine Au 1 (sT [(4,.own 0 (List.map e3 l3).length)] [(0,.row 3 1 (List.map e3 l3))] 2 0) ?_
 refine RW.nil (hQ_5 _ ?_)
 obtain rfl:=Option.some.inj h
 exact AW.ret (hR_0 _ (retX (.cons (.tmp rfl) .nil) (.own rfl rfl) rfl (by kernel_rfl) (by kernel_rfl)))
def g82_14 (rec_:HairBook→(List Int)→Option (List (List Int))) (b:HairBook) (some_:(List Int)):Int→HairHank→(List (List Int))→Option (List (List Int)):=fun h_ p l2=>(g109 some_ h_).bind fun r0=>(rec_ b r0).bind fun r0_7_1=>(appL 24 l2 r0_7_1).bind fun l3=>some l3
def g82:Nat→HairBook→(List Int)→Option (List (List Int))
 | 0,_,_=>none
 | n_+1,b,some_=>(g104 b some_ false).bind fun r0_2=>bif (!r0_2) then (some []) else (bif (decide ((some_.length:Int)=(wr (2*(b.Horses.length:Int))))) then ((g69 b some_).bind fun r0_1=>bif r0_1 then (some [some_]) else (some [])) else ((((eachS (g82_14 (g82 n_) b some_) b.Hanks 0 ([]:List (List Int))).bind fun l2=>some l2).bind fun l1=>some l1).bind fun l=>some l))
theorem k82:∀ (n_:Nat) (b:HairBook) (some_:(List Int)) (r:(List (List Int))) (h:g82 n_ b some_=some r),SCall Tryd.prog Gs 82 [.agg (cv25 b),.d (q1 some_)] [] 0 Fr.emp (.d (.sl 1 (List.map e26 r))) [] 0 Fr.emp:=by
 intro n_
 induction n_ with
 | zero=>intro b some_ r h;cases h
 | succ n_ ih=>
  intro b some_ r h
  rw [g82] at h
  refine SCall.mkK Tryd.func82 c82 rfl rfl (by kernel_rfl) (fun Q_0 hR_0 hN_0=>?_)
  refine Sa (sT [(1,.d (q1 some_)),pR 2 0] [(0,.var 25 (cv25 b))] 1 0) ?_
  refine AW.seqK fun K_1 hK_1=>AW.srwK fun Q_2 hQ_2=>?_
  refine Au 2 (sT [(1,.d (q1 some_)),pR 2 0,(7,.agg (cv25 b)),(8,.d (q1 some_))] [(0,.var 25 (cv25 b))] 1 0) ?_
  obtain ⟨r0_2,hx_3,h⟩:=bsome h
  refine rC (k104 b some_ false _ hx_3) ?_
  refine Au 1 (sT [(1,.d (q1 some_)),pR 2 0,(10,.d (.bool (!r0_2)))] [(0,.var 25 (cv25 b))] 1 0) ?_
  refine RW.nil (hQ_2 _ ?_)
  refine AW.cond rfl (fun hb_4=>?_) (fun hb_4=>?_)
  ·have h:=ifT hb_4 h
   refine Sa (sT [(4,.d (.nilSl))] [] 1 0) ?_
   obtain rfl:=Option.some.inj h
   exact AW.ret (hR_0 _ (retX (.cons (.tmp rfl) .nil) (.nil 1) rfl (by kernel_rfl) (by kernel_rfl)))
  ·have h:=ifF hb_4 h
   refine AW.skip (hK_1 _ ?_)
   refine AW.seqK fun K_5 hK_5=>AW.srwK fun Q_6 hQ_6=>?_
   refine Au 1 (sT [(1,.d (q1 some_)),pR 2 0,(11,.d (q1 some_))] [(0,.var 25 (cv25 b))] 1 0) ?_
   refine rL rfl ?_
   refine Au 2 (sT [(1,.d (q1 some_)),pR 2 0,(12,jI (some_.length:Int)),(14,.d (.sl 3 (List.map e69 b.Horses)))] [(0,.var 25 (cv25 b))] 1 0) ?_
   refine rL rfl ?_
   refine Au 2 (sT [(1,.d (q1 some_)),pR 2 0,(17,.d (.bool (decide ((some_.length:Int)=(wr (2*(b.Horses.length:Int)))))))] [(0,.var 25 (cv25 b))] 1 0) ?_
   refine RW.nil (hQ_6 _ ?_)
   refine AW.cond rfl (fun hb_7=>?_) (fun hb_7=>?_)
   ·have h:=ifT hb_7 h
    refine AW.seqK fun K_8 hK_8=>AW.srwK fun Q_9 hQ_9=>?_
    refine Au 2 (sT [(1,.d (q1 some_)),(18,.agg (cv25 b)),(19,.d (q1 some_))] [] 1 0) ?_
    obtain ⟨r0_1,hx_10,h⟩:=bsome h
    refine rC (k69 b some_ _ hx_10) ?_
    refine RW.nil (hQ_9 _ ?_)
    refine AW.cond rfl (fun hb_11=>?_) (fun hb_11=>?_)
    ·have h:=ifT hb_11 h
     refine Sa (sT [(4,.own 1 (List.map e26 [some_]).length)] [(1,.row 26 1 (List.map e26 [some_]))] 2 0) ?_
     obtain rfl:=Option.some.inj h
     exact AW.ret (hR_0 _ (retX (.cons (.tmp rfl) .nil) (.own rfl rfl) rfl (by kernel_rfl) (by kernel_rfl)))
    ·have h:=ifF hb_11 h
     refine AW.skip (hK_8 _ ?_)
     refine Sa (sT [(4,.d (.nilSl))] [] 1 0) ?_
     obtain rfl:=Option.some.inj h
     exact AW.ret (hR_0 _ (retX (.cons (.tmp rfl) .nil) (.nil 1) rfl (by kernel_rfl) (by kernel_rfl)))
   ·have h:=ifF hb_7 h
    refine AW.skip (hK_5 _ ?_)
    refine Sa (sT [(1,.d (q1 some_)),pR 2 0,(5,.d (.nilSl))] [(0,.var 25 (cv25 b))] 1 0) ?_
    obtain ⟨l,hx_12,h⟩:=bsome h
    refine AW.jnSK (fun (l:List (List Int))=>(sT [(5,.own 1 (List.map e26 l).length)] [(1,.row 26 1 (List.map e26 l))] 2 0)) (c:=l) (fun K_12 hK_12=>?_) ?_
    ·have h:=hx_12
     refine Sa (sT [(1,.d (q1 some_)),pR 2 0,(5,.d (.nilSl)),(6,jI 0)] [(0,.var 25 (cv25 b))] 1 0) ?_
     obtain ⟨l1,hx_13,h⟩:=bsome h
     refine AW.jqSK (fun (l1:List (List Int))=>(sT [(5,.own 1 (List.map e26 l1).length)] [(1,.row 26 1 (List.map e26 l1))] 2 0)) (c:=l1) (fun K_13 hK_13=>?_) ?_
     ·have h:=hx_13
      refine AW.block ?_
      refine AW.slh (r:=0) (off:=0) rfl rfl (fun hN_14=>?_)
      rw [List.length_map] at hN_14
      obtain ⟨out_14,hx_14,h⟩:=bsome h
      refine AW.evSK (fun (h_:Int) (l2:List (List Int))=>(sT [(1,.d (q1 some_)),pR 2 0,(5,.own 1 (List.map e26 l2).length),(6,jI h_)] [(1,.row 26 1 (List.map e26 l2)),(0,.var 25 (cv25 b))] 2 0)) (g82_14 (g82 n_) b some_) hx_14 (Can.trans (Can.thawT 5 26 1 rfl rfl) (Can.kp (by kernel_rfl))) (fun h_ p l2 hi_14 hl_14 hp_14 c_14 h K_14 hK_14=>?_) (fun h_ l2 hi_14 hl_14 hout=>?_)
      ·unfold g82_14 at h
       refine AW.seqK fun K_15 hK_15=>AW.srwK fun Q_16 hQ_16=>?_
       refine Au 3 (sT [(1,.d (q1 some_)),pR 2 0,(5,.own 1 (List.map e26 l2).length),(6,jI h_),(23,jI h_),(25,.d (.sl 4 (List.map e58 b.Hanks)))] [(1,.row 26 1 (List.map e26 l2)),(0,.var 25 (cv25 b))] 2 0) ?_
       refine rL rfl ?_
       refine Au 1 (sT [(1,.d (q1 some_)),pR 2 0,(5,.own 1 (List.map e26 l2).length),(6,jI h_),(27,.d (.bool (decide (h_<(b.Hanks.length:Int)))))] [(1,.row 26 1 (List.map e26 l2)),(0,.var 25 (cv25 b))] 2 0) ?_
       refine RW.nil (hQ_16 _ ?_)
       refine AW.cond rfl (fun hb_17=>?_) (fun hb_17=>False.elim (by have:=of_decide_eq_false hb_17;omega))
       refine AW.skip (hK_15 _ ?_)
       refine AW.seqK (fun K_18 hK_18=>?_)
       refine AW.block ?_
       refine AW.drw fokW ?_
       refine aX 4 (sT [(1,.d (q1 some_)),pR 2 0,(6,jI h_),(30,.own 1 (List.map e26 l2).length),(31,.agg (cv25 b)),(32,.d (q1 some_)),(33,jI h_)] [(1,.row 26 1 (List.map e26 l2)),(0,.var 25 (cv25 b))] 2 0) ?_
       obtain ⟨r0,hx_20,h⟩:=bsome h
       refine r_call trivial rfl (k109 some_ h_ _ hx_20) rfl rfl ?_
       obtain ⟨r0_7_1,hx_21,h⟩:=bsome h
       refine r_call trivial rfl (ih b r0 _ hx_21) rfl rfl ?_
       obtain ⟨l3,hv_22,h⟩:=bsome h
       refine r_apD trivial rfl rfl rfl rfl (apz hv_22 e26) (apr hv_22 e26) ?_
       refine aX 1 (sT [(1,.d (q1 some_)),pR 2 0,(5,.own 1 (List.map e26 l3).length),(6,jI h_)] [(1,.row 26 1 (List.map e26 l3)),(0,.var 25 (cv25 b))] 2 0) ?_
       refine Fi (sT [(1,.d (q1 some_)),pR 2 0,(5,.own 1 (List.map e26 l3).length),(6,jI h_)] [(1,.row 26 1 (List.map e26 l3)),(0,.var 25 (cv25 b))] 2 0) ?_
       refine hK_18 _ ?_
       refine Ra (sT [(1,.d (q1 some_)),pR 2 0,(5,.own 1 (List.map e26 l3).length),(6,jI (wr (h_+1)))] [(1,.row 26 1 (List.map e26 l3)),(0,.var 25 (cv25 b))] 2 0) ?_
       obtain rfl:=Option.some.inj h
       have ew:wr (h_+1)=h_+1:=inext (N:=(b.Hanks.length:Int)) (by omega) (by omega) (by omega)
       rw [ew]
       exact hK_14 _ (Can.kp (by kernel_rfl))
      ·subst hout
       refine AW.seqK fun K_23 hK_23=>AW.srwK fun Q_24 hQ_24=>?_
       refine Au 3 (sT [(1,.d (q1 some_)),pR 2 0,(5,.own 1 (List.map e26 l2).length),(6,jI h_),(23,jI h_),(25,.d (.sl 4 (List.map e58 b.Hanks)))] [(1,.row 26 1 (List.map e26 l2)),(0,.var 25 (cv25 b))] 2 0) ?_
       refine rL rfl ?_
       refine Au 1 (sT [(1,.d (q1 some_)),pR 2 0,(5,.own 1 (List.map e26 l2).length),(6,jI h_),(27,.d (.bool (decide (h_<(b.Hanks.length:Int)))))] [(1,.row 26 1 (List.map e26 l2)),(0,.var 25 (cv25 b))] 2 0) ?_
       refine RW.nil (hQ_24 _ ?_)
       refine AW.cond rfl (fun hb_25=>False.elim (by have:=of_decide_eq_true hb_25;omega)) (fun hb_25=>?_)
       refine AW.exit ?_
       obtain rfl:=Option.some.inj h
       exact hK_13 _ (Can.kp (by kernel_rfl))
     ·obtain rfl:=Option.some.inj h
      exact hK_12 _ (Can.kp (by kernel_rfl))
    ·refine Sa (sT [(4,.own 1 (List.map e26 l).length)] [(1,.row 26 1 (List.map e26 l))] 2 0) ?_
     obtain rfl:=Option.some.inj h
     exact AW.ret (hR_0 _ (retX (.cons (.tmp rfl) .nil) (.own rfl rfl) rfl (by kernel_rfl) (by kernel_rfl)))
def g85 (b:HairBook):Option Bool:=(g82 1000 b ([]:(List Int))).bind fun r0_7=>some (decide (0<(r0_7.length:Int)))
theorem k85 (b:HairBook) (r:Bool) (h:g85 b=some r):SCall Tryd.prog Gs 85 [.agg (cv25 b)] [] 0 Fr.emp (.d (.bool r)) [] 0 Fr.emp:=by
 unfold g85 at h
 refine SCall.mkK Tryd.func85 c85 rfl rfl (by kernel_rfl) (fun Q_0 hR_0 hN_0=>?_)
 refine Sa (sT [pR 1 0] [(0,.var 25 (cv25 b))] 1 0) ?_
 refine AW.srwK (fun Q_1 hQ_1=>?_)
 refine Au 1 (sT [(3,.agg (cv25 b))] [] 1 0) ?_
 obtain ⟨r0_7,hx_2,h⟩:=bsome h
 refine RW.one fokW (r_callZ (zr:=[]) trivial rfl (k82 1000 b ([]:(List Int)) _ hx_2) trivial ⟨.refl _,(.nil 1),trivial⟩ rfl rfl rfl rfl (r_end ?_))
 refine rL rfl ?_
 refine Au 2 (sT [(2,.d (.bool (decide (0<(r0_7.length:Int)))))] [] 1 0) ?_
 refine RW.nil (hQ_1 _ ?_)
 obtain rfl:=Option.some.inj h
 exact rT hR_0 (.cons (.tmp rfl) .nil)
def g90 (b:HairBook) (ounces:Int) (shade:Int):Option HairBook:=(appL 32 ([]:List HairHank) b.Hanks).bind fun l=>(g40 ounces).bind fun r0=>(g40 shade).bind fun r0_1=>(appL 32 l [(HairHank.mk r0 r0_1)]).bind fun l1=>some (HairBook.mk l1 b.Horses b.Dark b.Near b.Match)
def y46 (l:List HairHank) (b:HairBook):List (Nat×Blk):=[(3,.row 58 4 (List.map e58 l)),(2,.var 25 (cv25 b)),(1,.var 25 [.d (.nilSl),.d (.nilSl),jI 0,jI 0,jI 0])]
theorem k90 (b:HairBook) (ounces:Int) (shade:Int) (r:HairBook) (h:g90 b ounces shade=some r):SCall Tryd.prog Gs 90 [.agg (cv25 b),jI ounces,jI shade] [] 0 Fr.emp (.agg (cv25 r)) [] 0 Fr.emp:=by
 unfold g90 at h
 refine SCall.mkK Tryd.func90 c90 rfl rfl (by kernel_rfl) (fun Q_0 hR_0 hN_0=>?_)
 refine Sa (sT [(1,jI ounces),(2,jI shade),pR 3 0,pR 6 1] [(1,.var 25 [.d (.nilSl),.d (.nilSl),jI 0,jI 0,jI 0]),(0,.var 25 (cv25 b))] 2 0) ?_
 refine Sa (sT [(1,jI ounces),(2,jI shade),pR 3 0,pR 6 1,pR 7 2] [(2,.var 25 (cv25 b)),(1,.var 25 [.d (.nilSl),.d (.nilSl),jI 0,jI 0,jI 0]),(0,.var 25 (cv25 b))] 3 0) ?_
 refine AW.srwK (fun Q_1 hQ_1=>?_)
 refine Au 3 (sT [(1,jI ounces),(2,jI shade),pR 6 1,pR 7 2,(9,.own 3 (List.map e58 []).length),(11,.d (.sl 4 (List.map e58 b.Hanks)))] [(3,.row 58 4 (List.map e58 [])),(2,.var 25 (cv25 b)),(1,.var 25 [.d (.nilSl),.d (.nilSl),jI 0,jI 0,jI 0])] 4 0) ?_
 obtain ⟨l,hv_2,h⟩:=bsome h
 refine RW.one fokW (r_apD trivial rfl rfl rfl rfl (apz hv_2 e58) (apr hv_2 e58) (r_end ?_))
 refine Au 1 (sT [(2,jI shade),pR 6 1,pR 7 2,(12,.own 3 (List.map e58 l).length),(13,jI ounces)] (y46 l b) 4 0) ?_
 obtain ⟨r0,hx_3,h⟩:=bsome h
 refine rC (k40 ounces _ hx_3) ?_
 refine Au 1 (sT [pR 6 1,pR 7 2,(12,.own 3 (List.map e58 l).length),(14,.agg [jI r0.Low,jI r0.High]),(15,jI shade)] (y46 l b) 4 0) ?_
 obtain ⟨r0_1,hx_4,h⟩:=bsome h
 refine rC (k40 shade _ hx_4) ?_
 refine Au 2 (sT [pR 6 1,pR 7 2,(12,.own 3 (List.map e58 l).length),(18,.own 4 (List.map e58 [(HairHank.mk r0 r0_1)]).length)] [(4,.row 58 4 (List.map e58 [(HairHank.mk r0 r0_1)])),(3,.row 58 4 (List.map e58 l)),(2,.var 25 (cv25 b)),(1,.var 25 [.d (.nilSl),.d (.nilSl),jI 0,jI 0,jI 0])] 5 0) ?_
 obtain ⟨l1,hv_5,h⟩:=bsome h
 refine RW.one fokW (r_apO trivial rfl rfl rfl rfl rfl rfl (apz hv_5 e58) (apr hv_5 e58) (r_end ?_))
 refine Au 2 (sT [pR 6 1,pR 7 2] [(2,.var 25 [.own 3 (List.map e58 l1).length,.d (.sl 3 (List.map e69 b.Horses)),jI b.Dark,jI b.Near,jI b.Match]),(3,.row 58 4 (List.map e58 l1)),(1,.var 25 [.d (.nilSl),.d (.nilSl),jI 0,jI 0,jI 0])] 5 0) ?_
 refine RW.nil (hQ_1 _ ?_)
 refine Sa (sT [pR 6 1] [(1,.var 25 [.own 3 (List.map e58 l1).length,.d (.sl 3 (List.map e69 b.Horses)),jI b.Dark,jI b.Near,jI b.Match]),(3,.row 58 4 (List.map e58 l1))] 5 0) ?_
 obtain rfl:=Option.some.inj h
 exact AW.ret (hR_0 _ (retX (.cons (.agg rfl rfl (Nat.le_of_ble_eq_true rfl)) .nil) (Frz.agg_of ⟨(.own rfl rfl),.refl _,.refl _,.refl _,.refl _,trivial⟩) rfl (by kernel_rfl) (by kernel_rfl)))
def g32_19 (b:HairBook) (shade:Int):Int→Option (Ctl (Int) (Int)):=fun  n1=>(bif (decide (1<n1)) then ((g90 b (wr (n1 - 1)) shade).bind fun r0_2_1=>(g85 r0_2_1).bind fun r0_4=>some r0_4) else (some false)).bind fun v=>bif v then (some (.next (wr (n1 - 1)))) else (some (.brk n1))
def g32 (b:HairBook) (shade:Int):Option (Int×Int):=(g18 b).bind fun r0_9=>bif (decide (r0_9≠0)) then (some (0,r0_9)) else ((g50 shade 0 20).bind fun r0=>bif (!r0) then (some (0,61)) else ((g85 b).bind fun r0_1=>bif r0_1 then (some (0,0)) else ((g90 b 60 shade).bind fun r0_2=>(g85 r0_2).bind fun r0_3=>bif (!r0_3) then (some (0,4)) else ((whileC (g32_19 b shade) 1000 60).bind fun n=>some (n,0)))))
theorem k32 (b:HairBook) (shade:Int) (r:Int×Int) (h:g32 b shade=some r):SCall Tryd.prog Gs 32 [.agg (cv25 b),jI shade] [] 0 Fr.emp (match r with | (r0_10,r1_4)=>.tup [jI r0_10,jI r1_4]) [] 0 Fr.emp:=by
 unfold g32 at h
 refine SCall.mkK Tryd.func32 c32 rfl rfl (by kernel_rfl) (fun Q_0 hR_0 hN_0=>?_)
 refine Sa (sT [(1,jI shade),pR 2 0] [(0,.var 25 (cv25 b))] 1 0) ?_
 refine AW.seqK fun K_1 hK_1=>AW.srwK fun Q_2 hQ_2=>?_
 refine Au 1 (sT [(1,jI shade),pR 2 0,(8,.agg (cv25 b))] [(0,.var 25 (cv25 b))] 1 0) ?_
 obtain ⟨r0_9,hx_3,h⟩:=bsome h
 refine rC (k18 b _ hx_3) ?_
 refine Au 1 (sT [(1,jI shade),pR 2 0,(6,jI r0_9)] [(0,.var 25 (cv25 b))] 1 0) ?_
 refine RW.nil (hQ_2 _ ?_)
 refine Sa (sT [(1,jI shade),pR 2 0,(6,jI r0_9),(11,.d (.bool (decide (r0_9≠0))))] [(0,.var 25 (cv25 b))] 1 0) ?_
 refine AW.cond rfl (fun hb_4=>?_) (fun hb_4=>?_)
 ·have h:=ifT hb_4 h
  refine Sa (sT [(4,jI 0),(5,jI r0_9)] [] 1 0) ?_
  obtain rfl:=Option.some.inj h
  exact rT hR_0 (.cons (.tmp rfl) (.cons (.tmp rfl) .nil))
 ·have h:=ifF hb_4 h
  refine AW.skip (hK_1 _ ?_)
  refine AW.seqK fun K_5 hK_5=>AW.srwK fun Q_6 hQ_6=>?_
  refine Au 1 (sT [(1,jI shade),pR 2 0,(13,jI shade)] [(0,.var 25 (cv25 b))] 1 0) ?_
  obtain ⟨r0,hx_7,h⟩:=bsome h
  refine rC (k50 shade 0 20 _ hx_7) ?_
  refine Au 1 (sT [(1,jI shade),pR 2 0,(15,.d (.bool (!r0)))] [(0,.var 25 (cv25 b))] 1 0) ?_
  refine RW.nil (hQ_6 _ ?_)
  refine AW.cond rfl (fun hb_8=>?_) (fun hb_8=>?_)
  ·have h:=ifT hb_8 h
   refine Sa (sT [(4,jI 0),(5,jI 61)] [] 1 0) ?_
   obtain rfl:=Option.some.inj h
   exact rT hR_0 (.cons (.tmp rfl) (.cons (.tmp rfl) .nil))
  ·have h:=ifF hb_8 h
   refine AW.skip (hK_5 _ ?_)
   refine AW.seqK fun K_9 hK_9=>AW.srwK fun Q_10 hQ_10=>?_
   refine Au 1 (sT [(1,jI shade),pR 2 0,(16,.agg (cv25 b))] [(0,.var 25 (cv25 b))] 1 0) ?_
   obtain ⟨r0_1,hx_11,h⟩:=bsome h
   refine rC (k85 b _ hx_11) ?_
   refine RW.nil (hQ_10 _ ?_)
   refine AW.cond rfl (fun hb_12=>?_) (fun hb_12=>?_)
   ·have h:=ifT hb_12 h
    refine Sa (sT [(4,jI 0),(5,jI 0)] [] 1 0) ?_
    obtain rfl:=Option.some.inj h
    exact rT hR_0 (.cons (.tmp rfl) (.cons (.tmp rfl) .nil))
   ·have h:=ifF hb_12 h
    refine AW.skip (hK_9 _ ?_)
    refine AW.seqK fun K_13 hK_13=>AW.srwK fun Q_14 hQ_14=>?_
    refine Au 2 (sT [(1,jI shade),pR 2 0,(18,.agg (cv25 b)),(19,jI shade)] [(0,.var 25 (cv25 b))] 1 0) ?_
    obtain ⟨r0_2,hx_15,h⟩:=bsome h
    refine rC (k90 b 60 shade _ hx_15) ?_
    obtain ⟨r0_3,hx_16,h⟩:=bsome h
    refine rC (k85 r0_2 _ hx_16) ?_
    refine Au 1 (sT [(1,jI shade),pR 2 0,(22,.d (.bool (!r0_3)))] [(0,.var 25 (cv25 b))] 1 0) ?_
    refine RW.nil (hQ_14 _ ?_)
    refine AW.cond rfl (fun hb_17=>?_) (fun hb_17=>?_)
    ·have h:=ifT hb_17 h
     refine Sa (sT [(4,jI 0),(5,jI 4)] [] 1 0) ?_
     obtain rfl:=Option.some.inj h
     exact rT hR_0 (.cons (.tmp rfl) (.cons (.tmp rfl) .nil))
    ·have h:=ifF hb_17 h
     refine AW.skip (hK_13 _ ?_)
     refine Sa (sT [(1,jI shade),pR 2 0,(7,jI 60)] [(0,.var 25 (cv25 b))] 1 0) ?_
     obtain ⟨n,hx_18,h⟩:=bsome h
     refine AW.jnSK (fun (n:Int)=>(sT [(7,jI n)] [] 1 0)) (c:=n) (fun K_18 hK_18=>?_) ?_
     ·have h:=hx_18
      refine AW.block ?_
      refine AW.whK (fun (n1:Int)=>(sT [(1,jI shade),pR 2 0,(7,jI n1)] [(0,.var 25 (cv25 b))] 1 0)) (g32_19 b shade) h (Can.kp (by kernel_rfl)) (fun n1 c_19 h hb_19 K_19 hK_19=>?_)
      unfold g32_19 at h
      refine AW.seqK fun K_20 hK_20=>AW.srwK fun Q_21 hQ_21=>?_
      refine Au 3 (sT [(1,jI shade),pR 2 0,(7,jI n1),(25,.d (.bool (decide (1<n1))))] [(0,.var 25 (cv25 b))] 1 0) ?_
      obtain ⟨v,hx_22,h⟩:=bsome h
      refine RW.cut fokW 7 ((sT [(1,jI shade),pR 2 0,(7,jI n1),(32,.d (.bool v))] [(0,.var 25 (cv25 b))] 1 0)) ?_ ?_
      ·refine r_split 25 rfl (fun hb_25=>?_) (fun hb_25=>?_)
       ·have h:=ifT hb_25 hx_22
        refine aX 4 (sT [(1,jI shade),pR 2 0,(7,jI n1),(25,.d (.bool true)),(26,.agg (cv25 b)),(28,jI (wr (n1 - 1))),(29,jI shade)] [(0,.var 25 (cv25 b))] 1 0) ?_
        obtain ⟨r0_2_1,hx_23,h⟩:=bsome h
        refine r_call rfl rfl (k90 b (wr (n1 - 1)) shade _ hx_23) rfl rfl ?_
        obtain ⟨r0_4,hx_24,h⟩:=bsome h
        refine r_call rfl rfl (k85 r0_2_1 _ hx_24) rfl rfl ?_
        refine aX 1 (sT [(1,jI shade),pR 2 0,(7,jI n1),(32,.d (.bool r0_4))] [(0,.var 25 (cv25 b))] 1 0) ?_
        obtain rfl:=Option.some.inj h
        refine RunC.finJ (Can.kp (by kernel_rfl))
       ·have h:=ifF hb_25 hx_22
        refine aX 7 (sT [(1,jI shade),pR 2 0,(7,jI n1),(32,.d (.bool false))] [(0,.var 25 (cv25 b))] 1 0) ?_
        obtain rfl:=Option.some.inj h
        refine RunC.finJ (Can.kp (by kernel_rfl))
      ·refine RW.nil (hQ_21 _ ?_)
       refine AW.cond rfl (fun hb_26=>?_) (fun hb_26=>?_)
       ·have h:=ifT hb_26 h
        refine AW.skip (hK_20 _ ?_)
        refine AW.block ?_
        refine Ra (sT [(1,jI shade),pR 2 0,(7,jI (wr (n1 - 1)))] [(0,.var 25 (cv25 b))] 1 0) ?_
        obtain rfl:=Option.some.inj h
        exact hK_19 _ _ rfl (Can.kp (by kernel_rfl))
       ·have h:=ifF hb_26 h
        refine AW.exit ?_
        obtain rfl:=Option.some.inj h
        obtain rfl:=hb_19 _ rfl
        exact hK_18 _ (Can.kp (by kernel_rfl))
     ·refine Sa (sT [(4,jI n),(5,jI 0)] [] 1 0) ?_
      obtain rfl:=Option.some.inj h
      exact rT hR_0 (.cons (.tmp rfl) (.cons (.tmp rfl) .nil))
def g92_8 (rec_:HairBook→(List Int)→Option Bool) (b:HairBook) (some_:(List Int)):Int→Unit→Option (Ctl (Unit) (Ctl (Unit) (Ctl (Unit) (Ctl (Unit) (Bool))))):=fun n _=>(g109 some_ n).bind fun r0=>(rec_ b r0).bind fun r0_7_1=>bif r0_7_1 then (some (.brk (.brk (.brk (.brk true))))) else (some (.next ()))
def g92_19 (b:HairBook):Int→Int→(List HairHank)→Option (List HairHank):=fun h_ p1 l=>(ixL b.Hanks h_).bind fun p2=>(g40 p2.Weight.High).bind fun r0_1=>(g40 p1).bind fun r0_2=>(appL 32 l [(HairHank.mk r0_1 r0_2)]).bind fun l1=>some l1
def g92:Nat→HairBook→(List Int)→Option Bool
 | 0,_,_=>none
 | n_+1,b,some_=>bindC (bif (decide ((some_.length:Int)<(b.Hanks.length:Int))) then ((ixL b.Hanks (some_.length:Int)).bind fun p=>bindC (bindC ((must (decide ((p.Shade.High+1)≤9223372036854775807))).bind fun _=>(must (decide (-9223372036854775808≤p.Shade.Low))).bind fun _=>bindC (forC (g92_8 (g92 n_) b some_) ((((p.Shade.High+1):Int) - p.Shade.Low).toNat) p.Shade.Low ()) fun _=>some (.next ()):Option (Ctl (Unit) (Ctl (Unit) (Ctl (Unit) (Bool))))) fun _=>some (.next ()):Option (Ctl (Unit) (Ctl (Unit) (Bool)))) fun _=>some (.brk false)) else (some (.next ())):Option (Ctl (Unit) (Bool))) fun _=>(eachS (g92_19 b) some_ 0 ([]:List HairHank)).bind fun l=>(g85 (HairBook.mk l b.Horses b.Dark b.Near b.Match)).bind fun r0_3=>some r0_3
def y47 (b:HairBook):List (Nat×Blk):=[(1,.var 25 [.d (.nilSl),.d (.sl 3 (List.map e69 b.Horses)),jI b.Dark,jI b.Near,jI b.Match]),(0,.var 25 (cv25 b))]
def y48 (l:List HairHank) (b:HairBook):List (Nat×Blk):=[(1,.var 25 [.own 2 (List.map e58 l).length,.d (.sl 3 (List.map e69 b.Horses)),jI b.Dark,jI b.Near,jI b.Match]),(2,.row 58 4 (List.map e58 l)),(0,.var 25 (cv25 b))]
def y49 (l1:List HairHank) (b:HairBook):List (Nat×Blk):=[(1,.var 25 [.own 2 (List.map e58 l1).length,.d (.sl 3 (List.map e69 b.Horses)),jI b.Dark,jI b.Near,jI b.Match]),(2,.row 58 4 (List.map e58 l1)),(0,.var 25 (cv25 b))]
theorem k92:∀ (n_:Nat) (b:HairBook) (some_:(List Int)) (r:Bool) (h:g92 n_ b some_=some r),SCall Tryd.prog Gs 92 [.agg (cv25 b),.d (q1 some_)] [] 0 Fr.emp (.d (.bool r)) [] 0 Fr.emp:=by
 intro n_
 induction n_ with
 | zero=>intro b some_ r h;cases h
 | succ n_ ih=>
  intro b some_ r h
  rw [g92] at h
  refine SCall.mkK Tryd.func92 c92 rfl rfl (by kernel_rfl) (fun Q_0 hR_0 hN_0=>?_)
  refine Sa (sT [(1,.d (q1 some_)),pR 2 0] [(0,.var 25 (cv25 b))] 1 0) ?_
  obtain ⟨c_1,hx_1,hk_1⟩:=bsomeC h
  refine AW.jnK (fun (_:Unit)=>(sT [(1,.d (q1 some_)),pR 2 0] [(0,.var 25 (cv25 b))] 1 0)) (c:=c_1) (fun K_1 hK_1=>?_) (fun j_1 hj_1=>?_)
  ·have h:=hx_1
   refine AW.srwK (fun Q_2 hQ_2=>?_)
   refine Au 1 (sT [(1,.d (q1 some_)),pR 2 0,(9,.d (q1 some_))] [(0,.var 25 (cv25 b))] 1 0) ?_
   refine rL rfl ?_
   refine Au 2 (sT [(1,.d (q1 some_)),pR 2 0,(10,jI (some_.length:Int)),(12,.d (.sl 4 (List.map e58 b.Hanks)))] [(0,.var 25 (cv25 b))] 1 0) ?_
   refine rL rfl ?_
   refine Au 1 (sT [(1,.d (q1 some_)),pR 2 0,(14,.d (.bool (decide ((some_.length:Int)<(b.Hanks.length:Int)))))] [(0,.var 25 (cv25 b))] 1 0) ?_
   refine RW.nil (hQ_2 _ ?_)
   refine AW.cond rfl (fun hb_3=>?_) (fun hb_3=>?_)
   ·have h:=ifT hb_3 h
    refine AW.srwK (fun Q_4 hQ_4=>?_)
    refine Au 3 (sT [(1,.d (q1 some_)),pR 2 0,(16,.d (.sl 4 (List.map e58 b.Hanks))),(17,.d (q1 some_))] [(0,.var 25 (cv25 b))] 1 0) ?_
    refine rL rfl ?_
    obtain ⟨p,hv_5,h⟩:=bsome h
    refine RW.one fokW (r_iaD trivial rfl rfl (ixL_ok hv_5).1 (row:=e58 p) (mapget (ixL_ok hv_5).2) (r_end ?_))
    refine Au 4 (sT [(1,.d (q1 some_)),pR 2 0,pR 5 1] [(1,.var 35 [jI p.Shade.Low,jI p.Shade.High]),(0,.var 25 (cv25 b))] 2 0) ?_
    refine RW.nil (hQ_4 _ ?_)
    obtain ⟨c_6,hx_6,hk_6⟩:=bsomeC h
    refine AW.jnK (fun (_:Unit)=>(sT [] [] 2 0)) (c:=c_6) (fun K_6 hK_6=>?_) (fun j_6 hj_6=>?_)
    ·have h:=hx_6
     refine Sa (sT [(1,.d (q1 some_)),pR 2 0,pR 5 1,(6,jI p.Shade.Low)] [(1,.var 35 [jI p.Shade.Low,jI p.Shade.High]),(0,.var 25 (cv25 b))] 2 0) ?_
     obtain ⟨c_7,hx_7,hk_7⟩:=bsomeC h
     refine AW.jqK (fun (_:Unit)=>(sT [] [] 2 0)) (c:=c_7) (fun K_7 hK_7=>?_) (fun j_7 hj_7=>?_)
     ·have h:=hx_7
      refine AW.block ?_
      obtain ⟨_,hN_8,h⟩:=bsome h
      have hN_8:=of_decide_eq_true (must_ok hN_8)
      obtain ⟨_,h0_8,h⟩:=bsome h
      have h0_8:=of_decide_eq_true (must_ok h0_8)
      obtain ⟨out_8,hx_8,hk_8⟩:=bsomeC h
      refine AW.lpCK (fun (n:Int) (_:Unit)=>(sT [(1,.d (q1 some_)),pR 2 0,pR 5 1,(6,jI n)] [(1,.var 35 [jI p.Shade.Low,jI p.Shade.High]),(0,.var 25 (cv25 b))] 2 0)) (g92_8 (g92 n_) b some_) ((p.Shade.High+1)) hx_8 (Can.kp (by kernel_rfl)) (fun n s_8 hi_8 hl_8 c_8 h hb_8 K_8 hK_8=>?_) (fun n s_8 hi_8 hl_8 hout=>?_)
      ·unfold g92_8 at h
       refine AW.seqK (fun K_9 hK_9=>?_)
       refine Sa (sT [(1,.d (q1 some_)),pR 2 0,pR 5 1,(6,jI n),(27,.d (.bool (decide (n≤p.Shade.High))))] [(1,.var 35 [jI p.Shade.Low,jI p.Shade.High]),(0,.var 25 (cv25 b))] 2 0) ?_
       refine AW.cond rfl (fun hb_10=>?_) (fun hb_10=>False.elim (by have:=of_decide_eq_false hb_10;omega))
       refine AW.skip (hK_9 _ ?_)
       refine AW.seqK (fun K_11 hK_11=>?_)
       refine AW.block ?_
       refine AW.sdrwK fokW (fun Q_12 hQ_12=>?_)
       refine aX 3 (sT [(1,.d (q1 some_)),pR 2 0,pR 5 1,(6,jI n),(30,.agg (cv25 b)),(31,.d (q1 some_)),(32,jI n)] [(1,.var 35 [jI p.Shade.Low,jI p.Shade.High]),(0,.var 25 (cv25 b))] 2 0) ?_
       obtain ⟨r0,hx_13,h⟩:=bsome h
       refine r_call trivial rfl (k109 some_ n _ hx_13) rfl rfl ?_
       obtain ⟨r0_7_1,hx_14,h⟩:=bsome h
       refine r_call trivial rfl (ih b r0 _ hx_14) rfl rfl ?_
       refine Fi (sT [(1,.d (q1 some_)),pR 2 0,pR 5 1,(6,jI n),(34,.d (.bool r0_7_1))] [(1,.var 35 [jI p.Shade.Low,jI p.Shade.High]),(0,.var 25 (cv25 b))] 2 0) ?_
       refine hQ_12 _ ?_
       refine AW.cond rfl (fun hb_15=>?_) (fun hb_15=>?_)
       ·have h:=ifT hb_15 h
        refine Sa (sT [(4,.d (.bool true))] [] 2 0) ?_
        obtain rfl:=Option.some.inj h
        have e_4:=hb_8 _ rfl
        subst e_4
        obtain rfl:=Aft.bk hk_8
        obtain rfl:=Aft.bk hk_7
        obtain rfl:=Aft.bk hk_6
        obtain rfl:=Aft.bk hk_1
        exact rT hR_0 (.cons (.tmp rfl) .nil)
       ·have h:=ifF hb_15 h
        refine AW.skip (hK_11 _ ?_)
        refine Ra (sT [(1,.d (q1 some_)),pR 2 0,pR 5 1,(6,jI (wr (n+1)))] [(1,.var 35 [jI p.Shade.Low,jI p.Shade.High]),(0,.var 25 (cv25 b))] 2 0) ?_
        obtain rfl:=Option.some.inj h
        have ew:wr (n+1)=n+1:=inext (N:=(p.Shade.High+1)) (by omega) (by omega) (by omega)
        rw [ew]
        exact hK_8 _ _ rfl (Can.kp (by kernel_rfl))
      ·subst hout
       have h:=Aft.nx hk_8
       refine AW.seqK (fun K_16 hK_16=>?_)
       refine Sa (sT [(1,.d (q1 some_)),pR 2 0,pR 5 1,(6,jI n),(27,.d (.bool (decide (n≤p.Shade.High))))] [(1,.var 35 [jI p.Shade.Low,jI p.Shade.High]),(0,.var 25 (cv25 b))] 2 0) ?_
       refine AW.cond rfl (fun hb_17=>False.elim (by have:=of_decide_eq_true hb_17;omega)) (fun hb_17=>?_)
       refine AW.exit ?_
       obtain rfl:=Option.some.inj h
       exact hK_7 _ _ rfl (Can.kp (by kernel_rfl))
     ·subst hj_7
      have h:=Aft.nx hk_7
      obtain rfl:=Option.some.inj h
      exact hK_6 _ _ rfl (Can.kp (by kernel_rfl))
    ·subst hj_6
     have h:=Aft.nx hk_6
     refine Sa (sT [(4,.d (.bool false))] [] 2 0) ?_
     obtain rfl:=Option.some.inj h
     obtain rfl:=Aft.bk hk_1
     exact rT hR_0 (.cons (.tmp rfl) .nil)
   ·have h:=ifF hb_3 h
    refine AW.skip ?_
    obtain rfl:=Option.some.inj h
    exact hK_1 _ _ rfl (Can.kp (by kernel_rfl))
  ·subst hj_1
   have h:=Aft.nx hk_1
   refine Sa (sT [(1,.d (q1 some_)),pR 2 0,pR 7 1] [(1,.var 25 (cv25 b)),(0,.var 25 (cv25 b))] 2 0) ?_
   refine Sa (sT [(1,.d (q1 some_)),pR 2 0,pR 7 1] (y47 b) 2 0) ?_
   refine AW.seqK (fun K_18 hK_18=>?_)
   refine Sa (sT [(1,.d (q1 some_)),pR 2 0,pR 7 1,(8,jI 0)] (y47 b) 2 0) ?_
   refine AW.block ?_
   refine AW.sln (t:=1) rfl (fun hN_19=>?_)
   rw [List.length_map] at hN_19
   obtain ⟨out_19,hx_19,h⟩:=bsome h
   refine AW.evSK (fun (h_:Int) (l:List HairHank)=>(sT [(1,.d (q1 some_)),pR 2 0,pR 7 1,(8,jI h_)] (y48 l b) 3 0)) (g92_19 b) hx_19 (Can.trans (Can.thawH 1 0 25 58 4 rfl rfl rfl) (Can.kp (by kernel_rfl))) (fun h_ p1 l hi_19 hl_19 hp_19 c_19 h K_19 hK_19=>?_) (fun h_ l hi_19 hl_19 hout=>?_)
   ·unfold g92_19 at h
    refine AW.seqK fun K_20 hK_20=>AW.srwK fun Q_21 hQ_21=>?_
    refine Au 2 (sT [(1,.d (q1 some_)),pR 2 0,pR 7 1,(8,jI h_),(37,jI h_),(38,.d (q1 some_))] (y48 l b) 3 0) ?_
    refine rL rfl ?_
    refine Au 1 (sT [(1,.d (q1 some_)),pR 2 0,pR 7 1,(8,jI h_),(40,.d (.bool (decide (h_<(some_.length:Int)))))] (y48 l b) 3 0) ?_
    refine RW.nil (hQ_21 _ ?_)
    refine AW.cond rfl (fun hb_22=>?_) (fun hb_22=>False.elim (by have:=of_decide_eq_false hb_22;omega))
    refine AW.skip (hK_20 _ ?_)
    refine AW.seqK (fun K_23 hK_23=>?_)
    refine AW.block ?_
    refine AW.drw fokW ?_
    refine aX 5 (sT [(1,.d (q1 some_)),pR 2 0,pR 7 1,(8,jI h_),(44,.own 2 (List.map e58 l).length),(46,.d (.sl 4 (List.map e58 b.Hanks))),(47,jI h_)] (y48 l b) 3 0) ?_
    obtain ⟨p2,hv_25,h⟩:=bsome h
    refine r_iaD trivial rfl rfl (ixL_ok hv_25).1 (row:=e58 p2) (mapget (ixL_ok hv_25).2) ?_
    refine aX 3 (sT [(1,.d (q1 some_)),pR 2 0,pR 7 1,(8,jI h_),(44,.own 2 (List.map e58 l).length),(51,jI p2.Weight.High)] (y48 l b) 3 0) ?_
    obtain ⟨r0_1,hx_26,h⟩:=bsome h
    refine r_call trivial rfl (k40 p2.Weight.High _ hx_26) rfl rfl ?_
    refine aX 2 (sT [(1,.d (q1 some_)),pR 2 0,pR 7 1,(8,jI h_),(44,.own 2 (List.map e58 l).length),(52,.agg [jI r0_1.Low,jI r0_1.High]),(53,.d (q1 some_)),(54,jI h_)] (y48 l b) 3 0) ?_
    refine r_iaD trivial rfl rfl hi_19 (row:=e3 p1) (mapget hp_19) ?_
    refine aX 1 (sT [(1,.d (q1 some_)),pR 2 0,pR 7 1,(8,jI h_),(44,.own 2 (List.map e58 l).length),(52,.agg [jI r0_1.Low,jI r0_1.High]),(56,jI p1)] (y48 l b) 3 0) ?_
    obtain ⟨r0_2,hx_27,h⟩:=bsome h
    refine r_call trivial rfl (k40 p1 _ hx_27) rfl rfl ?_
    refine aX 2 (sT [(1,.d (q1 some_)),pR 2 0,pR 7 1,(8,jI h_),(44,.own 2 (List.map e58 l).length),(59,.own 3 (List.map e58 [(HairHank.mk r0_1 r0_2)]).length)] [(3,.row 58 4 (List.map e58 [(HairHank.mk r0_1 r0_2)])),(1,.var 25 [.own 2 (List.map e58 l).length,.d (.sl 3 (List.map e69 b.Horses)),jI b.Dark,jI b.Near,jI b.Match]),(2,.row 58 4 (List.map e58 l)),(0,.var 25 (cv25 b))] 4 0) ?_
    obtain ⟨l1,hv_28,h⟩:=bsome h
    refine r_apO trivial rfl rfl rfl rfl rfl rfl (apz hv_28 e58) (apr hv_28 e58) ?_
    refine aX 2 (sT [(1,.d (q1 some_)),pR 2 0,pR 7 1,(8,jI h_)] [(1,.var 25 [.own 2 (List.map e58 l1).length,.d (.sl 3 (List.map e69 b.Horses)),jI b.Dark,jI b.Near,jI b.Match]),(2,.row 58 4 (List.map e58 l1)),(3,.row 58 4 (List.map e58 [(HairHank.mk r0_1 r0_2)])),(0,.var 25 (cv25 b))] 4 0) ?_
    refine Fi (sT [(1,.d (q1 some_)),pR 2 0,pR 7 1,(8,jI h_)] (y49 l1 b) 4 0) ?_
    refine hK_23 _ ?_
    refine Ra (sT [(1,.d (q1 some_)),pR 2 0,pR 7 1,(8,jI (wr (h_+1)))] (y49 l1 b) 4 0) ?_
    obtain rfl:=Option.some.inj h
    have ew:wr (h_+1)=h_+1:=inext (N:=(some_.length:Int)) (by omega) (by omega) (by omega)
    rw [ew]
    exact hK_19 _ (Can.kp (by kernel_rfl))
   ·subst hout
    refine AW.seqK fun K_29 hK_29=>AW.srwK fun Q_30 hQ_30=>?_
    refine Au 2 (sT [(1,.d (q1 some_)),pR 2 0,pR 7 1,(8,jI h_),(37,jI h_),(38,.d (q1 some_))] (y48 l b) 3 0) ?_
    refine rL rfl ?_
    refine Au 1 (sT [(1,.d (q1 some_)),pR 2 0,pR 7 1,(8,jI h_),(40,.d (.bool (decide (h_<(some_.length:Int)))))] (y48 l b) 3 0) ?_
    refine RW.nil (hQ_30 _ ?_)
    refine AW.cond rfl (fun hb_31=>False.elim (by have:=of_decide_eq_true hb_31;omega)) (fun hb_31=>?_)
    refine AW.exit ?_
    refine hK_18 _ ?_
    refine AW.srwK (fun Q_32 hQ_32=>?_)
    refine Au 1 (sT [(62,.agg [.own 2 (List.map e58 l).length,.d (.sl 3 (List.map e69 b.Horses)),jI b.Dark,jI b.Near,jI b.Match])] [(2,.row 58 4 (List.map e58 l))] 3 0) ?_
    obtain ⟨r0_3,hx_33,h⟩:=bsome h
    refine RW.one fokW (r_callF (rs:=[(2,.row 58 4 (List.map e58 l))]) trivial rfl (k85 (HairBook.mk l b.Horses b.Dark b.Near b.Match) _ hx_33) ⟨rfl,trivial⟩ ⟨(Frz.agg_of ⟨(.own rfl rfl),.refl _,.refl _,.refl _,.refl _,trivial⟩),trivial⟩ rfl rfl rfl (r_end ?_))
    refine Au 1 (sT [(4,.d (.bool r0_3))] [] 3 0) ?_
    refine RW.nil (hQ_32 _ ?_)
    obtain rfl:=Option.some.inj h
    exact rT hR_0 (.cons (.tmp rfl) .nil)
def g34 (b:HairBook):Option (Bool×Int):=(g18 b).bind fun r0_9=>bif (decide (r0_9≠0)) then (some (false,r0_9)) else ((g92 1000 b ([]:(List Int))).bind fun r0_7=>some (r0_7,0))
theorem k34 (b:HairBook) (r:Bool×Int) (h:g34 b=some r):SCall Tryd.prog Gs 34 [.agg (cv25 b)] [] 0 Fr.emp (match r with | (r0_1,r1_1)=>.tup [.d (.bool r0_1),jI r1_1]) [] 0 Fr.emp:=by
 unfold g34 at h
 refine SCall.mkK Tryd.func34 c34 rfl rfl (by kernel_rfl) (fun Q_0 hR_0 hN_0=>?_)
 refine Sa (sT [pR 1 0] [(0,.var 25 (cv25 b))] 1 0) ?_
 refine AW.seqK fun K_1 hK_1=>AW.srwK fun Q_2 hQ_2=>?_
 refine Au 1 (sT [pR 1 0,(5,.agg (cv25 b))] [(0,.var 25 (cv25 b))] 1 0) ?_
 obtain ⟨r0_9,hx_3,h⟩:=bsome h
 refine rC (k18 b _ hx_3) ?_
 refine Au 1 (sT [pR 1 0,(4,jI r0_9)] [(0,.var 25 (cv25 b))] 1 0) ?_
 refine RW.nil (hQ_2 _ ?_)
 refine Sa (sT [pR 1 0,(4,jI r0_9),(8,.d (.bool (decide (r0_9≠0))))] [(0,.var 25 (cv25 b))] 1 0) ?_
 refine AW.cond rfl (fun hb_4=>?_) (fun hb_4=>?_)
 ·have h:=ifT hb_4 h
  refine Sa (sT [(2,.d (.bool false)),(3,jI r0_9)] [] 1 0) ?_
  obtain rfl:=Option.some.inj h
  exact rT hR_0 (.cons (.tmp rfl) (.cons (.tmp rfl) .nil))
 ·have h:=ifF hb_4 h
  refine AW.skip (hK_1 _ ?_)
  refine AW.srwK (fun Q_5 hQ_5=>?_)
  refine Au 1 (sT [(10,.agg (cv25 b))] [] 1 0) ?_
  obtain ⟨r0_7,hx_6,h⟩:=bsome h
  refine RW.one fokW (r_callZ (zr:=[]) trivial rfl (k92 1000 b ([]:(List Int)) _ hx_6) trivial ⟨.refl _,(.nil 1),trivial⟩ rfl rfl rfl rfl (r_end ?_))
  refine Au 2 (sT [(2,.d (.bool r0_7)),(3,jI 0)] [] 1 0) ?_
  refine RW.nil (hQ_5 _ ?_)
  obtain rfl:=Option.some.inj h
  exact rT hR_0 (.cons (.tmp rfl) (.cons (.tmp rfl) .nil))
def g5 (b:HairBook) (shade:Int):Option Bool:=(g31 b shade).bind fun (r0_5,r1_6)=>(g32 b shade).bind fun (r0_10,r1_4)=>bif ((decide (r0_5≠r0_10))||(decide (r1_6≠r1_4))) then (some false) else ((g33 b).bind fun (r0_1,r1_1)=>(g34 b).bind fun (r0_1_1,r1_1_1)=>(bif ((false != (r0_1==r0_1_1))&&(decide (r1_1=r1_1_1))) then ((g25).bind fun r0_12=>some r0_12) else (some false)).bind fun v=>some v)
theorem k5 (b:HairBook) (shade:Int) (r:Bool) (h:g5 b shade=some r):SCall Tryd.prog Gs 5 [.agg (cv25 b),jI shade] [] 0 Fr.emp (.d (.bool r)) [] 0 Fr.emp:=by
 unfold g5 at h
 refine SCall.mkK Tryd.func5 c5 rfl rfl (by kernel_rfl) (fun Q_0 hR_0 hN_0=>?_)
 refine Sa (sT [(1,jI shade),pR 2 0] [(0,.var 25 (cv25 b))] 1 0) ?_
 refine AW.srwK (fun Q_1 hQ_1=>?_)
 refine Au 2 (sT [(1,jI shade),pR 2 0,(12,.agg (cv25 b)),(13,jI shade)] [(0,.var 25 (cv25 b))] 1 0) ?_
 obtain ⟨⟨r0_5,r1_6⟩,hx_2,h⟩:=bsome h
 refine rC (k31 b shade _ hx_2) ?_
 refine Au 5 (sT [(1,jI shade),pR 2 0,(5,jI r0_5),(6,jI r1_6)] [(0,.var 25 (cv25 b))] 1 0) ?_
 refine RW.nil (hQ_1 _ ?_)
 refine AW.srwK (fun Q_3 hQ_3=>?_)
 refine Au 2 (sT [pR 2 0,(5,jI r0_5),(6,jI r1_6),(18,.agg (cv25 b)),(19,jI shade)] [(0,.var 25 (cv25 b))] 1 0) ?_
 obtain ⟨⟨r0_10,r1_4⟩,hx_4,h⟩:=bsome h
 refine rC (k32 b shade _ hx_4) ?_
 refine Au 5 (sT [pR 2 0,(5,jI r0_5),(6,jI r1_6),(7,jI r0_10),(8,jI r1_4)] [(0,.var 25 (cv25 b))] 1 0) ?_
 refine RW.nil (hQ_3 _ ?_)
 refine AW.seqK (fun K_5 hK_5=>?_)
 refine AW.sa fokW [26] (sT [pR 2 0,(30,.d (.bool ((decide (r0_5≠r0_10))||(decide (r1_6≠r1_4)))))] [(0,.var 25 (cv25 b))] 1 0) (by kernel_rfl) ?_
 refine AW.cond rfl (fun hb_6=>?_) (fun hb_6=>?_)
 ·have h:=ifT hb_6 h
  refine Sa (sT [(4,.d (.bool false))] [] 1 0) ?_
  obtain rfl:=Option.some.inj h
  exact rT hR_0 (.cons (.tmp rfl) .nil)
 ·have h:=ifF hb_6 h
  refine AW.skip (hK_5 _ ?_)
  refine AW.srwK (fun Q_7 hQ_7=>?_)
  refine Au 1 (sT [pR 2 0,(32,.agg (cv25 b))] [(0,.var 25 (cv25 b))] 1 0) ?_
  obtain ⟨⟨r0_1,r1_1⟩,hx_8,h⟩:=bsome h
  refine rC (k33 b _ hx_8) ?_
  refine Au 5 (sT [pR 2 0,(6,jI r1_1),(9,.d (.bool r0_1))] [(0,.var 25 (cv25 b))] 1 0) ?_
  refine RW.nil (hQ_7 _ ?_)
  refine AW.srwK (fun Q_9 hQ_9=>?_)
  refine Au 1 (sT [(6,jI r1_1),(9,.d (.bool r0_1)),(37,.agg (cv25 b))] [] 1 0) ?_
  obtain ⟨⟨r0_1_1,r1_1_1⟩,hx_10,h⟩:=bsome h
  refine rC (k34 b _ hx_10) ?_
  refine Au 5 (sT [(6,jI r1_1),(8,jI r1_1_1),(9,.d (.bool r0_1)),(10,.d (.bool r0_1_1))] [] 1 0) ?_
  refine RW.nil (hQ_9 _ ?_)
  refine AW.srwK (fun Q_11 hQ_11=>?_)
  refine RW.au fokW 9 [44] (sT [(49,.d (.bool ((false != (r0_1==r0_1_1))&&(decide (r1_1=r1_1_1)))))] [] 1 0) (by kernel_rfl) ?_
  obtain ⟨v,hx_12,h⟩:=bsome h
  refine RW.cut fokW 2 ((sT [(51,.d (.bool v))] [] 1 0)) ?_ ?_
  ·refine r_split 49 rfl (fun hb_14=>?_) (fun hb_14=>?_)
   ·have h:=ifT hb_14 hx_12
    obtain ⟨r0_12,hx_13,h⟩:=bsome h
    refine r_call rfl rfl (k25 _ hx_13) rfl rfl ?_
    refine aX 1 (sT [(51,.d (.bool r0_12))] [] 1 0) ?_
    obtain rfl:=Option.some.inj h
    refine RunC.finJ (Can.kp (by kernel_rfl))
   ·have h:=ifF hb_14 hx_12
    refine aX 2 (sT [(51,.d (.bool false))] [] 1 0) ?_
    obtain rfl:=Option.some.inj h
    refine RunC.finJ (Can.kp (by kernel_rfl))
  ·refine Au 1 (sT [(4,.d (.bool v))] [] 1 0) ?_
   refine RW.nil (hQ_11 _ ?_)
   obtain rfl:=Option.some.inj h
   exact rT hR_0 (.cons (.tmp rfl) .nil)
end Go.Proofs.Th
