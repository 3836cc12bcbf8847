/- Told functions, and that the program does so, part 2. Conditions: none. -/
import Derived.Test.YtjooihelppcfkaaDoorTda
set_option linter.unusedVariables false
set_option linter.unusedSimpArgs false
namespace Go.Proofs.Tr
open Go Go.Abs Go.Proofs
def g15 (x:HarnessBook):Option ((List Int)×Int):=(g59 x true).bind fun r_13=>match r_13 with | .next (r0_K3,r0_bald3,r1_1)=>(must (decide (r1_1≠0))).bind fun _=>some ([],r1_1) | .brk (r0_K4,r0_bald4,mf1,r1_2)=>bif (decide (r1_2≠0)) then (some ([],r1_2)) else ((g61 r0_K4 r0_bald4 mf1).bind fun r0=>(g60 r0_K4 r0_bald4 mf1 r0).bind fun (surely,perhaps)=>(g62 r0_K4 r0_bald4 mf1 surely).bind fun r0_1=>some (r0_1,0))
theorem k15 (x:HarnessBook) (r:(List Int)×Int) (h:g15 x=some r):SCall Tryd.prog Gs 15 [.agg (cv29 x)] [] 0 Fr.emp (match r with | (r0_4,r1_4)=>.tup [.d (q1 r0_4),jI r1_4]) [] 0 Fr.emp:=by
 unfold g15 at h
 refine SCall.mkK Tryd.func15 c15 rfl rfl (by kernel_rfl) (fun Q_0 hR_0 hN_0=>?_)
 refine Sa (sT [pR 1 0] [(0,.var 29 (cv29 x))] 1 0) ?_
 refine AW.srwK (fun Q_1 hQ_1=>?_)
 refine Au 1 (sT [(9,.agg (cv29 x))] [] 1 0) ?_
 obtain ⟨r_13,hx_2,h⟩:=bsome h
 rcases r_13 with (⟨r0_K3,r0_bald3,r1_1⟩ | (⟨r0_K4,r0_bald4,mf1,r1_2⟩))
 ·refine rC (k59 x true _ hx_2) ?_
  obtain ⟨_,hv_3,h⟩:=bsome h
  have hf_4:=must_ok hv_3
  refine Au 6 (sT [pR 4 1,(5,jI r1_1)] [(1,.var 74 (catV (cv29 r0_K3) [.d (q1 r0_bald3),.d (.nilMap)]))] 2 0) ?_
  refine RW.nil (hQ_1 _ ?_)
  refine AW.seqK (fun K_5 hK_5=>?_)
  refine Sa (sT [pR 4 1,(5,jI r1_1),(14,.d (.bool (decide (r1_1≠0))))] [(1,.var 74 (catV (cv29 r0_K3) [.d (q1 r0_bald3),.d (.nilMap)]))] 2 0) ?_
  refine AW.cond rfl (fun hb_6=>?_) (fun hb_6=>False.elim (by rw [hf_4] at hb_6;cases hb_6))
  refine Sa (sT [(2,.d (.nilSl)),(3,jI r1_1)] [] 2 0) ?_
  obtain rfl:=Option.some.inj h
  exact AW.ret (hR_0 _ (retX (.cons (.tmp rfl) (.cons (.tmp rfl) .nil)) (Frz.tup_of ⟨.nil 1,.refl _,trivial⟩) rfl (by kernel_rfl) (by kernel_rfl)))
 ·refine rC (k59 x true _ hx_2) ?_
  refine Au 6 (sT [pR 4 1,(5,jI r1_2)] [(1,.var 74 (kbm r0_K4 r0_bald4 mf1))] 2 0) ?_
  refine RW.nil (hQ_1 _ ?_)
  refine AW.seqK (fun K_7 hK_7=>?_)
  refine Sa (sT [pR 4 1,(5,jI r1_2),(14,.d (.bool (decide (r1_2≠0))))] [(1,.var 74 (kbm r0_K4 r0_bald4 mf1))] 2 0) ?_
  refine AW.cond rfl (fun hb_8=>?_) (fun hb_8=>?_)
  ·have h:=ifT hb_8 h
   refine Sa (sT [(2,.d (.nilSl)),(3,jI r1_2)] [] 2 0) ?_
   obtain rfl:=Option.some.inj h
   exact AW.ret (hR_0 _ (retX (.cons (.tmp rfl) (.cons (.tmp rfl) .nil)) (Frz.tup_of ⟨.nil 1,.refl _,trivial⟩) rfl (by kernel_rfl) (by kernel_rfl)))
  ·have h:=ifF hb_8 h
   refine AW.skip (hK_7 _ ?_)
   refine AW.sdrwK fokW (fun Q_9 hQ_9=>?_)
   refine aX 2 (sT [pR 4 1,(17,.agg (kbm r0_K4 r0_bald4 mf1)),(18,.agg (kbm r0_K4 r0_bald4 mf1))] [(1,.var 74 (kbm r0_K4 r0_bald4 mf1))] 2 0) ?_
   obtain ⟨r0,hx_10,h⟩:=bsome h
   refine r_call trivial rfl (k61 r0_K4 r0_bald4 mf1 _ hx_10) rfl rfl ?_
   obtain ⟨⟨surely,perhaps⟩,hx_11,h⟩:=bsome h
   refine r_call trivial rfl (k60 r0_K4 r0_bald4 mf1 r0 _ hx_11) rfl rfl ?_
   refine aX 5 (sT [pR 4 1,(6,jI surely)] [(1,.var 74 (kbm r0_K4 r0_bald4 mf1))] 2 0) ?_
   refine Fi (sT [pR 4 1,(6,jI surely)] [(1,.var 74 (kbm r0_K4 r0_bald4 mf1))] 2 0) ?_
   refine hQ_9 _ ?_
   refine AW.srwK (fun Q_12 hQ_12=>?_)
   refine Au 2 (sT [(23,.agg (kbm r0_K4 r0_bald4 mf1)),(24,jI surely)] [] 2 0) ?_
   obtain ⟨r0_1,hx_13,h⟩:=bsome h
   refine rC (k62 r0_K4 r0_bald4 mf1 surely _ hx_13) ?_
   refine Au 2 (sT [(2,.d (q1 r0_1)),(3,jI 0)] [] 2 0) ?_
   refine RW.nil (hQ_12 _ ?_)
   obtain rfl:=Option.some.inj h
   exact rT hR_0 (.cons (.tmp rfl) (.cons (.tmp rfl) .nil))
def g58 :Option HarnessBook:=(g55).bind fun (r0_Hair_Hanks,r0_Hair_Horses,r0_Hair_Dark,r0_Hair_Near,r0_Hair_Match,r0_Needs,r0_Stock,r0_Pack,r0_Bad)=>(g46 3 4).bind fun r0=>(ixL r0_Stock 1).bind fun p=>some (HarnessBook.mk (HairBook.mk r0_Hair_Hanks r0_Hair_Horses r0_Hair_Dark r0_Hair_Near r0_Hair_Match) r0_Needs (setL r0_Stock 1 r0) r0_Pack r0_Bad)
theorem k58  (r:HarnessBook) (h:g58=some r):SCall Tryd.prog Gs 58 [] [] 0 Fr.emp (.agg (cv29 r)) [] 0 Fr.emp:=by
 unfold g58 at h
 refine SCall.mkK Tryd.func58 c58 rfl rfl (by kernel_rfl) (fun Q_0 hR_0 hN_0=>?_)
 refine Sa (sT [pR 0 0] [(0,.var 29 [.d (.nilSl),.d (.nilSl),jI 0,jI 0,jI 0,.d (.nilSl),.d (.nilSl),jI 0,jI 0])] 1 0) ?_
 refine AW.srwK (fun Q_1 hQ_1=>?_)
 obtain ⟨⟨r0_Hair_Hanks,r0_Hair_Horses,r0_Hair_Dark,r0_Hair_Near,r0_Hair_Match,r0_Needs,r0_Stock,r0_Pack,r0_Bad⟩,hx_2,h⟩:=bsome h
 refine RW.one fokW (r_callS (zr:=[]) [] trivial rfl (k55 _ hx_2) trivial rfl rfl trivial rfl rfl rfl (r_end ?_))
 refine Au 2 (sT [pR 0 0,pR 1 9] [(9,.var 29 [.own 3 (List.map e107 r0_Hair_Hanks).length,.own 4 (List.map e112 r0_Hair_Horses).length,jI r0_Hair_Dark,jI r0_Hair_Near,jI r0_Hair_Match,.own 7 (List.map e30 r0_Needs).length,.own 8 (List.map e37 r0_Stock).length,jI r0_Pack,jI r0_Bad]),(3,.row 107 4 (List.map e107 r0_Hair_Hanks)),(4,.row 112 3 (List.map e112 r0_Hair_Horses)),(7,.row 30 1 (List.map e30 r0_Needs)),(8,.row 37 2 (List.map e37 r0_Stock)),(0,.var 29 [.d (.nilSl),.d (.nilSl),jI 0,jI 0,jI 0,.d (.nilSl),.d (.nilSl),jI 0,jI 0])] 10 0) ?_
 refine RW.nil (hQ_1 _ ?_)
 refine AW.sdrwK fokW (fun Q_3 hQ_3=>?_)
 refine aX 2 (sT [pR 0 0,pR 1 9,(4,.own 8 (List.map e37 r0_Stock).length)] [(9,.var 29 [.own 3 (List.map e107 r0_Hair_Hanks).length,.own 4 (List.map e112 r0_Hair_Horses).length,jI r0_Hair_Dark,jI r0_Hair_Near,jI r0_Hair_Match,.own 7 (List.map e30 r0_Needs).length,.own 8 (List.map e37 r0_Stock).length,jI r0_Pack,jI r0_Bad]),(3,.row 107 4 (List.map e107 r0_Hair_Hanks)),(4,.row 112 3 (List.map e112 r0_Hair_Horses)),(7,.row 30 1 (List.map e30 r0_Needs)),(8,.row 37 2 (List.map e37 r0_Stock)),(0,.var 29 [.d (.nilSl),.d (.nilSl),jI 0,jI 0,jI 0,.d (.nilSl),.d (.nilSl),jI 0,jI 0])] 10 0) ?_
 obtain ⟨r0,hx_4,h⟩:=bsome h
 refine r_call trivial rfl (k46 3 4 _ hx_4) rfl rfl ?_
 obtain ⟨p,hv_5,h⟩:=bsome h
 refine r_iaO trivial rfl rfl rfl (ixL_ok hv_5).1 (ix_lt (ixL_ok hv_5).2) rfl ?_
 refine r_stE trivial rfl rfl rfl rfl (mapget (f:=e37) (ixL_ok hv_5).2) rfl rfl rfl (Nat.le_of_ble_eq_true rfl) (stz (f:=e37) (x:=r0) rfl) ?_
 rw [lenset (f:=e37) (xs:=r0_Stock) (i:=1) (x:=r0)]
 refine Fi (sT [pR 0 0,pR 1 9] [(8,.row 37 2 (List.map e37 (setL r0_Stock 1 r0))),(9,.var 29 [.own 3 (List.map e107 r0_Hair_Hanks).length,.own 4 (List.map e112 r0_Hair_Horses).length,jI r0_Hair_Dark,jI r0_Hair_Near,jI r0_Hair_Match,.own 7 (List.map e30 r0_Needs).length,.own 8 (List.map e37 (setL r0_Stock 1 r0)).length,jI r0_Pack,jI r0_Bad]),(3,.row 107 4 (List.map e107 r0_Hair_Hanks)),(4,.row 112 3 (List.map e112 r0_Hair_Horses)),(7,.row 30 1 (List.map e30 r0_Needs)),(0,.var 29 [.d (.nilSl),.d (.nilSl),jI 0,jI 0,jI 0,.d (.nilSl),.d (.nilSl),jI 0,jI 0])] 10 0) ?_
 refine hQ_3 _ ?_
 refine Sa (sT [pR 0 0] [(0,.var 29 [.own 3 (List.map e107 r0_Hair_Hanks).length,.own 4 (List.map e112 r0_Hair_Horses).length,jI r0_Hair_Dark,jI r0_Hair_Near,jI r0_Hair_Match,.own 7 (List.map e30 r0_Needs).length,.own 8 (List.map e37 (setL r0_Stock 1 r0)).length,jI r0_Pack,jI r0_Bad]),(8,.row 37 2 (List.map e37 (setL r0_Stock 1 r0))),(3,.row 107 4 (List.map e107 r0_Hair_Hanks)),(4,.row 112 3 (List.map e112 r0_Hair_Horses)),(7,.row 30 1 (List.map e30 r0_Needs))] 10 0) ?_
 obtain rfl:=Option.some.inj h
 exact AW.ret (hR_0 _ (retX (.cons (.agg rfl rfl (Nat.le_of_ble_eq_true rfl)) .nil) (Frz.agg_of ⟨(.own rfl rfl),(.own rfl rfl),.refl _,.refl _,.refl _,(.own rfl rfl),(.own rfl rfl),.refl _,.refl _,trivial⟩) rfl (by kernel_rfl) (by kernel_rfl)))
def g20 (x:HarnessBook):Option ((List Int)×Int):=(g59 x true).bind fun r_13=>match r_13 with | .next (r0_K3,r0_bald3,r1_1)=>(must (decide (r1_1≠0))).bind fun _=>some ([],r1_1) | .brk (r0_K4,r0_bald4,mf1,r1_2)=>bif (decide (r1_2≠0)) then (some ([],r1_2)) else ((g61 r0_K4 r0_bald4 mf1).bind fun r0=>(g60 r0_K4 r0_bald4 mf1 r0).bind fun (surely,perhaps)=>(g62 r0_K4 r0_bald4 mf1 perhaps).bind fun r0_1=>some (r0_1,0))
theorem k20 (x:HarnessBook) (r:(List Int)×Int) (h:g20 x=some r):SCall Tryd.prog Gs 20 [.agg (cv29 x)] [] 0 Fr.emp (match r with | (r0_4,r1_4)=>.tup [.d (q1 r0_4),jI r1_4]) [] 0 Fr.emp:=by
 unfold g20 at h
 refine SCall.mkK Tryd.func20 c20 rfl rfl (by kernel_rfl) (fun Q_0 hR_0 hN_0=>?_)
 refine Sa (sT [pR 1 0] [(0,.var 29 (cv29 x))] 1 0) ?_
 refine AW.srwK (fun Q_1 hQ_1=>?_)
 refine Au 1 (sT [(9,.agg (cv29 x))] [] 1 0) ?_
 obtain ⟨r_13,hx_2,h⟩:=bsome h
 rcases r_13 with (⟨r0_K3,r0_bald3,r1_1⟩ | (⟨r0_K4,r0_bald4,mf1,r1_2⟩))
 ·refine rC (k59 x true _ hx_2) ?_
  obtain ⟨_,hv_3,h⟩:=bsome h
  have hf_4:=must_ok hv_3
  refine Au 6 (sT [pR 4 1,(5,jI r1_1)] [(1,.var 74 (catV (cv29 r0_K3) [.d (q1 r0_bald3),.d (.nilMap)]))] 2 0) ?_
  refine RW.nil (hQ_1 _ ?_)
  refine AW.seqK (fun K_5 hK_5=>?_)
  refine Sa (sT [pR 4 1,(5,jI r1_1),(14,.d (.bool (decide (r1_1≠0))))] [(1,.var 74 (catV (cv29 r0_K3) [.d (q1 r0_bald3),.d (.nilMap)]))] 2 0) ?_
  refine AW.cond rfl (fun hb_6=>?_) (fun hb_6=>False.elim (by rw [hf_4] at hb_6;cases hb_6))
  refine Sa (sT [(2,.d (.nilSl)),(3,jI r1_1)] [] 2 0) ?_
  obtain rfl:=Option.some.inj h
  exact AW.ret (hR_0 _ (retX (.cons (.tmp rfl) (.cons (.tmp rfl) .nil)) (Frz.tup_of ⟨.nil 1,.refl _,trivial⟩) rfl (by kernel_rfl) (by kernel_rfl)))
 ·refine rC (k59 x true _ hx_2) ?_
  refine Au 6 (sT [pR 4 1,(5,jI r1_2)] [(1,.var 74 (kbm r0_K4 r0_bald4 mf1))] 2 0) ?_
  refine RW.nil (hQ_1 _ ?_)
  refine AW.seqK (fun K_7 hK_7=>?_)
  refine Sa (sT [pR 4 1,(5,jI r1_2),(14,.d (.bool (decide (r1_2≠0))))] [(1,.var 74 (kbm r0_K4 r0_bald4 mf1))] 2 0) ?_
  refine AW.cond rfl (fun hb_8=>?_) (fun hb_8=>?_)
  ·have h:=ifT hb_8 h
   refine Sa (sT [(2,.d (.nilSl)),(3,jI r1_2)] [] 2 0) ?_
   obtain rfl:=Option.some.inj h
   exact AW.ret (hR_0 _ (retX (.cons (.tmp rfl) (.cons (.tmp rfl) .nil)) (Frz.tup_of ⟨.nil 1,.refl _,trivial⟩) rfl (by kernel_rfl) (by kernel_rfl)))
  ·have h:=ifF hb_8 h
   refine AW.skip (hK_7 _ ?_)
   refine AW.sdrwK fokW (fun Q_9 hQ_9=>?_)
   refine aX 2 (sT [pR 4 1,(17,.agg (kbm r0_K4 r0_bald4 mf1)),(18,.agg (kbm r0_K4 r0_bald4 mf1))] [(1,.var 74 (kbm r0_K4 r0_bald4 mf1))] 2 0) ?_
   obtain ⟨r0,hx_10,h⟩:=bsome h
   refine r_call trivial rfl (k61 r0_K4 r0_bald4 mf1 _ hx_10) rfl rfl ?_
   obtain ⟨⟨surely,perhaps⟩,hx_11,h⟩:=bsome h
   refine r_call trivial rfl (k60 r0_K4 r0_bald4 mf1 r0 _ hx_11) rfl rfl ?_
   refine aX 5 (sT [pR 4 1,(7,jI perhaps)] [(1,.var 74 (kbm r0_K4 r0_bald4 mf1))] 2 0) ?_
   refine Fi (sT [pR 4 1,(7,jI perhaps)] [(1,.var 74 (kbm r0_K4 r0_bald4 mf1))] 2 0) ?_
   refine hQ_9 _ ?_
   refine AW.srwK (fun Q_12 hQ_12=>?_)
   refine Au 2 (sT [(23,.agg (kbm r0_K4 r0_bald4 mf1)),(24,jI perhaps)] [] 2 0) ?_
   obtain ⟨r0_1,hx_13,h⟩:=bsome h
   refine rC (k62 r0_K4 r0_bald4 mf1 perhaps _ hx_13) ?_
   refine Au 2 (sT [(2,.d (q1 r0_1)),(3,jI 0)] [] 2 0) ?_
   refine RW.nil (hQ_12 _ ?_)
   obtain rfl:=Option.some.inj h
   exact rT hR_0 (.cons (.tmp rfl) (.cons (.tmp rfl) .nil))
def g22_r13 (r0_K4:HarnessBook) (r0_bald4:(List Int)) (mf1:List (Harness_want×Int)):((Nat→Int))→(Int×Int)→Option (Ctl (Int×Int) (Unit)):=fun a (Low,High)=>(g61 r0_K4 r0_bald4 mf1).bind fun r0=>(g73 r0_K4 r0_bald4 mf1 a r0).bind fun r0_2=>(g62 r0_K4 r0_bald4 mf1 r0_2).bind fun r0_1=>some (.next ((min Low (r0_1.length:Int)),(max High (r0_1.length:Int))))
def g22 (x:HarnessBook):Option (Span×Int):=(g59 x true).bind fun r_17=>match r_17 with | .next (r0_K3,r0_bald3,r1_1)=>(must (decide (r1_1≠0))).bind fun _=>some ((Span.mk 0 0),r1_1) | .brk (r0_K4,r0_bald4,mf1,r1_2)=>bif (decide (r1_2≠0)) then (some ((Span.mk 0 0),r1_2)) else ((g72 r0_K4 r0_bald4 mf1).bind fun (o0_K,o0_bald,mf1_1)=>(g99 (fun a s=>rndC (g22_r13 r0_K4 r0_bald4 mf1) a s) o0_K o0_bald mf1_1 (.next ((x.Needs.length:Int),0))).bind fun out_13=>match out_13 with | .next (Low,High)=>some ((Span.mk Low High),0) | .brk _=>none)
theorem k22 (x:HarnessBook) (r:Span×Int) (h:g22 x=some r):SCall Tryd.prog Gs 22 [.agg (cv29 x)] [] 0 Fr.emp (match r with | (r0_5,r1_4)=>.tup [.agg [jI r0_5.Low,jI r0_5.High],jI r1_4]) [] 0 Fr.emp:=by
 unfold g22 at h
 refine SCall.mkK Tryd.func22 c22 rfl rfl (by kernel_rfl) (fun Q_0 hR_0 hN_0=>?_)
 refine Sa (sT [pR 1 0,pR 2 1] [(1,.var 37 [jI 0,jI 0]),(0,.var 29 (cv29 x))] 2 0) ?_
 refine AW.srwK (fun Q_1 hQ_1=>?_)
 refine Au 1 (sT [pR 1 0,pR 2 1,(10,.agg (cv29 x))] [(1,.var 37 [jI 0,jI 0]),(0,.var 29 (cv29 x))] 2 0) ?_
 obtain ⟨r_17,hx_2,h⟩:=bsome h
 rcases r_17 with (⟨r0_K3,r0_bald3,r1_1⟩ | (⟨r0_K4,r0_bald4,mf1,r1_2⟩))
 ·refine rC (k59 x true _ hx_2) ?_
  obtain ⟨_,hv_3,h⟩:=bsome h
  have hf_4:=must_ok hv_3
  refine Au 6 (sT [pR 1 0,pR 2 1,pR 4 2,(5,jI r1_1)] [(2,.var 74 (catV (cv29 r0_K3) [.d (q1 r0_bald3),.d (.nilMap)])),(1,.var 37 [jI 0,jI 0]),(0,.var 29 (cv29 x))] 3 0) ?_
  refine RW.nil (hQ_1 _ ?_)
  refine AW.seqK (fun K_5 hK_5=>?_)
  refine Sa (sT [pR 1 0,pR 2 1,pR 4 2,(5,jI r1_1),(15,.d (.bool (decide (r1_1≠0))))] [(2,.var 74 (catV (cv29 r0_K3) [.d (q1 r0_bald3),.d (.nilMap)])),(1,.var 37 [jI 0,jI 0]),(0,.var 29 (cv29 x))] 3 0) ?_
  refine AW.cond rfl (fun hb_6=>?_) (fun hb_6=>False.elim (by rw [hf_4] at hb_6;cases hb_6))
  refine Sa (sT [pR 2 1,(3,jI r1_1)] [(1,.var 37 [jI 0,jI 0])] 3 0) ?_
  obtain rfl:=Option.some.inj h
  exact rT hR_0 (.cons (.agg rfl rfl (Nat.le_of_ble_eq_true rfl)) (.cons (.tmp rfl) .nil))
 ·refine rC (k59 x true _ hx_2) ?_
  refine Au 6 (sT [pR 1 0,pR 2 1,pR 4 2,(5,jI r1_2)] [(2,.var 74 (kbm r0_K4 r0_bald4 mf1)),(1,.var 37 [jI 0,jI 0]),(0,.var 29 (cv29 x))] 3 0) ?_
  refine RW.nil (hQ_1 _ ?_)
  refine AW.seqK (fun K_7 hK_7=>?_)
  refine Sa (sT [pR 1 0,pR 2 1,pR 4 2,(5,jI r1_2),(15,.d (.bool (decide (r1_2≠0))))] [(2,.var 74 (kbm r0_K4 r0_bald4 mf1)),(1,.var 37 [jI 0,jI 0]),(0,.var 29 (cv29 x))] 3 0) ?_
  refine AW.cond rfl (fun hb_8=>?_) (fun hb_8=>?_)
  ·have h:=ifT hb_8 h
   refine Sa (sT [pR 2 1,(3,jI r1_2)] [(1,.var 37 [jI 0,jI 0])] 3 0) ?_
   obtain rfl:=Option.some.inj h
   exact rT hR_0 (.cons (.agg rfl rfl (Nat.le_of_ble_eq_true rfl)) (.cons (.tmp rfl) .nil))
  ·have h:=ifF hb_8 h
   refine AW.skip (hK_7 _ ?_)
   refine AW.srwK (fun Q_9 hQ_9=>?_)
   refine Au 2 (sT [pR 2 1,pR 4 2,(19,.d (.sl 1 (List.map e30 x.Needs)))] [(2,.var 74 (kbm r0_K4 r0_bald4 mf1)),(1,.var 37 [jI 0,jI 0])] 3 0) ?_
   refine rL rfl ?_
   refine Au 3 (sT [pR 2 1,pR 4 2,pR 6 3] [(3,.var 37 [jI (x.Needs.length:Int),jI 0]),(2,.var 74 (kbm r0_K4 r0_bald4 mf1)),(1,.var 37 [jI 0,jI 0])] 4 0) ?_
   refine RW.nil (hQ_9 _ ?_)
   refine AW.seqK fun K_10 hK_10=>AW.srwK fun Q_11 hQ_11=>?_
   refine Au 1 (sT [pR 2 1,pR 4 2,pR 6 3,(22,.agg (kbm r0_K4 r0_bald4 mf1))] [(3,.var 37 [jI (x.Needs.length:Int),jI 0]),(2,.var 74 (kbm r0_K4 r0_bald4 mf1)),(1,.var 37 [jI 0,jI 0])] 4 0) ?_
   obtain ⟨⟨o0_K,o0_bald,mf1_1⟩,hx_12,h⟩:=bsome h
   refine RW.one fokW (r_callS (zr:=[]) [] trivial rfl (k72 r0_K4 r0_bald4 mf1 _ hx_12) trivial rfl rfl ⟨.refl _,trivial⟩ rfl rfl rfl (r_end ?_))
   refine RW.nil (hQ_11 _ ?_)
   refine AW.block ?_
   obtain ⟨out_13,hx_13,h⟩:=bsome h
   refine AW.rfX (fun (⟨Low,High⟩:Int×Int)=>[(5,.dm),(3,.var 37 [jI Low,jI High]),(2,.var 74 (kbm r0_K4 r0_bald4 mf1)),(1,.var 37 [jI 0,jI 0])]) (fun (_:Unit)=>[]) (fun _=>some .ret) (g22_r13 r0_K4 r0_bald4 mf1) (fun (a:(Nat→Int))=>[.agg (ctv a)]) (s0:=((x.Needs.length:Int),0)) (out:=out_13) [pR 2 1,pR 4 2,pR 6 3] [(3,.var 37 [jI (x.Needs.length:Int),jI 0]),(2,.var 74 (kbm r0_K4 r0_bald4 mf1)),(1,.var 37 [jI 0,jI 0])] [4] rfl (.clo _ _ _) (by kernel_rfl) (by kernel_rfl) (fun fr_ hY_13=>k99 fr_ _ (fun a s s2 b h=>hY_13 a s s2 b h) o0_K o0_bald mf1_1 (.next ((x.Needs.length:Int),0)) _ hx_13) (by kernel_rfl) ⟨rfl,trivial⟩ rfl ⟨rfl,rfl⟩ rfl rfl (fun _=>rfl) (fun _=>rfl) (fun a_13 s_13 c_13 h l_13=>?_) (fun _=>rfl) ?_
   ·have ⟨a,e_13⟩:∃ x,x=a_13:=⟨_,rfl⟩
    subst e_13
    obtain ⟨Low,High⟩:=s_13
    unfold g22_r13 at h
    refine AW.ra (fokR l_13) [] (sT [pR 4 2,pR 6 3,pR 7 6] [(6,.var 87 (ctv a)),(5,.dm),(3,.var 37 [jI Low,jI High]),(2,.var 74 (kbm r0_K4 r0_bald4 mf1)),(1,.var 37 [jI 0,jI 0])] 7 6) (by kernel_rfl) ?_
    refine AW.block ?_
    refine AW.sdrwK (fokR l_13) (fun Q_14 hQ_14=>?_)
    refine aX 4 (sT [pR 6 3,(25,.agg (kbm r0_K4 r0_bald4 mf1)),(26,.agg (kbm r0_K4 r0_bald4 mf1)),(27,.agg (ctv a)),(28,.agg (kbm r0_K4 r0_bald4 mf1))] [(6,.var 87 (ctv a)),(5,.dm),(3,.var 37 [jI Low,jI High]),(2,.var 74 (kbm r0_K4 r0_bald4 mf1)),(1,.var 37 [jI 0,jI 0])] 7 6) ?_
    obtain ⟨r0,hx_15,h⟩:=bsome h
    refine r_call trivial rfl (k61 r0_K4 r0_bald4 mf1 _ hx_15) rfl rfl ?_
    obtain ⟨r0_2,hx_16,h⟩:=bsome h
    refine r_call trivial rfl (k73 r0_K4 r0_bald4 mf1 a r0 _ hx_16) rfl rfl ?_
    obtain ⟨r0_1,hx_17,h⟩:=bsome h
    refine r_call trivial rfl (k62 r0_K4 r0_bald4 mf1 r0_2 _ hx_17) rfl rfl ?_
    refine r_lenX trivial rfl lenm ?_
    refine aX 1 (sT [pR 6 3,(8,jI (r0_1.length:Int))] [(6,.var 87 (ctv a)),(5,.dm),(3,.var 37 [jI Low,jI High]),(2,.var 74 (kbm r0_K4 r0_bald4 mf1)),(1,.var 37 [jI 0,jI 0])] 7 6) ?_
    refine Fi (sT [pR 6 3,(8,jI (r0_1.length:Int))] [(5,.dm),(3,.var 37 [jI Low,jI High]),(2,.var 74 (kbm r0_K4 r0_bald4 mf1)),(1,.var 37 [jI 0,jI 0])] 7 6) ?_
    refine hQ_14 _ ?_
    refine AW.ra (fokR l_13) [] (sT [] [(3,.var 37 [jI (min Low (r0_1.length:Int)),jI (max High (r0_1.length:Int))]),(5,.dm),(2,.var 74 (kbm r0_K4 r0_bald4 mf1)),(1,.var 37 [jI 0,jI 0])] 7 6) (by kernel_rfl) ?_
    obtain rfl:=Option.some.inj h
    exact ⟨(sT [] [(5,.dm),(3,.var 37 [jI (min Low (r0_1.length:Int)),jI (max High (r0_1.length:Int))]),(2,.var 74 (kbm r0_K4 r0_bald4 mf1)),(1,.var 37 [jI 0,jI 0])] 6 6),Can.kp (by kernel_rfl),rdX trivial rfl (by kernel_rfl) (by kernel_rfl)⟩
   ·rcases out_13 with ⟨Low,High⟩ | _
    ·refine hK_10 _ ?_
     refine Sa ⟨[pR 2 1,(3,jI 0)],[(1,.var 37 [jI Low,jI High]),(5,.dm)],6,Fr.emp,[5],0⟩ ?_
     obtain rfl:=Option.some.inj h
     exact rT hR_0 (.cons (.agg rfl rfl (Nat.le_of_ble_eq_true rfl)) (.cons (.tmp rfl) .nil))
    ·cases h
def g76 (x:HarnessBook) (n:Int):Option Bool:=(g68 n 0 (wr ((x.Stock.length:Int) - 1))).bind fun r0=>some r0
theorem k76 (x:HarnessBook) (n:Int) (r:Bool) (h:g76 x n=some r):SCall Tryd.prog Gs 76 [.agg (cv29 x),jI n] [] 0 Fr.emp (.d (.bool r)) [] 0 Fr.emp:=by
 unfold g76 at h
 refine SCall.mkK Tryd.func76 c76 rfl rfl (by kernel_rfl) (fun Q_0 hR_0 hN_0=>?_)
 refine Sa (sT [(1,jI n),pR 2 0] [(0,.var 29 (cv29 x))] 1 0) ?_
 refine AW.srwK (fun Q_1 hQ_1=>?_)
 refine Au 3 (sT [(5,jI n),(7,.d (.sl 2 (List.map e37 x.Stock)))] [] 1 0) ?_
 refine rL rfl ?_
 refine Au 1 (sT [(5,jI n),(9,jI (wr ((x.Stock.length:Int) - 1)))] [] 1 0) ?_
 obtain ⟨r0,hx_2,h⟩:=bsome h
 refine rC (k68 n 0 (wr ((x.Stock.length:Int) - 1)) _ hx_2) ?_
 refine Au 1 (sT [(4,.d (.bool r0))] [] 1 0) ?_
 refine RW.nil (hQ_1 _ ?_)
 obtain rfl:=Option.some.inj h
 exact rT hR_0 (.cons (.tmp rfl) .nil)
def g78 :Option Unit:=some ()
theorem k78  (r:Unit) (h:g78=some r):SCall Tryd.prog Gs 78 [] [] 0 Fr.emp (.agg [.d (.fn 106)]) [] 0 Fr.emp:=by
 unfold g78 at h
 refine SCall.mkK Tryd.func78 c78 rfl rfl (by kernel_rfl) (fun Q_0 hR_0 hN_0=>?_)
 refine Sa (sT [pR 0 0] [(0,.var 94 [.d (.nilFn)])] 1 0) ?_
 refine Sa (sT [pR 0 0] [(0,.var 94 [.d (.fn 106)])] 1 0) ?_
 obtain rfl:=Option.some.inj h
 exact rT hR_0 (.cons (.agg rfl rfl (Nat.le_of_ble_eq_true rfl)) .nil)
def g117_3:Int→Int→Int→Option Int:=fun v p all=>some (wr (all+p))
def g117 (l:(List Int)):Option Int:=(eachS g117_3 l 0 0).bind fun all=>some all
theorem k117 (l:(List Int)) (r:Int) (h:g117 l=some r):SCall Tryd.prog Gs 117 [.d (q1 l)] [] 0 Fr.emp (jI r) [] 0 Fr.emp:=by
 unfold g117 at h
 refine SCall.mkK Tryd.func117 c117 rfl rfl (by kernel_rfl) (fun Q_0 hR_0 hN_0=>?_)
 refine Sa (sT [(0,.d (q1 l))] [] 0 0) ?_
 refine Sa (sT [(0,.d (q1 l)),(3,jI 0)] [] 0 0) ?_
 refine AW.seqK fun K_1 hK_1=>AW.srwK fun Q_2 hQ_2=>?_
 refine Au 1 (sT [(3,jI 0),(6,.d (q1 l))] [] 0 0) ?_
 refine rL rfl ?_
 refine Au 1 (sT [(3,jI 0),(6,.d (q1 l)),(7,jI (l.length:Int)),(8,jI 0)] [] 0 0) ?_
 refine RW.nil (hQ_2 _ ?_)
 refine AW.block ?_
 refine AW.sln (t:=6) rfl (fun hN_3=>?_)
 rw [List.length_map] at hN_3
 obtain ⟨out_3,hx_3,h⟩:=bsome h
 refine AW.evSK (fun (v:Int) (all:Int)=>(sT [(3,jI all),(6,.d (q1 l)),(7,jI (l.length:Int)),(8,jI v)] [] 0 0)) g117_3 hx_3 (Can.kp (by kernel_rfl)) (fun v p all hi_3 hl_3 hp_3 c_3 h K_3 hK_3=>?_) (fun v all hi_3 hl_3 hout=>?_)
 ·unfold g117_3 at h
  refine Sa (sT [(3,jI all),(6,.d (q1 l)),(7,jI (l.length:Int)),(8,jI v),(9,.d (.bool (decide (v<(l.length:Int)))))] [] 0 0) ?_
  refine AW.seqK (fun K_4 hK_4=>?_)
  refine AW.cond rfl (fun hb_5=>?_) (fun hb_5=>False.elim (by have:=of_decide_eq_false hb_5;omega))
  refine AW.skip (hK_4 _ ?_)
  refine AW.seqK (fun K_6 hK_6=>?_)
  refine AW.block ?_
  refine AW.srwK (fun Q_7 hQ_7=>?_)
  refine RW.one fokW (r_iaD trivial rfl rfl hi_3 (row:=e3 p) (mapget hp_3) (r_end ?_))
  refine Au 2 (sT [(3,jI all),(5,jI p),(6,.d (q1 l)),(7,jI (l.length:Int)),(8,jI v)] [] 0 0) ?_
  refine RW.nil (hQ_7 _ ?_)
  refine Ra (sT [(3,jI (wr (all+p))),(6,.d (q1 l)),(7,jI (l.length:Int)),(8,jI v)] [] 0 0) ?_
  refine hK_6 _ ?_
  refine Ra (sT [(3,jI (wr (all+p))),(6,.d (q1 l)),(7,jI (l.length:Int)),(8,jI (wr (v+1)))] [] 0 0) ?_
  obtain rfl:=Option.some.inj h
  have ew:wr (v+1)=v+1:=inext (N:=(l.length:Int)) (by omega) (by omega) (by omega)
  rw [ew]
  exact hK_3 _ (Can.kp (by kernel_rfl))
 ·subst hout
  refine Sa (sT [(3,jI all),(6,.d (q1 l)),(7,jI (l.length:Int)),(8,jI v),(9,.d (.bool (decide (v<(l.length:Int)))))] [] 0 0) ?_
  refine AW.seqK (fun K_8 hK_8=>?_)
  refine AW.cond rfl (fun hb_9=>False.elim (by have:=of_decide_eq_true hb_9;omega)) (fun hb_9=>?_)
  refine AW.exit ?_
  refine hK_1 _ ?_
  refine Sa (sT [(2,jI all)] [] 0 0) ?_
  obtain rfl:=Option.some.inj h
  exact rT hR_0 (.cons (.tmp rfl) .nil)
def g105_3 (b_K:HarnessBook) (b_bald:(List Int)) (mf:List (Harness_want×Int)) (kind:Int):Int→(List Int)→(List Int)→Option (List Int):=fun v p l=>(g102 b_K b_bald mf v).bind fun r0_1=>bif r0_1 then ((g103 b_K b_bald mf v).bind fun r0_1_1=>(ixN 3 kind).bind fun j=>(appL 8 l [(r0_1_1 j)]).bind fun l1=>some l1) else (some l)
def g105 (b_K:HarnessBook) (b_bald:(List Int)) (mf:List (Harness_want×Int)) (kind:Int):Option Int:=(eachS (g105_3 b_K b_bald mf kind) b_K.Needs 0 ([]:List Int)).bind fun l=>(g117 l).bind fun r0=>some r0
theorem k105 (b_K:HarnessBook) (b_bald:(List Int)) (mf:List (Harness_want×Int)) (kind:Int) (r:Int) (h:g105 b_K b_bald mf kind=some r):SCall Tryd.prog Gs 105 [.agg (kbm b_K b_bald mf),jI kind] [] 0 Fr.emp (jI r) [] 0 Fr.emp:=by
 unfold g105 at h
 refine SCall.mkK Tryd.func105 c105 rfl rfl (by kernel_rfl) (fun Q_0 hR_0 hN_0=>?_)
 refine Sa (sT [(1,jI kind),pR 2 0] [(0,.var 74 (kbm b_K b_bald mf))] 1 0) ?_
 refine Sa (sT [(1,jI kind),pR 2 0,(5,.d (.nilSl))] [(0,.var 74 (kbm b_K b_bald mf))] 1 0) ?_
 refine AW.seqK fun K_1 hK_1=>AW.srwK fun Q_2 hQ_2=>?_
 refine Au 3 (sT [(1,jI kind),pR 2 0,(5,.d (.nilSl)),(9,.d (.sl 1 (List.map e30 b_K.Needs)))] [(0,.var 74 (kbm b_K b_bald mf))] 1 0) ?_
 refine rL rfl ?_
 refine Au 1 (sT [(1,jI kind),pR 2 0,(5,.d (.nilSl)),(10,jI (b_K.Needs.length:Int)),(11,jI 0)] [(0,.var 74 (kbm b_K b_bald mf))] 1 0) ?_
 refine RW.nil (hQ_2 _ ?_)
 refine AW.block ?_
 refine AW.slh (r:=0) (off:=5) rfl rfl (fun hN_3=>?_)
 rw [List.length_map] at hN_3
 obtain ⟨out_3,hx_3,h⟩:=bsome h
 refine AW.evSK (fun (v:Int) (l:List Int)=>(sT [(1,jI kind),pR 2 0,(5,.own 1 (List.map e3 l).length),(10,jI (b_K.Needs.length:Int)),(11,jI v)] [(1,.row 3 1 (List.map e3 l)),(0,.var 74 (kbm b_K b_bald mf))] 2 0)) (g105_3 b_K b_bald mf kind) hx_3 (Can.trans (Can.thawT 5 3 1 rfl rfl) (Can.kp (by kernel_rfl))) (fun v p l hi_3 hl_3 hp_3 c_3 h K_3 hK_3=>?_) (fun v l hi_3 hl_3 hout=>?_)
 ·unfold g105_3 at h
  refine Sa (sT [(1,jI kind),pR 2 0,(5,.own 1 (List.map e3 l).length),(10,jI (b_K.Needs.length:Int)),(11,jI v),(12,.d (.bool (decide (v<(b_K.Needs.length:Int)))))] [(1,.row 3 1 (List.map e3 l)),(0,.var 74 (kbm b_K b_bald mf))] 2 0) ?_
  refine AW.seqK (fun K_4 hK_4=>?_)
  refine AW.cond rfl (fun hb_5=>?_) (fun hb_5=>False.elim (by have:=of_decide_eq_false hb_5;omega))
  refine AW.skip (hK_4 _ ?_)
  refine AW.seqK (fun K_6 hK_6=>?_)
  refine AW.block ?_
  refine Sa (sT [(1,jI kind),pR 2 0,(5,.own 1 (List.map e3 l).length),(6,jI v),(10,jI (b_K.Needs.length:Int)),(11,jI v)] [(1,.row 3 1 (List.map e3 l)),(0,.var 74 (kbm b_K b_bald mf))] 2 0) ?_
  refine AW.srwK (fun Q_7 hQ_7=>?_)
  refine Au 2 (sT [(1,jI kind),pR 2 0,(5,.own 1 (List.map e3 l).length),(6,jI v),(10,jI (b_K.Needs.length:Int)),(11,jI v),(14,.agg (kbm b_K b_bald mf)),(15,jI v)] [(1,.row 3 1 (List.map e3 l)),(0,.var 74 (kbm b_K b_bald mf))] 2 0) ?_
  obtain ⟨r0_1,hx_8,h⟩:=bsome h
  refine rC (k102 b_K b_bald mf v _ hx_8) ?_
  refine RW.nil (hQ_7 _ ?_)
  refine AW.cond rfl (fun hb_9=>?_) (fun hb_9=>?_)
  ·have h:=ifT hb_9 h
   refine AW.rw ?_
   refine Au 3 (sT [(1,jI kind),pR 2 0,(10,jI (b_K.Needs.length:Int)),(11,jI v),(17,.own 1 (List.map e3 l).length),(18,.agg (kbm b_K b_bald mf)),(19,jI v)] [(1,.row 3 1 (List.map e3 l)),(0,.var 74 (kbm b_K b_bald mf))] 2 0) ?_
   obtain ⟨r0_1_1,hx_11,h⟩:=bsome h
   refine rC (k103 b_K b_bald mf v _ hx_11) ?_
   refine Au 1 (sT [(1,jI kind),pR 2 0,(10,jI (b_K.Needs.length:Int)),(11,jI v),(17,.own 1 (List.map e3 l).length),(20,.agg (ctv r0_1_1)),(21,jI kind)] [(1,.row 3 1 (List.map e3 l)),(0,.var 74 (kbm b_K b_bald mf))] 2 0) ?_
   obtain ⟨j,hv_12,h⟩:=bsome h
   refine RW.one fokW (r_idx trivial rfl rfl (ixN_ok hv_12).1 (ixN_ok hv_12).2.1 (u:=jI (r0_1_1 j)) (agt (f:=fun k=>jI (r0_1_1 k)) hv_12) (r_end ?_))
   refine Au 1 (sT [(1,jI kind),pR 2 0,(10,jI (b_K.Needs.length:Int)),(11,jI v),(17,.own 1 (List.map e3 l).length),(23,.own 2 (List.map e3 [(r0_1_1 j)]).length)] [(2,.row 3 1 (List.map e3 [(r0_1_1 j)])),(1,.row 3 1 (List.map e3 l)),(0,.var 74 (kbm b_K b_bald mf))] 3 0) ?_
   obtain ⟨l1,hv_13,h⟩:=bsome h
   refine RW.one fokW (r_apO trivial rfl rfl rfl rfl rfl rfl (apz hv_13 e3) (apr hv_13 e3) (r_end ?_))
   refine Au 1 (sT [(1,jI kind),pR 2 0,(5,.own 1 (List.map e3 l1).length),(10,jI (b_K.Needs.length:Int)),(11,jI v)] [(1,.row 3 1 (List.map e3 l1)),(0,.var 74 (kbm b_K b_bald mf))] 3 0) ?_
   refine RW.nil ?_
   refine hK_6 _ ?_
   refine Ra (sT [(1,jI kind),pR 2 0,(5,.own 1 (List.map e3 l1).length),(10,jI (b_K.Needs.length:Int)),(11,jI (wr (v+1)))] [(1,.row 3 1 (List.map e3 l1)),(0,.var 74 (kbm b_K b_bald mf))] 3 0) ?_
   obtain rfl:=Option.some.inj h
   have ew:wr (v+1)=v+1:=inext (N:=(b_K.Needs.length:Int)) (by omega) (by omega) (by omega)
   rw [ew]
   exact hK_3 _ (Can.kp (by kernel_rfl))
  ·have h:=ifF hb_9 h
   refine AW.skip (hK_6 _ ?_)
   refine Ra (sT [(1,jI kind),pR 2 0,(5,.own 1 (List.map e3 l).length),(10,jI (b_K.Needs.length:Int)),(11,jI (wr (v+1)))] [(1,.row 3 1 (List.map e3 l)),(0,.var 74 (kbm b_K b_bald mf))] 2 0) ?_
   obtain rfl:=Option.some.inj h
   have ew:wr (v+1)=v+1:=inext (N:=(b_K.Needs.length:Int)) (by omega) (by omega) (by omega)
   rw [ew]
   exact hK_3 _ (Can.kp (by kernel_rfl))
 ·subst hout
  refine Sa (sT [(1,jI kind),pR 2 0,(5,.own 1 (List.map e3 l).length),(10,jI (b_K.Needs.length:Int)),(11,jI v),(12,.d (.bool (decide (v<(b_K.Needs.length:Int)))))] [(1,.row 3 1 (List.map e3 l)),(0,.var 74 (kbm b_K b_bald mf))] 2 0) ?_
  refine AW.seqK (fun K_14 hK_14=>?_)
  refine AW.cond rfl (fun hb_15=>False.elim (by have:=of_decide_eq_true hb_15;omega)) (fun hb_15=>?_)
  refine AW.exit ?_
  refine hK_1 _ ?_
  refine AW.srwK (fun Q_16 hQ_16=>?_)
  refine Au 1 (sT [(26,.own 1 (List.map e3 l).length)] [(1,.row 3 1 (List.map e3 l))] 2 0) ?_
  obtain ⟨r0,hx_17,h⟩:=bsome h
  refine RW.one fokW (r_callF (rs:=[(1,.row 3 1 (List.map e3 l))]) trivial rfl (k117 l _ hx_17) ⟨rfl,trivial⟩ ⟨(.own rfl rfl),trivial⟩ rfl rfl rfl (r_end ?_))
  refine Au 1 (sT [(4,jI r0)] [] 2 0) ?_
  refine RW.nil (hQ_16 _ ?_)
  obtain rfl:=Option.some.inj h
  exact rT hR_0 (.cons (.tmp rfl) .nil)
def g106 (s:Span):Option Int:=some s.High
theorem k106 (s:Span) (r:Int) (h:g106 s=some r):SCall Tryd.prog Gs 106 [.agg [jI s.Low,jI s.High]] [] 0 Fr.emp (jI r) [] 0 Fr.emp:=by
 unfold g106 at h
 refine SCall.mkK Tryd.func106 c106 rfl rfl (by kernel_rfl) (fun Q_0 hR_0 hN_0=>?_)
 refine Sa (sT [pR 1 0] [(0,.var 37 [jI s.Low,jI s.High])] 1 0) ?_
 refine Sa (sT [(2,jI s.High)] [] 1 0) ?_
 obtain rfl:=Option.some.inj h
 exact rT hR_0 (.cons (.tmp rfl) .nil)
def g77 (b_K:HarnessBook) (b_bald:(List Int)) (mf:List (Harness_want×Int)) (kind:Int):Option Int:=(g105 b_K b_bald mf kind).bind fun r0_2=>(ixL b_K.Stock kind).bind fun p=>(g106 p).bind fun r0=>some (max 0 (wr (r0_2 - r0)))
theorem k77 (b_K:HarnessBook) (b_bald:(List Int)) (mf:List (Harness_want×Int)) (kind:Int) (r:Int) (h:g77 b_K b_bald mf kind=some r):SCall Tryd.prog Gs 77 [.agg (kbm b_K b_bald mf),jI kind,.agg [.d (.fn 106)]] [] 0 Fr.emp (jI r) [] 0 Fr.emp:=by
 unfold g77 at h
 refine SCall.mkK Tryd.func77 c77 rfl rfl (by kernel_rfl) (fun Q_0 hR_0 hN_0=>?_)
 refine Sa (sT [(1,jI kind),pR 3 0,pR 5 1] [(1,.var 94 [.d (.fn 106)]),(0,.var 74 (kbm b_K b_bald mf))] 2 0) ?_
 refine AW.sdrwK fokW (fun Q_1 hQ_1=>?_)
 refine aX 2 (sT [(1,jI kind),pR 3 0,pR 5 1,(7,.agg (kbm b_K b_bald mf)),(8,jI kind)] [(1,.var 94 [.d (.fn 106)]),(0,.var 74 (kbm b_K b_bald mf))] 2 0) ?_
 obtain ⟨r0_2,hx_2,h⟩:=bsome h
 refine r_call trivial rfl (k105 b_K b_bald mf kind _ hx_2) rfl rfl ?_
 refine aX 6 (sT [(9,jI r0_2),(11,.d (.fn 106)),(14,.d (.sl 2 (List.map e37 b_K.Stock))),(15,jI kind)] [(1,.var 94 [.d (.fn 106)]),(0,.var 74 (kbm b_K b_bald mf))] 2 0) ?_
 obtain ⟨p,hv_3,h⟩:=bsome h
 refine r_iaD trivial rfl rfl (ixL_ok hv_3).1 (row:=e37 p) (mapget (ixL_ok hv_3).2) ?_
 refine aX 1 (sT [(9,jI r0_2),(11,.d (.fn 106)),(17,.agg [jI p.Low,jI p.High])] [(1,.var 94 [.d (.fn 106)]),(0,.var 74 (kbm b_K b_bald mf))] 2 0) ?_
 obtain ⟨r0,hx_4,h⟩:=bsome h
 refine r_callvZ (zr:=[]) trivial rfl (.fn _) (by kernel_rfl) rfl (k106 p _ hx_4) trivial ⟨.refl _,trivial⟩ rfl rfl rfl rfl ?_
 refine aX 3 (sT [(6,jI (max 0 (wr (r0_2 - r0))))] [(1,.var 94 [.d (.fn 106)]),(0,.var 74 (kbm b_K b_bald mf))] 2 0) ?_
 refine Fi (sT [(6,jI (max 0 (wr (r0_2 - r0))))] [] 2 0) ?_
 refine hQ_1 _ ?_
 obtain rfl:=Option.some.inj h
 exact rT hR_0 (.cons (.tmp rfl) .nil)
def g79 :Option Unit:=some ()
theorem k79  (r:Unit) (h:g79=some r):SCall Tryd.prog Gs 79 [] [] 0 Fr.emp (.agg [.d (.fn 107)]) [] 0 Fr.emp:=by
 unfold g79 at h
 refine SCall.mkK Tryd.func79 c79 rfl rfl (by kernel_rfl) (fun Q_0 hR_0 hN_0=>?_)
 refine Sa (sT [pR 0 0] [(0,.var 94 [.d (.nilFn)])] 1 0) ?_
 refine Sa (sT [pR 0 0] [(0,.var 94 [.d (.fn 107)])] 1 0) ?_
 obtain rfl:=Option.some.inj h
 exact rT hR_0 (.cons (.agg rfl rfl (Nat.le_of_ble_eq_true rfl)) .nil)
def g107 (s:Span):Option Int:=some s.Low
theorem k107 (s:Span) (r:Int) (h:g107 s=some r):SCall Tryd.prog Gs 107 [.agg [jI s.Low,jI s.High]] [] 0 Fr.emp (jI r) [] 0 Fr.emp:=by
 unfold g107 at h
 refine SCall.mkK Tryd.func107 c107 rfl rfl (by kernel_rfl) (fun Q_0 hR_0 hN_0=>?_)
 refine Sa (sT [pR 1 0] [(0,.var 37 [jI s.Low,jI s.High])] 1 0) ?_
 refine Sa (sT [(2,jI s.Low)] [] 1 0) ?_
 obtain rfl:=Option.some.inj h
 exact rT hR_0 (.cons (.tmp rfl) .nil)
def g77a (b_K:HarnessBook) (b_bald:(List Int)) (mf:List (Harness_want×Int)) (kind:Int):Option Int:=(g105 b_K b_bald mf kind).bind fun r0_2=>(ixL b_K.Stock kind).bind fun p=>(g107 p).bind fun r0=>some (max 0 (wr (r0_2 - r0)))
theorem k77a (b_K:HarnessBook) (b_bald:(List Int)) (mf:List (Harness_want×Int)) (kind:Int) (r:Int) (h:g77a b_K b_bald mf kind=some r):SCall Tryd.prog Gs 77 [.agg (kbm b_K b_bald mf),jI kind,.agg [.d (.fn 107)]] [] 0 Fr.emp (jI r) [] 0 Fr.emp:=by
 unfold g77a at h
 refine SCall.mkK Tryd.func77 c77 rfl rfl (by kernel_rfl) (fun Q_0 hR_0 hN_0=>?_)
 refine Sa (sT [(1,jI kind),pR 3 0,pR 5 1] [(1,.var 94 [.d (.fn 107)]),(0,.var 74 (kbm b_K b_bald mf))] 2 0) ?_
 refine AW.sdrwK fokW (fun Q_1 hQ_1=>?_)
 refine aX 2 (sT [(1,jI kind),pR 3 0,pR 5 1,(7,.agg (kbm b_K b_bald mf)),(8,jI kind)] [(1,.var 94 [.d (.fn 107)]),(0,.var 74 (kbm b_K b_bald mf))] 2 0) ?_
 obtain ⟨r0_2,hx_2,h⟩:=bsome h
 refine r_call trivial rfl (k105 b_K b_bald mf kind _ hx_2) rfl rfl ?_
 refine aX 6 (sT [(9,jI r0_2),(11,.d (.fn 107)),(14,.d (.sl 2 (List.map e37 b_K.Stock))),(15,jI kind)] [(1,.var 94 [.d (.fn 107)]),(0,.var 74 (kbm b_K b_bald mf))] 2 0) ?_
 obtain ⟨p,hv_3,h⟩:=bsome h
 refine r_iaD trivial rfl rfl (ixL_ok hv_3).1 (row:=e37 p) (mapget (ixL_ok hv_3).2) ?_
 refine aX 1 (sT [(9,jI r0_2),(11,.d (.fn 107)),(17,.agg [jI p.Low,jI p.High])] [(1,.var 94 [.d (.fn 107)]),(0,.var 74 (kbm b_K b_bald mf))] 2 0) ?_
 obtain ⟨r0,hx_4,h⟩:=bsome h
 refine r_callvZ (zr:=[]) trivial rfl (.fn _) (by kernel_rfl) rfl (k107 p _ hx_4) trivial ⟨.refl _,trivial⟩ rfl rfl rfl rfl ?_
 refine aX 3 (sT [(6,jI (max 0 (wr (r0_2 - r0))))] [(1,.var 94 [.d (.fn 107)]),(0,.var 74 (kbm b_K b_bald mf))] 2 0) ?_
 refine Fi (sT [(6,jI (max 0 (wr (r0_2 - r0))))] [] 2 0) ?_
 refine hQ_1 _ ?_
 obtain rfl:=Option.some.inj h
 exact rT hR_0 (.cons (.tmp rfl) .nil)
def g25 (x:HarnessBook) (kind:Int):Option (Span×Int):=(g76 x kind).bind fun r0_1=>(g59 x r0_1).bind fun r_14=>match r_14 with | .next (r0_K3,r0_bald3,r1_1)=>(must (decide (r1_1≠0))).bind fun _=>some ((Span.mk 0 0),r1_1) | .brk (r0_K4,r0_bald4,mf1,r1_2)=>bif (decide (r1_2≠0)) then (some ((Span.mk 0 0),r1_2)) else ((g78).bind fun _=>(g77 r0_K4 r0_bald4 mf1 kind).bind fun r0_1_1=>(g79).bind fun _=>(g77a r0_K4 r0_bald4 mf1 kind).bind fun r0_1_2=>some ((Span.mk r0_1_1 r0_1_2),0))
theorem k25 (x:HarnessBook) (kind:Int) (r:Span×Int) (h:g25 x kind=some r):SCall Tryd.prog Gs 25 [.agg (cv29 x),jI kind] [] 0 Fr.emp (match r with | (r0_3,r1_4)=>.tup [.agg [jI r0_3.Low,jI r0_3.High],jI r1_4]) [] 0 Fr.emp:=by
 unfold g25 at h
 refine SCall.mkK Tryd.func25 c25 rfl rfl (by kernel_rfl) (fun Q_0 hR_0 hN_0=>?_)
 refine Sa (sT [(1,jI kind),pR 2 0,pR 4 1] [(1,.var 37 [jI 0,jI 0]),(0,.var 29 (cv29 x))] 2 0) ?_
 refine AW.sdrwK fokW (fun Q_1 hQ_1=>?_)
 refine aX 3 (sT [(1,jI kind),pR 4 1,(9,.agg (cv29 x)),(10,.agg (cv29 x)),(11,jI kind)] [(1,.var 37 [jI 0,jI 0]),(0,.var 29 (cv29 x))] 2 0) ?_
 obtain ⟨r0_1,hx_2,h⟩:=bsome h
 refine r_call trivial rfl (k76 x kind _ hx_2) rfl rfl ?_
 obtain ⟨r_14,hx_3,h⟩:=bsome h
 rcases r_14 with (⟨r0_K3,r0_bald3,r1_1⟩ | (⟨r0_K4,r0_bald4,mf1,r1_2⟩))
 ·refine r_call trivial rfl (k59 x r0_1 _ hx_3) rfl rfl ?_
  obtain ⟨_,hv_4,h⟩:=bsome h
  have hf_5:=must_ok hv_4
  refine aX 6 (sT [(1,jI kind),pR 4 1,pR 6 2,(7,jI r1_1)] [(2,.var 74 (catV (cv29 r0_K3) [.d (q1 r0_bald3),.d (.nilMap)])),(1,.var 37 [jI 0,jI 0]),(0,.var 29 (cv29 x))] 3 0) ?_
  refine Fi (sT [(1,jI kind),pR 4 1,pR 6 2,(7,jI r1_1)] [(2,.var 74 (catV (cv29 r0_K3) [.d (q1 r0_bald3),.d (.nilMap)])),(1,.var 37 [jI 0,jI 0])] 3 0) ?_
  refine hQ_1 _ ?_
  refine AW.seqK (fun K_6 hK_6=>?_)
  refine Sa (sT [(1,jI kind),pR 4 1,pR 6 2,(7,jI r1_1),(17,.d (.bool (decide (r1_1≠0))))] [(2,.var 74 (catV (cv29 r0_K3) [.d (q1 r0_bald3),.d (.nilMap)])),(1,.var 37 [jI 0,jI 0])] 3 0) ?_
  refine AW.cond rfl (fun hb_7=>?_) (fun hb_7=>False.elim (by rw [hf_5] at hb_7;cases hb_7))
  refine Sa (sT [pR 4 1,(5,jI r1_1)] [(1,.var 37 [jI 0,jI 0])] 3 0) ?_
  obtain rfl:=Option.some.inj h
  exact rT hR_0 (.cons (.agg rfl rfl (Nat.le_of_ble_eq_true rfl)) (.cons (.tmp rfl) .nil))
 ·refine r_call trivial rfl (k59 x r0_1 _ hx_3) rfl rfl ?_
  refine aX 6 (sT [(1,jI kind),pR 4 1,pR 6 2,(7,jI r1_2)] [(2,.var 74 (kbm r0_K4 r0_bald4 mf1)),(1,.var 37 [jI 0,jI 0]),(0,.var 29 (cv29 x))] 3 0) ?_
  refine Fi (sT [(1,jI kind),pR 4 1,pR 6 2,(7,jI r1_2)] [(2,.var 74 (kbm r0_K4 r0_bald4 mf1)),(1,.var 37 [jI 0,jI 0])] 3 0) ?_
  refine hQ_1 _ ?_
  refine AW.seqK (fun K_8 hK_8=>?_)
  refine Sa (sT [(1,jI kind),pR 4 1,pR 6 2,(7,jI r1_2),(17,.d (.bool (decide (r1_2≠0))))] [(2,.var 74 (kbm r0_K4 r0_bald4 mf1)),(1,.var 37 [jI 0,jI 0])] 3 0) ?_
  refine AW.cond rfl (fun hb_9=>?_) (fun hb_9=>?_)
  ·have h:=ifT hb_9 h
   refine Sa (sT [pR 4 1,(5,jI r1_2)] [(1,.var 37 [jI 0,jI 0])] 3 0) ?_
   obtain rfl:=Option.some.inj h
   exact rT hR_0 (.cons (.agg rfl rfl (Nat.le_of_ble_eq_true rfl)) (.cons (.tmp rfl) .nil))
  ·have h:=ifF hb_9 h
   refine AW.skip (hK_8 _ ?_)
   refine AW.sdrwK fokW (fun Q_10 hQ_10=>?_)
   refine aX 2 (sT [(1,jI kind),pR 4 1,pR 6 2,(20,.agg (kbm r0_K4 r0_bald4 mf1)),(21,jI kind)] [(2,.var 74 (kbm r0_K4 r0_bald4 mf1)),(1,.var 37 [jI 0,jI 0])] 3 0) ?_
   obtain ⟨⟨⟩,hx_11,h⟩:=bsome h
   refine r_call trivial rfl (k78 _ hx_11) rfl rfl ?_
   obtain ⟨r0_1_1,hx_12,h⟩:=bsome h
   refine r_call trivial rfl (k77 r0_K4 r0_bald4 mf1 kind _ hx_12) rfl rfl ?_
   refine aX 2 (sT [pR 4 1,(23,jI r0_1_1),(24,.agg (kbm r0_K4 r0_bald4 mf1)),(25,jI kind)] [(2,.var 74 (kbm r0_K4 r0_bald4 mf1)),(1,.var 37 [jI 0,jI 0])] 3 0) ?_
   obtain ⟨⟨⟩,hx_13,h⟩:=bsome h
   refine r_call trivial rfl (k79 _ hx_13) rfl rfl ?_
   obtain ⟨r0_1_2,hx_14,h⟩:=bsome h
   refine r_call trivial rfl (k77a r0_K4 r0_bald4 mf1 kind _ hx_14) rfl rfl ?_
   refine aX 3 (sT [pR 4 1,(5,jI 0)] [(1,.var 37 [jI r0_1_1,jI r0_1_2]),(2,.var 74 (kbm r0_K4 r0_bald4 mf1))] 3 0) ?_
   refine Fi (sT [pR 4 1,(5,jI 0)] [(1,.var 37 [jI r0_1_1,jI r0_1_2])] 3 0) ?_
   refine hQ_10 _ ?_
   obtain rfl:=Option.some.inj h
   exact rT hR_0 (.cons (.agg rfl rfl (Nat.le_of_ble_eq_true rfl)) (.cons (.tmp rfl) .nil))
def g82 (b_K:HarnessBook) (b_bald:(List Int)) (mf:List (Harness_want×Int)) (kind:Int):Option Int:=(g79).bind fun _=>(g77a b_K b_bald mf kind).bind fun r0_1=>(must (decide ((wr (b_K.Pack - b_K.Bad))≠0))).bind fun _=>some (wr ((wr ((wr (r0_1+(wr (b_K.Pack - b_K.Bad)))) - 1)).tdiv (wr (b_K.Pack - b_K.Bad))))
theorem k82 (b_K:HarnessBook) (b_bald:(List Int)) (mf:List (Harness_want×Int)) (kind:Int) (r:Int) (h:g82 b_K b_bald mf kind=some r):SCall Tryd.prog Gs 82 [.agg (kbm b_K b_bald mf),jI kind] [] 0 Fr.emp (jI r) [] 0 Fr.emp:=by
 unfold g82 at h
 refine SCall.mkK Tryd.func82 c82 rfl rfl (by kernel_rfl) (fun Q_0 hR_0 hN_0=>?_)
 refine Sa (sT [(1,jI kind),pR 2 0] [(0,.var 74 (kbm b_K b_bald mf))] 1 0) ?_
 refine Sa (sT [(1,jI kind),pR 2 0,(5,jI (wr (b_K.Pack - b_K.Bad)))] [(0,.var 74 (kbm b_K b_bald mf))] 1 0) ?_
 refine AW.sdrwK fokW (fun Q_1 hQ_1=>?_)
 refine aX 2 (sT [(5,jI (wr (b_K.Pack - b_K.Bad))),(13,.agg (kbm b_K b_bald mf)),(14,jI kind)] [(0,.var 74 (kbm b_K b_bald mf))] 1 0) ?_
 obtain ⟨⟨⟩,hx_2,h⟩:=bsome h
 refine r_call trivial rfl (k79 _ hx_2) rfl rfl ?_
 obtain ⟨r0_1,hx_3,h⟩:=bsome h
 refine r_call trivial rfl (k77a b_K b_bald mf kind _ hx_3) rfl rfl ?_
 refine aX 4 (sT [(19,jI (wr ((wr (r0_1+(wr (b_K.Pack - b_K.Bad)))) - 1))),(20,jI (wr (b_K.Pack - b_K.Bad)))] [(0,.var 74 (kbm b_K b_bald mf))] 1 0) ?_
 obtain ⟨_,hv_4,h⟩:=bsome h
 refine r_quoW trivial rfl rfl (of_decide_eq_true (must_ok hv_4)) ?_
 refine aX 1 (sT [(4,jI (wr ((wr ((wr (r0_1+(wr (b_K.Pack - b_K.Bad)))) - 1)).tdiv (wr (b_K.Pack - b_K.Bad)))))] [(0,.var 74 (kbm b_K b_bald mf))] 1 0) ?_
 refine Fi (sT [(4,jI (wr ((wr ((wr (r0_1+(wr (b_K.Pack - b_K.Bad)))) - 1)).tdiv (wr (b_K.Pack - b_K.Bad)))))] [] 1 0) ?_
 refine hQ_1 _ ?_
 obtain rfl:=Option.some.inj h
 exact rT hR_0 (.cons (.tmp rfl) .nil)
def g27_11 (r0_K4:HarnessBook) (r0_bald4:(List Int)) (mf1:List (Harness_want×Int)):Int→Span→(List Int)→Option (List Int):=fun v p l=>(g82 r0_K4 r0_bald4 mf1 v).bind fun r0=>(appL 8 l [r0]).bind fun l1=>some l1
def g27 (x:HarnessBook):Option ((List Int)×Int):=(g59 x true).bind fun r_21=>match r_21 with | .next (r0_K3,r0_bald3,r1_1)=>(must (decide (r1_1≠0))).bind fun _=>some ([],r1_1) | .brk (r0_K4,r0_bald4,mf1,r1_2)=>bif (decide (r1_2≠0)) then (some ([],r1_2)) else ((must (decide ((x.Stock.length:Int)≤9223372036854775807))).bind fun _=>(eachS (g27_11 r0_K4 r0_bald4 mf1) x.Stock 0 ([]:List Int)).bind fun l=>(slcL l 0 (l.length:Int)).bind fun l2=>some (l2,0))
theorem k27 (x:HarnessBook) (r:(List Int)×Int) (h:g27 x=some r):SCall Tryd.prog Gs 27 [.agg (cv29 x)] [] 0 Fr.emp (match r with | (r0_3,r1_4)=>.tup [.d (q1 r0_3),jI r1_4]) [] 0 Fr.emp:=by
 unfold g27 at h
 refine SCall.mkK Tryd.func27 c27 rfl rfl (by kernel_rfl) (fun Q_0 hR_0 hN_0=>?_)
 refine Sa (sT [pR 1 0] [(0,.var 29 (cv29 x))] 1 0) ?_
 refine AW.srwK (fun Q_1 hQ_1=>?_)
 refine Au 1 (sT [pR 1 0,(9,.agg (cv29 x))] [(0,.var 29 (cv29 x))] 1 0) ?_
 obtain ⟨r_21,hx_2,h⟩:=bsome h
 rcases r_21 with (⟨r0_K3,r0_bald3,r1_1⟩ | (⟨r0_K4,r0_bald4,mf1,r1_2⟩))
 ·refine rC (k59 x true _ hx_2) ?_
  obtain ⟨_,hv_3,h⟩:=bsome h
  have hf_4:=must_ok hv_3
  refine Au 6 (sT [pR 1 0,pR 4 1,(5,jI r1_1)] [(1,.var 74 (catV (cv29 r0_K3) [.d (q1 r0_bald3),.d (.nilMap)])),(0,.var 29 (cv29 x))] 2 0) ?_
  refine RW.nil (hQ_1 _ ?_)
  refine AW.seqK (fun K_5 hK_5=>?_)
  refine Sa (sT [pR 1 0,pR 4 1,(5,jI r1_1),(14,.d (.bool (decide (r1_1≠0))))] [(1,.var 74 (catV (cv29 r0_K3) [.d (q1 r0_bald3),.d (.nilMap)])),(0,.var 29 (cv29 x))] 2 0) ?_
  refine AW.cond rfl (fun hb_6=>?_) (fun hb_6=>False.elim (by rw [hf_4] at hb_6;cases hb_6))
  refine Sa (sT [(2,.d (.nilSl)),(3,jI r1_1)] [] 2 0) ?_
  obtain rfl:=Option.some.inj h
  exact AW.ret (hR_0 _ (retX (.cons (.tmp rfl) (.cons (.tmp rfl) .nil)) (Frz.tup_of ⟨.nil 1,.refl _,trivial⟩) rfl (by kernel_rfl) (by kernel_rfl)))
 ·refine rC (k59 x true _ hx_2) ?_
  refine Au 6 (sT [pR 1 0,pR 4 1,(5,jI r1_2)] [(1,.var 74 (kbm r0_K4 r0_bald4 mf1)),(0,.var 29 (cv29 x))] 2 0) ?_
  refine RW.nil (hQ_1 _ ?_)
  refine AW.seqK (fun K_7 hK_7=>?_)
  refine Sa (sT [pR 1 0,pR 4 1,(5,jI r1_2),(14,.d (.bool (decide (r1_2≠0))))] [(1,.var 74 (kbm r0_K4 r0_bald4 mf1)),(0,.var 29 (cv29 x))] 2 0) ?_
  refine AW.cond rfl (fun hb_8=>?_) (fun hb_8=>?_)
  ·have h:=ifT hb_8 h
   refine Sa (sT [(2,.d (.nilSl)),(3,jI r1_2)] [] 2 0) ?_
   obtain rfl:=Option.some.inj h
   exact AW.ret (hR_0 _ (retX (.cons (.tmp rfl) (.cons (.tmp rfl) .nil)) (Frz.tup_of ⟨.nil 1,.refl _,trivial⟩) rfl (by kernel_rfl) (by kernel_rfl)))
  ·have h:=ifF hb_8 h
   refine AW.skip (hK_7 _ ?_)
   refine Sa (sT [pR 1 0,pR 4 1,(6,.d (.nilSl))] [(1,.var 74 (kbm r0_K4 r0_bald4 mf1)),(0,.var 29 (cv29 x))] 2 0) ?_
   refine AW.seqK fun K_9 hK_9=>AW.srwK fun Q_10 hQ_10=>?_
   refine Au 2 (sT [pR 4 1,(6,.d (.nilSl)),(17,.d (.sl 2 (List.map e37 x.Stock)))] [(1,.var 74 (kbm r0_K4 r0_bald4 mf1))] 2 0) ?_
   refine rL rfl ?_
   refine Au 1 (sT [pR 4 1,(6,.d (.nilSl)),(18,jI (x.Stock.length:Int)),(19,jI 0)] [(1,.var 74 (kbm r0_K4 r0_bald4 mf1))] 2 0) ?_
   refine RW.nil (hQ_10 _ ?_)
   refine AW.block ?_
   obtain ⟨_,hN_11,h⟩:=bsome h
   have hN_11:=of_decide_eq_true (must_ok hN_11)
   obtain ⟨out_11,hx_11,h⟩:=bsome h
   refine AW.evSK (fun (v:Int) (l:List Int)=>(sT [pR 4 1,(6,.own 2 (List.map e3 l).length),(18,jI (x.Stock.length:Int)),(19,jI v)] [(2,.row 3 1 (List.map e3 l)),(1,.var 74 (kbm r0_K4 r0_bald4 mf1))] 3 0)) (g27_11 r0_K4 r0_bald4 mf1) hx_11 (Can.trans (Can.thawT 6 3 1 rfl rfl) (Can.kp (by kernel_rfl))) (fun v p l hi_11 hl_11 hp_11 c_11 h K_11 hK_11=>?_) (fun v l hi_11 hl_11 hout=>?_)
   ·unfold g27_11 at h
    refine Sa (sT [pR 4 1,(6,.own 2 (List.map e3 l).length),(18,jI (x.Stock.length:Int)),(19,jI v),(20,.d (.bool (decide (v<(x.Stock.length:Int)))))] [(2,.row 3 1 (List.map e3 l)),(1,.var 74 (kbm r0_K4 r0_bald4 mf1))] 3 0) ?_
    refine AW.seqK (fun K_12 hK_12=>?_)
    refine AW.cond rfl (fun hb_13=>?_) (fun hb_13=>False.elim (by have:=of_decide_eq_false hb_13;omega))
    refine AW.skip (hK_12 _ ?_)
    refine AW.seqK (fun K_14 hK_14=>?_)
    refine AW.block ?_
    refine Sa (sT [pR 4 1,(6,.own 2 (List.map e3 l).length),(7,jI v),(18,jI (x.Stock.length:Int)),(19,jI v)] [(2,.row 3 1 (List.map e3 l)),(1,.var 74 (kbm r0_K4 r0_bald4 mf1))] 3 0) ?_
    refine AW.rw ?_
    refine Au 3 (sT [pR 4 1,(18,jI (x.Stock.length:Int)),(19,jI v),(22,.own 2 (List.map e3 l).length),(23,.agg (kbm r0_K4 r0_bald4 mf1)),(24,jI v)] [(2,.row 3 1 (List.map e3 l)),(1,.var 74 (kbm r0_K4 r0_bald4 mf1))] 3 0) ?_
    obtain ⟨r0,hx_16,h⟩:=bsome h
    refine rC (k82 r0_K4 r0_bald4 mf1 v _ hx_16) ?_
    refine Au 1 (sT [pR 4 1,(18,jI (x.Stock.length:Int)),(19,jI v),(22,.own 2 (List.map e3 l).length),(26,.own 3 (List.map e3 [r0]).length)] [(3,.row 3 1 (List.map e3 [r0])),(2,.row 3 1 (List.map e3 l)),(1,.var 74 (kbm r0_K4 r0_bald4 mf1))] 4 0) ?_
    obtain ⟨l1,hv_17,h⟩:=bsome h
    refine RW.one fokW (r_apO trivial rfl rfl rfl rfl rfl rfl (apz hv_17 e3) (apr hv_17 e3) (r_end ?_))
    refine Au 1 (sT [pR 4 1,(6,.own 2 (List.map e3 l1).length),(18,jI (x.Stock.length:Int)),(19,jI v)] [(2,.row 3 1 (List.map e3 l1)),(1,.var 74 (kbm r0_K4 r0_bald4 mf1))] 4 0) ?_
    refine RW.nil ?_
    refine hK_14 _ ?_
    refine Ra (sT [pR 4 1,(6,.own 2 (List.map e3 l1).length),(18,jI (x.Stock.length:Int)),(19,jI (wr (v+1)))] [(2,.row 3 1 (List.map e3 l1)),(1,.var 74 (kbm r0_K4 r0_bald4 mf1))] 4 0) ?_
    obtain rfl:=Option.some.inj h
    have ew:wr (v+1)=v+1:=inext (N:=(x.Stock.length:Int)) (by omega) (by omega) (by omega)
    rw [ew]
    exact hK_11 _ (Can.kp (by kernel_rfl))
   ·subst hout
    refine Sa (sT [pR 4 1,(6,.own 2 (List.map e3 l).length),(18,jI (x.Stock.length:Int)),(19,jI v),(20,.d (.bool (decide (v<(x.Stock.length:Int)))))] [(2,.row 3 1 (List.map e3 l)),(1,.var 74 (kbm r0_K4 r0_bald4 mf1))] 3 0) ?_
    refine AW.seqK (fun K_18 hK_18=>?_)
    refine AW.cond rfl (fun hb_19=>False.elim (by have:=of_decide_eq_true hb_19;omega)) (fun hb_19=>?_)
    refine AW.exit ?_
    refine hK_9 _ ?_
    refine AW.can (Can.fzE 6 2 rfl rfl rfl) ?_
    refine AW.srwK (fun Q_20 hQ_20=>?_)
    refine Au 2 (sT [(6,.d (q1 l)),(29,.d (q1 l)),(30,.d (q1 l))] [] 3 0) ?_
    refine rL rfl ?_
    refine Au 1 (sT [(29,.d (q1 l)),(31,jI (l.length:Int)),(32,.d (q1 l))] [] 3 0) ?_
    refine rL rfl ?_
    obtain ⟨l2,hv_21,h⟩:=bsome h
    refine RW.one fokW (r_slN trivial rfl rfl rfl DSl.d (slcL_ok hv_21).2.1 (by rw [List.length_map];exact (slcL_ok hv_21).2.2.1) rfl (slz hv_21 e3) (r_end ?_))
    refine Au 2 (sT [(2,.fsl 1 (List.map e3 l2)),(3,jI 0)] [] 3 0) ?_
    refine RW.nil (hQ_20 _ ?_)
    obtain rfl:=Option.some.inj h
    exact AW.ret (hR_0 _ (retX (.cons (.tmp rfl) (.cons (.tmp rfl) .nil)) (Frz.tup_of ⟨.fsl _ _,.refl _,trivial⟩) rfl (by kernel_rfl) (by kernel_rfl)))
def g17_4 (l:(List Int)) (m:(List Int)):(Bool×Int)→Option (Ctl (Bool×Int) (Bool)):=fun  (is2,i)=>(bif is2 then (some (decide (i<(l.length:Int)))) else (some false)).bind fun v=>bif v then ((ixL l i).bind fun p=>(ixL m i).bind fun p1=>some (.next ((decide (p=p1)),(wr (i+1))))) else (some (.brk is2))
def g17 (l:(List Int)) (m:(List Int)):Option Bool:=((whileC (g17_4 l m) 1000 ((decide ((l.length:Int)=(m.length:Int))),0)).bind fun is1=>some is1).bind fun is=>some is
theorem k17 (l:(List Int)) (m:(List Int)) (r:Bool) (h:g17 l m=some r):SCall Tryd.prog Gs 17 [.d (q1 l),.d (q1 m)] [] 0 Fr.emp (.d (.bool r)) [] 0 Fr.emp:=by
 unfold g17 at h
 refine SCall.mkK Tryd.func17 c17 rfl rfl (by kernel_rfl) (fun Q_0 hR_0 hN_0=>?_)
 refine Sa (sT [(0,.d (q1 l)),(1,.d (q1 m))] [] 0 0) ?_
 refine AW.srwK (fun Q_1 hQ_1=>?_)
 refine Au 1 (sT [(0,.d (q1 l)),(1,.d (q1 m)),(7,.d (q1 l))] [] 0 0) ?_
 refine rL rfl ?_
 refine Au 1 (sT [(0,.d (q1 l)),(1,.d (q1 m)),(8,jI (l.length:Int)),(9,.d (q1 m))] [] 0 0) ?_
 refine rL rfl ?_
 refine Au 2 (sT [(0,.d (q1 l)),(1,.d (q1 m)),(5,.d (.bool (decide ((l.length:Int)=(m.length:Int)))))] [] 0 0) ?_
 refine RW.nil (hQ_1 _ ?_)
 obtain ⟨is,hx_2,h⟩:=bsome h
 refine AW.jnSK (fun (is:Bool)=>(sT [(5,.d (.bool is))] [] 0 0)) (c:=is) (fun K_2 hK_2=>?_) ?_
 ·have h:=hx_2
  refine Sa (sT [(0,.d (q1 l)),(1,.d (q1 m)),(5,.d (.bool (decide ((l.length:Int)=(m.length:Int))))),(6,jI 0)] [] 0 0) ?_
  obtain ⟨is1,hx_3,h⟩:=bsome h
  refine AW.jqSK (fun (is1:Bool)=>(sT [(5,.d (.bool is1))] [] 0 0)) (c:=is1) (fun K_3 hK_3=>?_) ?_
  ·have h:=hx_3
   refine AW.block ?_
   refine AW.whK (fun (⟨is2,i⟩:Bool×Int)=>(sT [(0,.d (q1 l)),(1,.d (q1 m)),(5,.d (.bool is2)),(6,jI i)] [] 0 0)) (g17_4 l m) h (Can.kp (by kernel_rfl)) (fun s_4 c_4 h hb_4 K_4 hK_4=>?_)
   obtain ⟨is2,i⟩:=s_4
   unfold g17_4 at h
   refine AW.seqK fun K_5 hK_5=>AW.srwK fun Q_6 hQ_6=>?_
   refine Au 2 (sT [(0,.d (q1 l)),(1,.d (q1 m)),(5,.d (.bool is2)),(6,jI i),(13,.d (.bool is2))] [] 0 0) ?_
   obtain ⟨v,hx_7,h⟩:=bsome h
   refine RW.cut fokW 5 ((sT [(0,.d (q1 l)),(1,.d (q1 m)),(5,.d (.bool is2)),(6,jI i),(18,.d (.bool v))] [] 0 0)) ?_ ?_
   ·refine r_split 13 rfl (fun hb_8=>?_) (fun hb_8=>?_)
    ·have h:=ifT hb_8 hx_7
     refine aX 2 (sT [(0,.d (q1 l)),(1,.d (q1 m)),(5,.d (.bool is2)),(6,jI i),(13,.d (.bool true)),(14,jI i),(15,.d (q1 l))] [] 0 0) ?_
     refine r_lenX rfl rfl lenm ?_
     refine aX 2 (sT [(0,.d (q1 l)),(1,.d (q1 m)),(5,.d (.bool is2)),(6,jI i),(18,.d (.bool (decide (i<(l.length:Int)))))] [] 0 0) ?_
     obtain rfl:=Option.some.inj h
     refine RunC.finJ (Can.kp (by kernel_rfl))
    ·have h:=ifF hb_8 hx_7
     refine aX 5 (sT [(0,.d (q1 l)),(1,.d (q1 m)),(5,.d (.bool is2)),(6,jI i),(18,.d (.bool false))] [] 0 0) ?_
     obtain rfl:=Option.some.inj h
     refine RunC.finJ (Can.kp (by kernel_rfl))
   ·refine RW.nil (hQ_6 _ ?_)
    refine AW.cond rfl (fun hb_9=>?_) (fun hb_9=>?_)
    ·have h:=ifT hb_9 h
     refine AW.skip (hK_5 _ ?_)
     refine AW.seqK (fun K_10 hK_10=>?_)
     refine AW.block ?_
     refine AW.drw fokW ?_
     refine aX 2 (sT [(0,.d (q1 l)),(1,.d (q1 m)),(6,jI i),(21,.d (q1 l)),(22,jI i)] [] 0 0) ?_
     obtain ⟨p,hv_12,h⟩:=bsome h
     refine r_iaD trivial rfl rfl (ixL_ok hv_12).1 (row:=e3 p) (mapget (ixL_ok hv_12).2) ?_
     refine aX 3 (sT [(0,.d (q1 l)),(1,.d (q1 m)),(6,jI i),(24,jI p),(25,.d (q1 m)),(26,jI i)] [] 0 0) ?_
     obtain ⟨p1,hv_13,h⟩:=bsome h
     refine r_iaD trivial rfl rfl (ixL_ok hv_13).1 (row:=e3 p1) (mapget (ixL_ok hv_13).2) ?_
     refine aX 3 (sT [(0,.d (q1 l)),(1,.d (q1 m)),(5,.d (.bool (decide (p=p1)))),(6,jI i)] [] 0 0) ?_
     refine Fi (sT [(0,.d (q1 l)),(1,.d (q1 m)),(5,.d (.bool (decide (p=p1)))),(6,jI i)] [] 0 0) ?_
     refine hK_10 _ ?_
     refine Ra (sT [(0,.d (q1 l)),(1,.d (q1 m)),(5,.d (.bool (decide (p=p1)))),(6,jI (wr (i+1)))] [] 0 0) ?_
     obtain rfl:=Option.some.inj h
     exact hK_4 _ _ rfl (Can.kp (by kernel_rfl))
    ·have h:=ifF hb_9 h
     refine AW.exit ?_
     obtain rfl:=Option.some.inj h
     obtain rfl:=hb_4 _ rfl
     exact hK_3 _ (Can.kp (by kernel_rfl))
  ·obtain rfl:=Option.some.inj h
   exact hK_2 _ (Can.kp (by kernel_rfl))
 ·refine Sa (sT [(4,.d (.bool is))] [] 0 0) ?_
  obtain rfl:=Option.some.inj h
  exact rT hR_0 (.cons (.tmp rfl) .nil)
def g155 (b_K:HarnessBook) (b_bald:(List Int)) (mf:List (Harness_want×Int)) (kind:Int):Option Int:=(g79).bind fun _=>(ixL b_K.Stock kind).bind fun p=>(g107 p).bind fun r0=>(g82 b_K b_bald mf kind).bind fun r0_1=>(g105 b_K b_bald mf kind).bind fun r0_2=>some (wr ((wr (r0+(wr (r0_1*(wr (b_K.Pack - b_K.Bad)))))) - r0_2))
theorem k155 (b_K:HarnessBook) (b_bald:(List Int)) (mf:List (Harness_want×Int)) (kind:Int) (r:Int) (h:g155 b_K b_bald mf kind=some r):SCall Tryd.prog Gs 155 [.agg (kbm b_K b_bald mf),jI kind] [] 0 Fr.emp (jI r) [] 0 Fr.emp:=by
 unfold g155 at h
 refine SCall.mkK Tryd.func155 c155 rfl rfl (by kernel_rfl) (fun Q_0 hR_0 hN_0=>?_)
 refine Sa (sT [(1,jI kind),pR 2 0] [(0,.var 74 (kbm b_K b_bald mf))] 1 0) ?_
 refine AW.sdrwK fokW (fun Q_1 hQ_1=>?_)
 obtain ⟨⟨⟩,hx_2,h⟩:=bsome h
 refine r_call trivial rfl (k79 _ hx_2) rfl rfl ?_
 refine aX 5 (sT [(1,jI kind),pR 2 0,(6,.d (.fn 107)),(9,.d (.sl 2 (List.map e37 b_K.Stock))),(10,jI kind)] [(0,.var 74 (kbm b_K b_bald mf))] 1 0) ?_
 obtain ⟨p,hv_3,h⟩:=bsome h
 refine r_iaD trivial rfl rfl (ixL_ok hv_3).1 (row:=e37 p) (mapget (ixL_ok hv_3).2) ?_
 refine aX 1 (sT [(1,jI kind),pR 2 0,(6,.d (.fn 107)),(12,.agg [jI p.Low,jI p.High])] [(0,.var 74 (kbm b_K b_bald mf))] 1 0) ?_
 obtain ⟨r0,hx_4,h⟩:=bsome h
 refine r_callvZ (zr:=[]) trivial rfl (.fn _) (by kernel_rfl) rfl (k107 p _ hx_4) trivial ⟨.refl _,trivial⟩ rfl rfl rfl rfl ?_
 refine aX 2 (sT [(1,jI kind),pR 2 0,(13,jI r0),(14,.agg (kbm b_K b_bald mf)),(15,jI kind)] [(0,.var 74 (kbm b_K b_bald mf))] 1 0) ?_
 obtain ⟨r0_1,hx_5,h⟩:=bsome h
 refine r_call trivial rfl (k82 b_K b_bald mf kind _ hx_5) rfl rfl ?_
 refine aX 11 (sT [(25,jI (wr (r0+(wr (r0_1*(wr (b_K.Pack - b_K.Bad))))))),(26,.agg (kbm b_K b_bald mf)),(27,jI kind)] [(0,.var 74 (kbm b_K b_bald mf))] 1 0) ?_
 obtain ⟨r0_2,hx_6,h⟩:=bsome h
 refine r_call trivial rfl (k105 b_K b_bald mf kind _ hx_6) rfl rfl ?_
 refine aX 2 (sT [(4,jI (wr ((wr (r0+(wr (r0_1*(wr (b_K.Pack - b_K.Bad)))))) - r0_2)))] [(0,.var 74 (kbm b_K b_bald mf))] 1 0) ?_
 refine Fi (sT [(4,jI (wr ((wr (r0+(wr (r0_1*(wr (b_K.Pack - b_K.Bad)))))) - r0_2)))] [] 1 0) ?_
 refine hQ_1 _ ?_
 obtain rfl:=Option.some.inj h
 exact rT hR_0 (.cons (.tmp rfl) .nil)
def g156 (b_K:HarnessBook) (b_bald:(List Int)) (mf:List (Harness_want×Int)) (kind:Int):Option Int:=(g78).bind fun _=>(ixL b_K.Stock kind).bind fun p=>(g106 p).bind fun r0=>(g82 b_K b_bald mf kind).bind fun r0_1=>(g105 b_K b_bald mf kind).bind fun r0_2=>some (wr ((wr (r0+(wr (r0_1*b_K.Pack)))) - r0_2))
theorem k156 (b_K:HarnessBook) (b_bald:(List Int)) (mf:List (Harness_want×Int)) (kind:Int) (r:Int) (h:g156 b_K b_bald mf kind=some r):SCall Tryd.prog Gs 156 [.agg (kbm b_K b_bald mf),jI kind] [] 0 Fr.emp (jI r) [] 0 Fr.emp:=by
 unfold g156 at h
 refine SCall.mkK Tryd.func156 c156 rfl rfl (by kernel_rfl) (fun Q_0 hR_0 hN_0=>?_)
 refine Sa (sT [(1,jI kind),pR 2 0] [(0,.var 74 (kbm b_K b_bald mf))] 1 0) ?_
 refine AW.sdrwK fokW (fun Q_1 hQ_1=>?_)
 obtain ⟨⟨⟩,hx_2,h⟩:=bsome h
 refine r_call trivial rfl (k78 _ hx_2) rfl rfl ?_
 refine aX 5 (sT [(1,jI kind),pR 2 0,(6,.d (.fn 106)),(9,.d (.sl 2 (List.map e37 b_K.Stock))),(10,jI kind)] [(0,.var 74 (kbm b_K b_bald mf))] 1 0) ?_
 obtain ⟨p,hv_3,h⟩:=bsome h
 refine r_iaD trivial rfl rfl (ixL_ok hv_3).1 (row:=e37 p) (mapget (ixL_ok hv_3).2) ?_
 refine aX 1 (sT [(1,jI kind),pR 2 0,(6,.d (.fn 106)),(12,.agg [jI p.Low,jI p.High])] [(0,.var 74 (kbm b_K b_bald mf))] 1 0) ?_
 obtain ⟨r0,hx_4,h⟩:=bsome h
 refine r_callvZ (zr:=[]) trivial rfl (.fn _) (by kernel_rfl) rfl (k106 p _ hx_4) trivial ⟨.refl _,trivial⟩ rfl rfl rfl rfl ?_
 refine aX 2 (sT [(1,jI kind),pR 2 0,(13,jI r0),(14,.agg (kbm b_K b_bald mf)),(15,jI kind)] [(0,.var 74 (kbm b_K b_bald mf))] 1 0) ?_
 obtain ⟨r0_1,hx_5,h⟩:=bsome h
 refine r_call trivial rfl (k82 b_K b_bald mf kind _ hx_5) rfl rfl ?_
 refine aX 7 (sT [(21,jI (wr (r0+(wr (r0_1*b_K.Pack))))),(22,.agg (kbm b_K b_bald mf)),(23,jI kind)] [(0,.var 74 (kbm b_K b_bald mf))] 1 0) ?_
 obtain ⟨r0_2,hx_6,h⟩:=bsome h
 refine r_call trivial rfl (k105 b_K b_bald mf kind _ hx_6) rfl rfl ?_
 refine aX 2 (sT [(4,jI (wr ((wr (r0+(wr (r0_1*b_K.Pack)))) - r0_2)))] [(0,.var 74 (kbm b_K b_bald mf))] 1 0) ?_
 refine Fi (sT [(4,jI (wr ((wr (r0+(wr (r0_1*b_K.Pack)))) - r0_2)))] [] 1 0) ?_
 refine hQ_1 _ ?_
 obtain rfl:=Option.some.inj h
 exact rT hR_0 (.cons (.tmp rfl) .nil)
def g29 (x:HarnessBook) (kind:Int):Option (Span×Int):=(g76 x kind).bind fun r0_1=>(g59 x r0_1).bind fun r_12=>match r_12 with | .next (r0_K3,r0_bald3,r1_1)=>(must (decide (r1_1≠0))).bind fun _=>some ((Span.mk 0 0),r1_1) | .brk (r0_K4,r0_bald4,mf1,r1_2)=>bif (decide (r1_2≠0)) then (some ((Span.mk 0 0),r1_2)) else ((g155 r0_K4 r0_bald4 mf1 kind).bind fun r0_3=>(g156 r0_K4 r0_bald4 mf1 kind).bind fun r0_3_1=>some ((Span.mk r0_3 r0_3_1),0))
theorem k29 (x:HarnessBook) (kind:Int) (r:Span×Int) (h:g29 x kind=some r):SCall Tryd.prog Gs 29 [.agg (cv29 x),jI kind] [] 0 Fr.emp (match r with | (r0_4,r1_4)=>.tup [.agg [jI r0_4.Low,jI r0_4.High],jI r1_4]) [] 0 Fr.emp:=by
 unfold g29 at h
 refine SCall.mkK Tryd.func29 c29 rfl rfl (by kernel_rfl) (fun Q_0 hR_0 hN_0=>?_)
 refine Sa (sT [(1,jI kind),pR 2 0,pR 4 1] [(1,.var 37 [jI 0,jI 0]),(0,.var 29 (cv29 x))] 2 0) ?_
 refine AW.sdrwK fokW (fun Q_1 hQ_1=>?_)
 refine aX 3 (sT [(1,jI kind),pR 4 1,(9,.agg (cv29 x)),(10,.agg (cv29 x)),(11,jI kind)] [(1,.var 37 [jI 0,jI 0]),(0,.var 29 (cv29 x))] 2 0) ?_
 obtain ⟨r0_1,hx_2,h⟩:=bsome h
 refine r_call trivial rfl (k76 x kind _ hx_2) rfl rfl ?_
 obtain ⟨r_12,hx_3,h⟩:=bsome h
 rcases r_12 with (⟨r0_K3,r0_bald3,r1_1⟩ | (⟨r0_K4,r0_bald4,mf1,r1_2⟩))
 ·refine r_call trivial rfl (k59 x r0_1 _ hx_3) rfl rfl ?_
  obtain ⟨_,hv_4,h⟩:=bsome h
  have hf_5:=must_ok hv_4
  refine aX 6 (sT [(1,jI kind),pR 4 1,pR 6 2,(7,jI r1_1)] [(2,.var 74 (catV (cv29 r0_K3) [.d (q1 r0_bald3),.d (.nilMap)])),(1,.var 37 [jI 0,jI 0]),(0,.var 29 (cv29 x))] 3 0) ?_
  refine Fi (sT [(1,jI kind),pR 4 1,pR 6 2,(7,jI r1_1)] [(2,.var 74 (catV (cv29 r0_K3) [.d (q1 r0_bald3),.d (.nilMap)])),(1,.var 37 [jI 0,jI 0])] 3 0) ?_
  refine hQ_1 _ ?_
  refine AW.seqK (fun K_6 hK_6=>?_)
  refine Sa (sT [(1,jI kind),pR 4 1,pR 6 2,(7,jI r1_1),(17,.d (.bool (decide (r1_1≠0))))] [(2,.var 74 (catV (cv29 r0_K3) [.d (q1 r0_bald3),.d (.nilMap)])),(1,.var 37 [jI 0,jI 0])] 3 0) ?_
  refine AW.cond rfl (fun hb_7=>?_) (fun hb_7=>False.elim (by rw [hf_5] at hb_7;cases hb_7))
  refine Sa (sT [pR 4 1,(5,jI r1_1)] [(1,.var 37 [jI 0,jI 0])] 3 0) ?_
  obtain rfl:=Option.some.inj h
  exact rT hR_0 (.cons (.agg rfl rfl (Nat.le_of_ble_eq_true rfl)) (.cons (.tmp rfl) .nil))
 ·refine r_call trivial rfl (k59 x r0_1 _ hx_3) rfl rfl ?_
  refine aX 6 (sT [(1,jI kind),pR 4 1,pR 6 2,(7,jI r1_2)] [(2,.var 74 (kbm r0_K4 r0_bald4 mf1)),(1,.var 37 [jI 0,jI 0]),(0,.var 29 (cv29 x))] 3 0) ?_
  refine Fi (sT [(1,jI kind),pR 4 1,pR 6 2,(7,jI r1_2)] [(2,.var 74 (kbm r0_K4 r0_bald4 mf1)),(1,.var 37 [jI 0,jI 0])] 3 0) ?_
  refine hQ_1 _ ?_
  refine AW.seqK (fun K_8 hK_8=>?_)
  refine Sa (sT [(1,jI kind),pR 4 1,pR 6 2,(7,jI r1_2),(17,.d (.bool (decide (r1_2≠0))))] [(2,.var 74 (kbm r0_K4 r0_bald4 mf1)),(1,.var 37 [jI 0,jI 0])] 3 0) ?_
  refine AW.cond rfl (fun hb_9=>?_) (fun hb_9=>?_)
  ·have h:=ifT hb_9 h
   refine Sa (sT [pR 4 1,(5,jI r1_2)] [(1,.var 37 [jI 0,jI 0])] 3 0) ?_
   obtain rfl:=Option.some.inj h
   exact rT hR_0 (.cons (.agg rfl rfl (Nat.le_of_ble_eq_true rfl)) (.cons (.tmp rfl) .nil))
  ·have h:=ifF hb_9 h
   refine AW.skip (hK_8 _ ?_)
   refine AW.sdrwK fokW (fun Q_10 hQ_10=>?_)
   refine aX 4 (sT [(1,jI kind),pR 4 1,pR 6 2,(21,.d (.fn 155)),(22,.agg (kbm r0_K4 r0_bald4 mf1)),(23,jI kind)] [(2,.var 74 (kbm r0_K4 r0_bald4 mf1)),(1,.var 37 [jI 0,jI 0])] 3 0) ?_
   obtain ⟨r0_3,hx_11,h⟩:=bsome h
   refine r_callvZ (zr:=[]) trivial rfl (.fn _) (by kernel_rfl) rfl (k155 r0_K4 r0_bald4 mf1 kind _ hx_11) trivial ⟨.refl _,.refl _,trivial⟩ rfl rfl rfl rfl ?_
   refine aX 4 (sT [pR 4 1,(24,jI r0_3),(26,.d (.fn 156)),(27,.agg (kbm r0_K4 r0_bald4 mf1)),(28,jI kind)] [(2,.var 74 (kbm r0_K4 r0_bald4 mf1)),(1,.var 37 [jI 0,jI 0])] 3 0) ?_
   obtain ⟨r0_3_1,hx_12,h⟩:=bsome h
   refine r_callvZ (zr:=[]) trivial rfl (.fn _) (by kernel_rfl) rfl (k156 r0_K4 r0_bald4 mf1 kind _ hx_12) trivial ⟨.refl _,.refl _,trivial⟩ rfl rfl rfl rfl ?_
   refine aX 3 (sT [pR 4 1,(5,jI 0)] [(1,.var 37 [jI r0_3,jI r0_3_1]),(2,.var 74 (kbm r0_K4 r0_bald4 mf1))] 3 0) ?_
   refine Fi (sT [pR 4 1,(5,jI 0)] [(1,.var 37 [jI r0_3,jI r0_3_1])] 3 0) ?_
   refine hQ_10 _ ?_
   obtain rfl:=Option.some.inj h
   exact rT hR_0 (.cons (.agg rfl rfl (Nat.le_of_ble_eq_true rfl)) (.cons (.tmp rfl) .nil))
def g84 (b_K:HarnessBook) (b_bald:(List Int)) (mf:List (Harness_want×Int)):Option Int:=(g61 b_K b_bald mf).bind fun r0=>(g60 b_K b_bald mf r0).bind fun (surely,perhaps)=>(g62 b_K b_bald mf (bAndN perhaps surely)).bind fun r0_1=>some (r0_1.length:Int)
theorem k84 (b_K:HarnessBook) (b_bald:(List Int)) (mf:List (Harness_want×Int)) (r:Int) (h:g84 b_K b_bald mf=some r):SCall Tryd.prog Gs 84 [.agg (kbm b_K b_bald mf)] [] 0 Fr.emp (jI r) [] 0 Fr.emp:=by
 unfold g84 at h
 refine SCall.mkK Tryd.func84 c84 rfl rfl (by kernel_rfl) (fun Q_0 hR_0 hN_0=>?_)
 refine Sa (sT [pR 1 0] [(0,.var 74 (kbm b_K b_bald mf))] 1 0) ?_
 refine AW.sdrwK fokW (fun Q_1 hQ_1=>?_)
 refine aX 2 (sT [pR 1 0,(6,.agg (kbm b_K b_bald mf)),(7,.agg (kbm b_K b_bald mf))] [(0,.var 74 (kbm b_K b_bald mf))] 1 0) ?_
 obtain ⟨r0,hx_2,h⟩:=bsome h
 refine r_call trivial rfl (k61 b_K b_bald mf _ hx_2) rfl rfl ?_
 obtain ⟨⟨surely,perhaps⟩,hx_3,h⟩:=bsome h
 refine r_call trivial rfl (k60 b_K b_bald mf r0 _ hx_3) rfl rfl ?_
 refine aX 5 (sT [pR 1 0,(3,jI surely),(4,jI perhaps)] [(0,.var 74 (kbm b_K b_bald mf))] 1 0) ?_
 refine Fi (sT [pR 1 0,(3,jI surely),(4,jI perhaps)] [(0,.var 74 (kbm b_K b_bald mf))] 1 0) ?_
 refine hQ_1 _ ?_
 refine AW.srwK (fun Q_4 hQ_4=>?_)
 refine Au 3 (sT [(12,.agg (kbm b_K b_bald mf)),(13,jI perhaps),(14,jI surely)] [] 1 0) ?_
 refine RW.one fokW (r_andN trivial rfl rfl (r_end ?_))
 obtain ⟨r0_1,hx_5,h⟩:=bsome h
 refine rC (k62 b_K b_bald mf (bAndN perhaps surely) _ hx_5) ?_
 refine rL rfl ?_
 refine Au 1 (sT [(2,jI (r0_1.length:Int))] [] 1 0) ?_
 refine RW.nil (hQ_4 _ ?_)
 obtain rfl:=Option.some.inj h
 exact rT hR_0 (.cons (.tmp rfl) .nil)
def g85 (s:(List Span)):Option (List Span):=(must (decide (0<(s.length:Int)))).bind fun _=>(appL 16 ([]:List Span) s).bind fun l=>some l
theorem k85 (s:(List Span)) (r:List Span) (h:g85 s=some r):SCall Tryd.prog Gs 85 [.d (.sl 2 (List.map e37 s))] [] 0 Fr.emp (.own 0 (List.map e37 r).length) [(0,.row 37 2 (List.map e37 r))] 1 Fr.emp:=by
 unfold g85 at h
 refine SCall.mkK Tryd.func85 c85 rfl rfl (by kernel_rfl) (fun Q_0 hR_0 hN_0=>?_)
 refine Sa (sT [(0,.d (.sl 2 (List.map e37 s)))] [] 0 0) ?_
 refine AW.seqK fun K_1 hK_1=>AW.srwK fun Q_2 hQ_2=>?_
 refine Au 1 (sT [(0,.d (.sl 2 (List.map e37 s))),(3,.d (.sl 2 (List.map e37 s)))] [] 0 0) ?_
 obtain ⟨_,hv_3,h⟩:=bsome h
 refine RW.one fokW (r_snil trivial rfl (of_decide_eq_true (must_ok hv_3)) (r_end ?_))
 refine RW.nil (hQ_2 _ ?_)
 refine AW.condF rfl ?_
 refine AW.skip (hK_1 _ ?_)
 refine AW.srwK (fun Q_4 hQ_4=>?_)
 refine Au 2 (sT [(5,.own 0 (List.map e37 []).length),(6,.d (.sl 2 (List.map e37 s)))] [(0,.row 37 2 (List.map e37 []))] 1 0) ?_
 obtain ⟨l,hv_5,h⟩:=bsome h
 refine RW.one fokW (r_apD trivial rfl rfl rfl rfl (apz hv_5 e37) (apr hv_5 e37) (r_end ?_))
 refine Au 1 (sT [(2,.own 0 (List.map e37 l).length)] [(0,.row 37 2 (List.map e37 l))] 1 0) ?_
 refine RW.nil (hQ_4 _ ?_)
 obtain rfl:=Option.some.inj h
 exact rT hR_0 (.cons (.tmp rfl) .nil)
def g31_21 (x:HarnessBook) (r0_K4:HarnessBook) (r0_bald4:(List Int)) (mf1:List (Harness_want×Int)) (v:Int) (p:Span):Int→Int→Option Int:=fun v1 worst=>(g85 x.Stock).bind fun r0=>(ixL r0 v).bind fun p1=>(g84 (HarnessBook.mk r0_K4.Hair r0_K4.Needs (setL r0 v (Span.mk (wr (p.Low+v1)) (wr (p.Low+v1)))) r0_K4.Pack r0_K4.Bad) r0_bald4 mf1).bind fun r0_2_1=>some (max worst r0_2_1)
def g31_15 (x:HarnessBook) (r0_K4:HarnessBook) (r0_bald4:(List Int)) (mf1:List (Harness_want×Int)):Int→Span→(Int×Int)→Option (Int×Int):=fun v p (best,least)=>(forS (g31_21 x r0_K4 r0_bald4 mf1 v p) ((((wr ((wr (p.High - p.Low))+1)):Int) - 0).toNat) 0 0).bind fun worst=>bif ((decide (best<0))||(decide (worst<least))) then (some (v,worst)) else (some (best,least))
def g31 (x:HarnessBook):Option (Int×Int):=(g59 x true).bind fun r_35=>match r_35 with | .next (r0_K3,r0_bald3,r1_1)=>(must (decide (r1_1≠0))).bind fun _=>some (0,r1_1) | .brk (r0_K4,r0_bald4,mf1,r1_2)=>bif (decide (r1_2≠0)) then (some (0,r1_2)) else ((g84 r0_K4 r0_bald4 mf1).bind fun r0_2=>bif (decide (r0_2=0)) then (some (0,4)) else ((eachS (g31_15 x r0_K4 r0_bald4 mf1) x.Stock 0 ((-1),0)).bind fun (best,least)=>some (best,0)))
theorem k31 (x:HarnessBook) (r:Int×Int) (h:g31 x=some r):SCall Tryd.prog Gs 31 [.agg (cv29 x)] [] 0 Fr.emp (match r with | (r0_5,r1_5)=>.tup [jI r0_5,jI r1_5]) [] 0 Fr.emp:=by
 unfold g31 at h
 refine SCall.mkK Tryd.func31 c31 rfl rfl (by kernel_rfl) (fun Q_0 hR_0 hN_0=>?_)
 refine Sa (sT [pR 1 0] [(0,.var 29 (cv29 x))] 1 0) ?_
 refine AW.srwK (fun Q_1 hQ_1=>?_)
 refine Au 1 (sT [pR 1 0,(14,.agg (cv29 x))] [(0,.var 29 (cv29 x))] 1 0) ?_
 obtain ⟨r_35,hx_2,h⟩:=bsome h
 rcases r_35 with (⟨r0_K3,r0_bald3,r1_1⟩ | (⟨r0_K4,r0_bald4,mf1,r1_2⟩))
 ·refine rC (k59 x true _ hx_2) ?_
  obtain ⟨_,hv_3,h⟩:=bsome h
  have hf_4:=must_ok hv_3
  refine Au 6 (sT [pR 1 0,pR 4 1,(5,jI r1_1)] [(1,.var 74 (catV (cv29 r0_K3) [.d (q1 r0_bald3),.d (.nilMap)])),(0,.var 29 (cv29 x))] 2 0) ?_
  refine RW.nil (hQ_1 _ ?_)
  refine AW.seqK (fun K_5 hK_5=>?_)
  refine Sa (sT [pR 1 0,pR 4 1,(5,jI r1_1),(19,.d (.bool (decide (r1_1≠0))))] [(1,.var 74 (catV (cv29 r0_K3) [.d (q1 r0_bald3),.d (.nilMap)])),(0,.var 29 (cv29 x))] 2 0) ?_
  refine AW.cond rfl (fun hb_6=>?_) (fun hb_6=>False.elim (by rw [hf_4] at hb_6;cases hb_6))
  refine Sa (sT [(2,jI 0),(3,jI r1_1)] [] 2 0) ?_
  obtain rfl:=Option.some.inj h
  exact rT hR_0 (.cons (.tmp rfl) (.cons (.tmp rfl) .nil))
 ·refine rC (k59 x true _ hx_2) ?_
  refine Au 6 (sT [pR 1 0,pR 4 1,(5,jI r1_2)] [(1,.var 74 (kbm r0_K4 r0_bald4 mf1)),(0,.var 29 (cv29 x))] 2 0) ?_
  refine RW.nil (hQ_1 _ ?_)
  refine AW.seqK (fun K_7 hK_7=>?_)
  refine Sa (sT [pR 1 0,pR 4 1,(5,jI r1_2),(19,.d (.bool (decide (r1_2≠0))))] [(1,.var 74 (kbm r0_K4 r0_bald4 mf1)),(0,.var 29 (cv29 x))] 2 0) ?_
  refine AW.cond rfl (fun hb_8=>?_) (fun hb_8=>?_)
  ·have h:=ifT hb_8 h
   refine Sa (sT [(2,jI 0),(3,jI r1_2)] [] 2 0) ?_
   obtain rfl:=Option.some.inj h
   exact rT hR_0 (.cons (.tmp rfl) (.cons (.tmp rfl) .nil))
  ·have h:=ifF hb_8 h
   refine AW.skip (hK_7 _ ?_)
   refine AW.seqK fun K_9 hK_9=>AW.srwK fun Q_10 hQ_10=>?_
   refine Au 1 (sT [pR 1 0,pR 4 1,(21,.agg (kbm r0_K4 r0_bald4 mf1))] [(1,.var 74 (kbm r0_K4 r0_bald4 mf1)),(0,.var 29 (cv29 x))] 2 0) ?_
   obtain ⟨r0_2,hx_11,h⟩:=bsome h
   refine rC (k84 r0_K4 r0_bald4 mf1 _ hx_11) ?_
   refine Au 1 (sT [pR 1 0,pR 4 1,(23,.d (.bool (decide (r0_2=0))))] [(1,.var 74 (kbm r0_K4 r0_bald4 mf1)),(0,.var 29 (cv29 x))] 2 0) ?_
   refine RW.nil (hQ_10 _ ?_)
   refine AW.cond rfl (fun hb_12=>?_) (fun hb_12=>?_)
   ·have h:=ifT hb_12 h
    refine Sa (sT [(2,jI 0),(3,jI 4)] [] 2 0) ?_
    obtain rfl:=Option.some.inj h
    exact rT hR_0 (.cons (.tmp rfl) (.cons (.tmp rfl) .nil))
   ·have h:=ifF hb_12 h
    refine AW.skip (hK_9 _ ?_)
    refine Sa (sT [pR 1 0,pR 4 1,(6,jI (-1)),(7,jI 0)] [(1,.var 74 (kbm r0_K4 r0_bald4 mf1)),(0,.var 29 (cv29 x))] 2 0) ?_
    refine AW.seqK fun K_13 hK_13=>AW.srwK fun Q_14 hQ_14=>?_
    refine Au 2 (sT [pR 1 0,pR 4 1,(6,jI (-1)),(7,jI 0),(25,.d (.sl 2 (List.map e37 x.Stock)))] [(1,.var 74 (kbm r0_K4 r0_bald4 mf1)),(0,.var 29 (cv29 x))] 2 0) ?_
    refine rL rfl ?_
    refine Au 1 (sT [pR 1 0,pR 4 1,(6,jI (-1)),(7,jI 0),(25,.d (.sl 2 (List.map e37 x.Stock))),(26,jI (x.Stock.length:Int)),(27,jI 0)] [(1,.var 74 (kbm r0_K4 r0_bald4 mf1)),(0,.var 29 (cv29 x))] 2 0) ?_
    refine RW.nil (hQ_14 _ ?_)
    refine AW.block ?_
    refine AW.sln (t:=25) rfl (fun hN_15=>?_)
    rw [List.length_map] at hN_15
    obtain ⟨out_15,hx_15,h⟩:=bsome h
    refine AW.evSK (fun (v:Int) (⟨best,least⟩:Int×Int)=>(sT [pR 1 0,pR 4 1,(6,jI best),(7,jI least),(25,.d (.sl 2 (List.map e37 x.Stock))),(26,jI (x.Stock.length:Int)),(27,jI v)] [(1,.var 74 (kbm r0_K4 r0_bald4 mf1)),(0,.var 29 (cv29 x))] 2 0)) (g31_15 x r0_K4 r0_bald4 mf1) hx_15 (Can.kp (by kernel_rfl)) (fun v p s_15 hi_15 hl_15 hp_15 c_15 h K_15 hK_15=>?_) (fun v s_15 hi_15 hl_15 hout=>?_)
    ·obtain ⟨best,least⟩:=s_15
     unfold g31_15 at h
     refine Sa (sT [pR 1 0,pR 4 1,(6,jI best),(7,jI least),(25,.d (.sl 2 (List.map e37 x.Stock))),(26,jI (x.Stock.length:Int)),(27,jI v),(28,.d (.bool (decide (v<(x.Stock.length:Int)))))] [(1,.var 74 (kbm r0_K4 r0_bald4 mf1)),(0,.var 29 (cv29 x))] 2 0) ?_
     refine AW.seqK (fun K_16 hK_16=>?_)
     refine AW.cond rfl (fun hb_17=>?_) (fun hb_17=>False.elim (by have:=of_decide_eq_false hb_17;omega))
     refine AW.skip (hK_16 _ ?_)
     refine AW.seqK (fun K_18 hK_18=>?_)
     refine AW.block ?_
     refine AW.srwK (fun Q_19 hQ_19=>?_)
     refine Au 1 (sT [pR 1 0,pR 4 1,(6,jI best),(7,jI least),(25,.d (.sl 2 (List.map e37 x.Stock))),(26,jI (x.Stock.length:Int)),(27,jI v),(29,jI v)] [(1,.var 74 (kbm r0_K4 r0_bald4 mf1)),(0,.var 29 (cv29 x))] 2 0) ?_
     refine RW.one fokW (r_iaD trivial rfl rfl hi_15 (row:=e37 p) (mapget hp_15) (r_end ?_))
     refine Au 4 (sT [pR 1 0,pR 4 1,(6,jI best),(7,jI least),(8,jI v),pR 9 2,(25,.d (.sl 2 (List.map e37 x.Stock))),(26,jI (x.Stock.length:Int)),(27,jI v)] [(2,.var 37 [jI p.Low,jI p.High]),(1,.var 74 (kbm r0_K4 r0_bald4 mf1)),(0,.var 29 (cv29 x))] 3 0) ?_
     refine RW.nil (hQ_19 _ ?_)
     refine Sa (sT [pR 1 0,pR 4 1,(6,jI best),(7,jI least),(8,jI v),pR 9 2,(10,jI 0),(25,.d (.sl 2 (List.map e37 x.Stock))),(26,jI (x.Stock.length:Int)),(27,jI v)] [(2,.var 37 [jI p.Low,jI p.High]),(1,.var 74 (kbm r0_K4 r0_bald4 mf1)),(0,.var 29 (cv29 x))] 3 0) ?_
     refine AW.seqK (fun K_20 hK_20=>?_)
     refine Sa (sT [pR 1 0,pR 4 1,(6,jI best),(7,jI least),(8,jI v),pR 9 2,(10,jI 0),(25,.d (.sl 2 (List.map e37 x.Stock))),(26,jI (x.Stock.length:Int)),(27,jI v),(37,jI (wr ((wr (p.High - p.Low))+1))),(38,jI 0)] [(2,.var 37 [jI p.Low,jI p.High]),(1,.var 74 (kbm r0_K4 r0_bald4 mf1)),(0,.var 29 (cv29 x))] 3 0) ?_
     refine AW.block ?_
     have hN_21:(wr ((wr (p.High - p.Low))+1))≤9223372036854775807:=(wr_range _).2
     obtain ⟨out_21,hx_21,h⟩:=bsome h
     refine AW.lpSK (fun (v1:Int) (worst:Int)=>(sT [pR 1 0,pR 4 1,(6,jI best),(7,jI least),(8,jI v),pR 9 2,(10,jI worst),(25,.d (.sl 2 (List.map e37 x.Stock))),(26,jI (x.Stock.length:Int)),(27,jI v),(37,jI (wr ((wr (p.High - p.Low))+1))),(38,jI v1)] [(2,.var 37 [jI p.Low,jI p.High]),(1,.var 74 (kbm r0_K4 r0_bald4 mf1)),(0,.var 29 (cv29 x))] 3 0)) (g31_21 x r0_K4 r0_bald4 mf1 v p) ((wr ((wr (p.High - p.Low))+1))) hx_21 (Can.kp (by kernel_rfl)) (fun v1 worst hi_21 hl_21 c_21 h K_21 hK_21=>?_) (fun v1 worst hi_21 hl_21 hout=>?_)
     ·unfold g31_21 at h
      refine Sa (sT [pR 1 0,pR 4 1,(6,jI best),(7,jI least),(8,jI v),pR 9 2,(10,jI worst),(25,.d (.sl 2 (List.map e37 x.Stock))),(26,jI (x.Stock.length:Int)),(27,jI v),(37,jI (wr ((wr (p.High - p.Low))+1))),(38,jI v1),(39,.d (.bool (decide (v1<(wr ((wr (p.High - p.Low))+1))))))] [(2,.var 37 [jI p.Low,jI p.High]),(1,.var 74 (kbm r0_K4 r0_bald4 mf1)),(0,.var 29 (cv29 x))] 3 0) ?_
      refine AW.seqK (fun K_22 hK_22=>?_)
      refine AW.cond rfl (fun hb_23=>?_) (fun hb_23=>False.elim (by have:=of_decide_eq_false hb_23;omega))
      refine AW.skip (hK_22 _ ?_)
      refine AW.seqK (fun K_24 hK_24=>?_)
      refine AW.block ?_
      refine Sa (sT [pR 1 0,pR 4 1,(6,jI best),(7,jI least),(8,jI v),pR 9 2,(10,jI worst),(11,jI v1),(25,.d (.sl 2 (List.map e37 x.Stock))),(26,jI (x.Stock.length:Int)),(27,jI v),(37,jI (wr ((wr (p.High - p.Low))+1))),(38,jI v1)] [(2,.var 37 [jI p.Low,jI p.High]),(1,.var 74 (kbm r0_K4 r0_bald4 mf1)),(0,.var 29 (cv29 x))] 3 0) ?_
      refine Sa (sT [pR 1 0,pR 4 1,(6,jI best),(7,jI least),(8,jI v),pR 9 2,(10,jI worst),(11,jI v1),pR 12 3,(25,.d (.sl 2 (List.map e37 x.Stock))),(26,jI (x.Stock.length:Int)),(27,jI v),(37,jI (wr ((wr (p.High - p.Low))+1))),(38,jI v1)] [(3,.var 74 (kbm r0_K4 r0_bald4 mf1)),(2,.var 37 [jI p.Low,jI p.High]),(1,.var 74 (kbm r0_K4 r0_bald4 mf1)),(0,.var 29 (cv29 x))] 4 0) ?_
      refine AW.srwK (fun Q_25 hQ_25=>?_)
      refine Au 2 (sT [pR 1 0,pR 4 1,(6,jI best),(7,jI least),(8,jI v),pR 9 2,(10,jI worst),(11,jI v1),pR 12 3,(25,.d (.sl 2 (List.map e37 x.Stock))),(26,jI (x.Stock.length:Int)),(27,jI v),(37,jI (wr ((wr (p.High - p.Low))+1))),(38,jI v1),(43,.d (.sl 2 (List.map e37 x.Stock)))] [(3,.var 74 (kbm r0_K4 r0_bald4 mf1)),(2,.var 37 [jI p.Low,jI p.High]),(1,.var 74 (kbm r0_K4 r0_bald4 mf1)),(0,.var 29 (cv29 x))] 4 0) ?_
      obtain ⟨r0,hx_26,h⟩:=bsome h
      refine RW.one fokW (r_callS (zr:=[]) [] trivial rfl (k85 x.Stock _ hx_26) trivial rfl rfl ⟨.refl _,trivial⟩ rfl rfl rfl (r_end ?_))
      refine Au 3 (sT [pR 1 0,pR 4 1,(6,jI best),(7,jI least),(8,jI v),pR 9 2,(10,jI worst),(11,jI v1),pR 12 3,(25,.d (.sl 2 (List.map e37 x.Stock))),(26,jI (x.Stock.length:Int)),(27,jI v),(37,jI (wr ((wr (p.High - p.Low))+1))),(38,jI v1)] [(3,.var 74 (catV (cv25 r0_K4.Hair) [.d (.sl 1 (List.map e30 r0_K4.Needs)),.own 4 (List.map e37 r0).length,jI r0_K4.Pack,jI r0_K4.Bad,.d (q1 r0_bald4),.fmp (List.map m126_3 mf1)])),(4,.row 37 2 (List.map e37 r0)),(2,.var 37 [jI p.Low,jI p.High]),(1,.var 74 (kbm r0_K4 r0_bald4 mf1)),(0,.var 29 (cv29 x))] 5 0) ?_
      refine RW.nil (hQ_25 _ ?_)
      refine AW.srwK (fun Q_27 hQ_27=>?_)
      refine Au 13 (sT [pR 1 0,pR 4 1,(6,jI best),(7,jI least),(8,jI v),pR 9 2,(10,jI worst),pR 12 3,(25,.d (.sl 2 (List.map e37 x.Stock))),(26,jI (x.Stock.length:Int)),(27,jI v),(37,jI (wr ((wr (p.High - p.Low))+1))),(38,jI v1),(49,.own 4 (List.map e37 r0).length),(50,jI v),(59,.agg [jI (wr (p.Low+v1)),jI (wr (p.Low+v1))])] [(3,.var 74 (catV (cv25 r0_K4.Hair) [.d (.sl 1 (List.map e30 r0_K4.Needs)),.own 4 (List.map e37 r0).length,jI r0_K4.Pack,jI r0_K4.Bad,.d (q1 r0_bald4),.fmp (List.map m126_3 mf1)])),(4,.row 37 2 (List.map e37 r0)),(2,.var 37 [jI p.Low,jI p.High]),(1,.var 74 (kbm r0_K4 r0_bald4 mf1)),(0,.var 29 (cv29 x))] 5 0) ?_
      obtain ⟨p1,hv_28,h⟩:=bsome h
      refine RW.one fokW (r_iaO trivial rfl rfl rfl (ixL_ok hv_28).1 (ix_lt (ixL_ok hv_28).2) rfl (r_end ?_))
      refine RW.one fokW (r_stE trivial rfl rfl rfl rfl (mapget (f:=e37) (ixL_ok hv_28).2) rfl rfl rfl (Nat.le_of_ble_eq_true rfl) (stz (f:=e37) (x:=(Span.mk (wr (p.Low+v1)) (wr (p.Low+v1)))) rfl) (r_end ?_))
      rw [lenset (f:=e37) (xs:=r0) (i:=v) (x:=(Span.mk (wr (p.Low+v1)) (wr (p.Low+v1))))]
      refine RW.nil (hQ_27 _ ?_)
      refine AW.rw ?_
      refine Au 2 (sT [pR 1 0,pR 4 1,(6,jI best),(7,jI least),(8,jI v),pR 9 2,(25,.d (.sl 2 (List.map e37 x.Stock))),(26,jI (x.Stock.length:Int)),(27,jI v),(37,jI (wr ((wr (p.High - p.Low))+1))),(38,jI v1),(61,jI worst),(62,.agg [.d (.sl 4 (List.map e107 r0_K4.Hair.Hanks)),.d (.sl 3 (List.map e112 r0_K4.Hair.Horses)),jI r0_K4.Hair.Dark,jI r0_K4.Hair.Near,jI r0_K4.Hair.Match,.d (.sl 1 (List.map e30 r0_K4.Needs)),.own 4 (List.map e37 (setL r0 v (Span.mk (wr (p.Low+v1)) (wr (p.Low+v1))))).length,jI r0_K4.Pack,jI r0_K4.Bad,.d (q1 r0_bald4),.fmp (List.map m126_3 mf1)])] [(4,.row 37 2 (List.map e37 (setL r0 v (Span.mk (wr (p.Low+v1)) (wr (p.Low+v1)))))),(2,.var 37 [jI p.Low,jI p.High]),(1,.var 74 (kbm r0_K4 r0_bald4 mf1)),(0,.var 29 (cv29 x))] 5 0) ?_
      obtain ⟨r0_2_1,hx_30,h⟩:=bsome h
      refine RW.one fokW (r_callF (rs:=[(4,.row 37 2 (List.map e37 (setL r0 v (Span.mk (wr (p.Low+v1)) (wr (p.Low+v1))))))]) trivial rfl (k84 (HarnessBook.mk r0_K4.Hair r0_K4.Needs (setL r0 v (Span.mk (wr (p.Low+v1)) (wr (p.Low+v1)))) r0_K4.Pack r0_K4.Bad) r0_bald4 mf1 _ hx_30) ⟨rfl,trivial⟩ ⟨(Frz.agg_of ⟨.refl _,.refl _,.refl _,.refl _,.refl _,.refl _,(.own rfl rfl),.refl _,.refl _,.refl _,.refl _,trivial⟩),trivial⟩ rfl rfl rfl (r_end ?_))
      refine Au 2 (sT [pR 1 0,pR 4 1,(6,jI best),(7,jI least),(8,jI v),pR 9 2,(10,jI (max worst r0_2_1)),(25,.d (.sl 2 (List.map e37 x.Stock))),(26,jI (x.Stock.length:Int)),(27,jI v),(37,jI (wr ((wr (p.High - p.Low))+1))),(38,jI v1)] [(2,.var 37 [jI p.Low,jI p.High]),(1,.var 74 (kbm r0_K4 r0_bald4 mf1)),(0,.var 29 (cv29 x))] 5 0) ?_
      refine RW.nil ?_
      refine hK_24 _ ?_
      refine Ra (sT [pR 1 0,pR 4 1,(6,jI best),(7,jI least),(8,jI v),pR 9 2,(10,jI (max worst r0_2_1)),(25,.d (.sl 2 (List.map e37 x.Stock))),(26,jI (x.Stock.length:Int)),(27,jI v),(37,jI (wr ((wr (p.High - p.Low))+1))),(38,jI (wr (v1+1)))] [(2,.var 37 [jI p.Low,jI p.High]),(1,.var 74 (kbm r0_K4 r0_bald4 mf1)),(0,.var 29 (cv29 x))] 5 0) ?_
      obtain rfl:=Option.some.inj h
      have ew:wr (v1+1)=v1+1:=inext (N:=(wr ((wr (p.High - p.Low))+1))) (by omega) (by omega) (by omega)
      rw [ew]
      exact hK_21 _ (Can.kp (by kernel_rfl))
     ·subst hout
      refine Sa (sT [pR 1 0,pR 4 1,(6,jI best),(7,jI least),(8,jI v),pR 9 2,(10,jI worst),(25,.d (.sl 2 (List.map e37 x.Stock))),(26,jI (x.Stock.length:Int)),(27,jI v),(37,jI (wr ((wr (p.High - p.Low))+1))),(38,jI v1),(39,.d (.bool (decide (v1<(wr ((wr (p.High - p.Low))+1))))))] [(2,.var 37 [jI p.Low,jI p.High]),(1,.var 74 (kbm r0_K4 r0_bald4 mf1)),(0,.var 29 (cv29 x))] 3 0) ?_
      refine AW.seqK (fun K_31 hK_31=>?_)
      refine AW.cond rfl (fun hb_32=>False.elim (by have:=of_decide_eq_true hb_32;omega)) (fun hb_32=>?_)
      refine AW.exit ?_
      refine hK_20 _ ?_
      refine AW.sa fokW [68] (sT [pR 1 0,pR 4 1,(6,jI best),(7,jI least),(8,jI v),(10,jI worst),(25,.d (.sl 2 (List.map e37 x.Stock))),(26,jI (x.Stock.length:Int)),(27,jI v),(72,.d (.bool ((decide (best<0))||(decide (worst<least)))))] [(1,.var 74 (kbm r0_K4 r0_bald4 mf1)),(0,.var 29 (cv29 x))] 3 0) (by kernel_rfl) ?_
      refine AW.cond rfl (fun hb_33=>?_) (fun hb_33=>?_)
      ·have h:=ifT hb_33 h
       refine Ra (sT [pR 1 0,pR 4 1,(6,jI v),(7,jI worst),(25,.d (.sl 2 (List.map e37 x.Stock))),(26,jI (x.Stock.length:Int)),(27,jI v)] [(1,.var 74 (kbm r0_K4 r0_bald4 mf1)),(0,.var 29 (cv29 x))] 3 0) ?_
       refine hK_18 _ ?_
       refine Ra (sT [pR 1 0,pR 4 1,(6,jI v),(7,jI worst),(25,.d (.sl 2 (List.map e37 x.Stock))),(26,jI (x.Stock.length:Int)),(27,jI (wr (v+1)))] [(1,.var 74 (kbm r0_K4 r0_bald4 mf1)),(0,.var 29 (cv29 x))] 3 0) ?_
       obtain rfl:=Option.some.inj h
       have ew:wr (v+1)=v+1:=inext (N:=(x.Stock.length:Int)) (by omega) (by omega) (by omega)
       rw [ew]
       exact hK_15 _ (Can.kp (by kernel_rfl))
      ·have h:=ifF hb_33 h
       refine AW.skip (hK_18 _ ?_)
       refine Ra (sT [pR 1 0,pR 4 1,(6,jI best),(7,jI least),(25,.d (.sl 2 (List.map e37 x.Stock))),(26,jI (x.Stock.length:Int)),(27,jI (wr (v+1)))] [(1,.var 74 (kbm r0_K4 r0_bald4 mf1)),(0,.var 29 (cv29 x))] 3 0) ?_
       obtain rfl:=Option.some.inj h
       have ew:wr (v+1)=v+1:=inext (N:=(x.Stock.length:Int)) (by omega) (by omega) (by omega)
       rw [ew]
       exact hK_15 _ (Can.kp (by kernel_rfl))
    ·obtain ⟨best,least⟩:=s_15
     subst hout
     refine Sa (sT [pR 1 0,pR 4 1,(6,jI best),(7,jI least),(25,.d (.sl 2 (List.map e37 x.Stock))),(26,jI (x.Stock.length:Int)),(27,jI v),(28,.d (.bool (decide (v<(x.Stock.length:Int)))))] [(1,.var 74 (kbm r0_K4 r0_bald4 mf1)),(0,.var 29 (cv29 x))] 2 0) ?_
     refine AW.seqK (fun K_34 hK_34=>?_)
     refine AW.cond rfl (fun hb_35=>False.elim (by have:=of_decide_eq_true hb_35;omega)) (fun hb_35=>?_)
     refine AW.exit ?_
     refine hK_13 _ ?_
     refine Sa (sT [(2,jI best),(3,jI 0)] [] 2 0) ?_
     obtain rfl:=Option.some.inj h
     exact rT hR_0 (.cons (.tmp rfl) (.cons (.tmp rfl) .nil))
end Go.Proofs.Tr
namespace Go.Proofs.Tr
open Go Go.Abs Go.Proofs
def g88_12 (rec_:(List Int)→HarnessBook→HarnessBook→(List Int)→(List (Harness_want×Int))→Int→(List Int)→Option (Int×(List Int))) (order:(List Int)) (o0:HarnessBook) (o1_K:HarnessBook) (o1_bald:(List Int)) (mf:List (Harness_want×Int)):Int→(List Int)→(Int×(List Int))→Option (Int×(List Int)):=fun v p (v1,v2)=>(g89 order v).bind fun r0_1=>bif (!r0_1) then ((slcL order 0 (order.length:Int)).bind fun l=>(appL 8 l [v]).bind fun l1=>(rec_ l1 o0 o1_K o1_bald mf v1 v2).bind fun (o2_4_1,o3_4_1)=>some (o2_4_1,o3_4_1)) else (some (v1,v2))
def g88:Nat→(List Int)→HarnessBook→HarnessBook→(List Int)→(List (Harness_want×Int))→Int→(List Int)→Option (Int×(List Int))
 | 0,_,_,_,_,_,_,_=>none
 | n_+1,order,o0,o1_K,o1_bald,mf,o2,o3=>bif (decide ((order.length:Int)=(o0.Needs.length:Int))) then ((g60 o1_K o1_bald mf order).bind fun (surely,perhaps)=>(g62 o1_K o1_bald mf surely).bind fun r0=>bif (decide (o2<(r0.length:Int))) then (some ((r0.length:Int),order)) else (some (o2,o3))) else ((eachS (g88_12 (g88 n_) order o0 o1_K o1_bald mf) o0.Needs 0 (o2,o3)).bind fun (v1,v2)=>some (v1,v2))
def y26 (o0:HarnessBook) (o1_K:HarnessBook) (o1_bald:(List Int)) (mf:List (Harness_want×Int)) (o2:Int) (o3:(List Int)):List (Nat×Blk):=[(0,.var 29 (cv29 o0)),(1,.var 74 (kbm o1_K o1_bald mf)),(2,.var 3 [jI o2]),(3,.var 30 [.d (q1 o3)]),(4,.var 102 [.clo 88 [] [.ptr 0 0,.ptr 1 0,.ptr 2 0,.ptr 3 0,.ptr 4 0]])]
def y27 (o0:HarnessBook) (o1_K:HarnessBook) (o1_bald:(List Int)) (mf:List (Harness_want×Int)) (v1:Int) (v2:List Int):List (Nat×Blk):=[(0,.var 29 (cv29 o0)),(1,.var 74 (kbm o1_K o1_bald mf)),(2,.var 3 [jI v1]),(3,.var 30 [.d (q1 v2)]),(4,.var 102 [.clo 88 [] [.ptr 0 0,.ptr 1 0,.ptr 2 0,.ptr 3 0,.ptr 4 0]])]
theorem k88:∀ (n_:Nat) (order:(List Int)) (o0:HarnessBook) (o1_K:HarnessBook) (o1_bald:(List Int)) (mf:List (Harness_want×Int)) (o2:Int) (o3:(List Int)) (r:Int×(List Int)) (h:g88 n_ order o0 o1_K o1_bald mf o2 o3=some r),SCall Tryd.prog Gs 88 [.d (q1 order),.ptr 0 0,.ptr 1 0,.ptr 2 0,.ptr 3 0,.ptr 4 0] [(0,.var 29 (cv29 o0)),(1,.var 74 (kbm o1_K o1_bald mf)),(2,.var 3 [jI o2]),(3,.var 30 [.d (q1 o3)]),(4,.var 102 [.clo 88 [] [.ptr 0 0,.ptr 1 0,.ptr 2 0,.ptr 3 0,.ptr 4 0]])] 5 Fr.emp (match r with | (o2_4,o3_4)=>.tup []) (match r with | (o2_4,o3_4)=>[(0,.var 29 (cv29 o0)),(1,.var 74 (kbm o1_K o1_bald mf)),(2,.var 3 [jI o2_4]),(3,.var 30 [.d (q1 o3_4)]),(4,.var 102 [.clo 88 [] [.ptr 0 0,.ptr 1 0,.ptr 2 0,.ptr 3 0,.ptr 4 0]])]) 5 Fr.emp:=by
 intro n_
 induction n_ with
 | zero=>intro order o0 o1_K o1_bald mf o2 o3 r h;cases h
 | succ n_ ih=>
  intro order o0 o1_K o1_bald mf o2 o3 r h
  rw [g88] at h
  refine SCall.mkK Tryd.func88 c88 rfl rfl (by kernel_rfl) (fun Q_0 hR_0 hN_0=>?_)
  refine AW.srwK (fun Q_1 hQ_1=>?_)
  refine Au 1 (sT [(0,.d (q1 order)),pR 1 0,pR 2 1,pR 3 2,pR 4 3,pR 5 4,(12,.d (q1 order))] (y26 o0 o1_K o1_bald mf o2 o3) 5 5) ?_
  refine rL rfl ?_
  refine Au 1 (sT [(0,.d (q1 order)),pR 1 0,pR 2 1,pR 3 2,pR 4 3,pR 5 4,(7,jI (order.length:Int))] (y26 o0 o1_K o1_bald mf o2 o3) 5 5) ?_
  refine RW.nil (hQ_1 _ ?_)
  refine AW.seqK fun K_2 hK_2=>AW.srwK fun Q_3 hQ_3=>?_
  refine Au 3 (sT [(0,.d (q1 order)),pR 1 0,pR 2 1,pR 3 2,pR 4 3,pR 5 4,(7,jI (order.length:Int)),(14,jI (order.length:Int)),(16,.d (.sl 1 (List.map e30 o0.Needs)))] (y26 o0 o1_K o1_bald mf o2 o3) 5 5) ?_
  refine rL rfl ?_
  refine Au 1 (sT [(0,.d (q1 order)),pR 1 0,pR 2 1,pR 3 2,pR 4 3,pR 5 4,(7,jI (order.length:Int)),(18,.d (.bool (decide ((order.length:Int)=(o0.Needs.length:Int)))))] (y26 o0 o1_K o1_bald mf o2 o3) 5 5) ?_
  refine RW.nil (hQ_3 _ ?_)
  refine AW.cond rfl (fun hb_4=>?_) (fun hb_4=>?_)
  ·have h:=ifT hb_4 h
   refine AW.srwK (fun Q_5 hQ_5=>?_)
   refine Au 2 (sT [(0,.d (q1 order)),pR 2 1,pR 3 2,pR 4 3,(20,.agg (kbm o1_K o1_bald mf)),(21,.d (q1 order))] (y26 o0 o1_K o1_bald mf o2 o3) 5 5) ?_
   obtain ⟨⟨surely,perhaps⟩,hx_6,h⟩:=bsome h
   refine rC (k60 o1_K o1_bald mf order _ hx_6) ?_
   refine Au 5 (sT [(0,.d (q1 order)),pR 2 1,pR 3 2,pR 4 3,(8,jI surely)] (y26 o0 o1_K o1_bald mf o2 o3) 5 5) ?_
   refine RW.nil (hQ_5 _ ?_)
   refine AW.seqK fun K_7 hK_7=>AW.srwK fun Q_8 hQ_8=>?_
   refine Au 2 (sT [(0,.d (q1 order)),pR 3 2,pR 4 3,(25,.agg (kbm o1_K o1_bald mf)),(26,jI surely)] (y26 o0 o1_K o1_bald mf o2 o3) 5 5) ?_
   obtain ⟨r0,hx_9,h⟩:=bsome h
   refine rC (k62 o1_K o1_bald mf surely _ hx_9) ?_
   refine rL rfl ?_
   refine Au 1 (sT [(0,.d (q1 order)),pR 3 2,pR 4 3,(10,jI (r0.length:Int))] (y26 o0 o1_K o1_bald mf o2 o3) 5 5) ?_
   refine RW.nil (hQ_8 _ ?_)
   refine Sa (sT [(0,.d (q1 order)),pR 3 2,pR 4 3,(10,jI (r0.length:Int)),(31,.d (.bool (decide (o2<(r0.length:Int)))))] (y26 o0 o1_K o1_bald mf o2 o3) 5 5) ?_
   refine AW.cond rfl (fun hb_10=>?_) (fun hb_10=>?_)
   ·have h:=ifT hb_10 h
    refine Ra (sT [] [(2,.var 3 [jI (r0.length:Int)]),(3,.var 30 [.d (q1 order)]),(0,.var 29 (cv29 o0)),(1,.var 74 (kbm o1_K o1_bald mf)),(4,.var 102 [.clo 88 [] [.ptr 0 0,.ptr 1 0,.ptr 2 0,.ptr 3 0,.ptr 4 0]])] 5 5) ?_
    refine hK_7 _ ?_
    obtain rfl:=Option.some.inj h
    exact rT hR_0 .nil
   ·have h:=ifF hb_10 h
    refine AW.skip (hK_7 _ ?_)
    obtain rfl:=Option.some.inj h
    exact rT hR_0 .nil
  ·have h:=ifF hb_4 h
   refine AW.skip (hK_2 _ ?_)
   refine AW.srwK (fun Q_11 hQ_11=>?_)
   refine Au 2 (sT [(0,.d (q1 order)),pR 5 4,(7,jI (order.length:Int)),(35,.d (.sl 1 (List.map e30 o0.Needs)))] (y26 o0 o1_K o1_bald mf o2 o3) 5 5) ?_
   refine rL rfl ?_
   refine Au 1 (sT [(0,.d (q1 order)),pR 5 4,(7,jI (order.length:Int)),(36,jI (o0.Needs.length:Int)),(37,jI 0)] (y26 o0 o1_K o1_bald mf o2 o3) 5 5) ?_
   refine RW.nil (hQ_11 _ ?_)
   refine AW.block ?_
   refine AW.slh (r:=0) (off:=5) rfl rfl (fun hN_12=>?_)
   rw [List.length_map] at hN_12
   obtain ⟨out_12,hx_12,h⟩:=bsome h
   refine AW.evSK (fun (v:Int) (⟨v1,v2⟩:Int×(List Int))=>(sT [(0,.d (q1 order)),pR 5 4,(7,jI (order.length:Int)),(36,jI (o0.Needs.length:Int)),(37,jI v)] (y27 o0 o1_K o1_bald mf v1 v2) 5 5)) (g88_12 (g88 n_) order o0 o1_K o1_bald mf) hx_12 (Can.kp (by kernel_rfl)) (fun v p s_12 hi_12 hl_12 hp_12 c_12 h K_12 hK_12=>?_) (fun v s_12 hi_12 hl_12 hout=>?_)
   ·obtain ⟨v1,v2⟩:=s_12
    unfold g88_12 at h
    refine Sa (sT [(0,.d (q1 order)),pR 5 4,(7,jI (order.length:Int)),(36,jI (o0.Needs.length:Int)),(37,jI v),(38,.d (.bool (decide (v<(o0.Needs.length:Int)))))] (y27 o0 o1_K o1_bald mf v1 v2) 5 5) ?_
    refine AW.seqK (fun K_13 hK_13=>?_)
    refine AW.cond rfl (fun hb_14=>?_) (fun hb_14=>False.elim (by have:=of_decide_eq_false hb_14;omega))
    refine AW.skip (hK_13 _ ?_)
    refine AW.seqK (fun K_15 hK_15=>?_)
    refine AW.block ?_
    refine Sa (sT [(0,.d (q1 order)),pR 5 4,(7,jI (order.length:Int)),(11,jI v),(36,jI (o0.Needs.length:Int)),(37,jI v)] (y27 o0 o1_K o1_bald mf v1 v2) 5 5) ?_
    refine AW.srwK (fun Q_16 hQ_16=>?_)
    refine Au 2 (sT [(0,.d (q1 order)),pR 5 4,(7,jI (order.length:Int)),(11,jI v),(36,jI (o0.Needs.length:Int)),(37,jI v),(40,.d (q1 order)),(41,jI v)] (y27 o0 o1_K o1_bald mf v1 v2) 5 5) ?_
    obtain ⟨r0_1,hx_17,h⟩:=bsome h
    refine rC (k89 order v _ hx_17) ?_
    refine Au 1 (sT [(0,.d (q1 order)),pR 5 4,(7,jI (order.length:Int)),(11,jI v),(36,jI (o0.Needs.length:Int)),(37,jI v),(43,.d (.bool (!r0_1)))] (y27 o0 o1_K o1_bald mf v1 v2) 5 5) ?_
    refine RW.nil (hQ_16 _ ?_)
    refine AW.cond rfl (fun hb_18=>?_) (fun hb_18=>?_)
    ·have h:=ifT hb_18 h
     refine AW.drw fokW ?_
     refine aX 4 (sT [(0,.d (q1 order)),pR 5 4,(7,jI (order.length:Int)),(11,jI v),(36,jI (o0.Needs.length:Int)),(37,jI v),(44,.clo 88 [] [.ptr 0 0,.ptr 1 0,.ptr 2 0,.ptr 3 0,.ptr 4 0]),(45,.d (q1 order)),(46,jI (order.length:Int)),(47,jI (order.length:Int))] (y27 o0 o1_K o1_bald mf v1 v2) 5 5) ?_
     obtain ⟨l,hv_20,h⟩:=bsome h
     refine r_slN trivial rfl rfl rfl DSl.d (slcL_ok hv_20).2.1 (by rw [List.length_map];exact (slcL_ok hv_20).2.2.1) rfl (slz hv_20 e3) ?_
     refine aX 2 (sT [(0,.d (q1 order)),pR 5 4,(7,jI (order.length:Int)),(36,jI (o0.Needs.length:Int)),(37,jI v),(44,.clo 88 [] [.ptr 0 0,.ptr 1 0,.ptr 2 0,.ptr 3 0,.ptr 4 0]),(48,.fsl 1 (List.map e3 l)),(50,.own 5 (List.map e3 [v]).length)] [(5,.row 3 1 (List.map e3 [v])),(0,.var 29 (cv29 o0)),(1,.var 74 (kbm o1_K o1_bald mf)),(2,.var 3 [jI v1]),(3,.var 30 [.d (q1 v2)]),(4,.var 102 [.clo 88 [] [.ptr 0 0,.ptr 1 0,.ptr 2 0,.ptr 3 0,.ptr 4 0]])] 6 5) ?_
     obtain ⟨l1,hv_21,h⟩:=bsome h
     refine r_apF trivial rfl rfl rfl rfl (by simp) (zs:=List.map e3 l1) (apz hv_21 e3) (apr hv_21 e3) ?_
     obtain ⟨⟨o2_4_1,o3_4_1⟩,hx_22,h⟩:=bsome h
     refine r_callvE (zr:=[(6,.row 3 1 (List.map e3 l1))]) [0,1,2,3,4] trivial rfl (.clo _ _ _) (by kernel_rfl) rfl (ih l1 o0 o1_K o1_bald mf v1 v2 _ hx_22) ⟨rfl,rfl,rfl,rfl,rfl,rfl,trivial⟩ rfl rfl ⟨(.own rfl rfl),.refl _,.refl _,.refl _,.refl _,.refl _,trivial⟩ rfl rfl rfl ?_
     refine Fi (sT [(0,.d (q1 order)),pR 5 4,(7,jI (order.length:Int)),(36,jI (o0.Needs.length:Int)),(37,jI v)] [(0,.var 29 (cv29 o0)),(1,.var 74 (kbm o1_K o1_bald mf)),(2,.var 3 [jI o2_4_1]),(3,.var 30 [.d (q1 o3_4_1)]),(4,.var 102 [.clo 88 [] [.ptr 0 0,.ptr 1 0,.ptr 2 0,.ptr 3 0,.ptr 4 0]])] 7 5) ?_
     refine hK_15 _ ?_
     refine Ra (sT [(0,.d (q1 order)),pR 5 4,(7,jI (order.length:Int)),(36,jI (o0.Needs.length:Int)),(37,jI (wr (v+1)))] [(0,.var 29 (cv29 o0)),(1,.var 74 (kbm o1_K o1_bald mf)),(2,.var 3 [jI o2_4_1]),(3,.var 30 [.d (q1 o3_4_1)]),(4,.var 102 [.clo 88 [] [.ptr 0 0,.ptr 1 0,.ptr 2 0,.ptr 3 0,.ptr 4 0]])] 7 5) ?_
     obtain rfl:=Option.some.inj h
     have ew:wr (v+1)=v+1:=inext (N:=(o0.Needs.length:Int)) (by omega) (by omega) (by omega)
     rw [ew]
     exact hK_12 _ (Can.kp (by kernel_rfl))
    ·have h:=ifF hb_18 h
     refine AW.skip (hK_15 _ ?_)
     refine Ra (sT [(0,.d (q1 order)),pR 5 4,(7,jI (order.length:Int)),(36,jI (o0.Needs.length:Int)),(37,jI (wr (v+1)))] (y27 o0 o1_K o1_bald mf v1 v2) 5 5) ?_
     obtain rfl:=Option.some.inj h
     have ew:wr (v+1)=v+1:=inext (N:=(o0.Needs.length:Int)) (by omega) (by omega) (by omega)
     rw [ew]
     exact hK_12 _ (Can.kp (by kernel_rfl))
   ·obtain ⟨v1,v2⟩:=s_12
    subst hout
    refine Sa (sT [(0,.d (q1 order)),pR 5 4,(7,jI (order.length:Int)),(36,jI (o0.Needs.length:Int)),(37,jI v),(38,.d (.bool (decide (v<(o0.Needs.length:Int)))))] (y27 o0 o1_K o1_bald mf v1 v2) 5 5) ?_
    refine AW.seqK (fun K_23 hK_23=>?_)
    refine AW.cond rfl (fun hb_24=>False.elim (by have:=of_decide_eq_true hb_24;omega)) (fun hb_24=>?_)
    refine AW.exit ?_
    obtain rfl:=Option.some.inj h
    exact hN_0 _ (retX .nil (.refl _) rfl (by kernel_rfl) (by kernel_rfl))
def g33 (x:HarnessBook):Option ((List Int)×Int):=(g59 x true).bind fun r_12=>match r_12 with | .next (r0_K3,r0_bald3,r1_1)=>(must (decide (r1_1≠0))).bind fun _=>some ([],r1_1) | .brk (r0_K4,r0_bald4,mf1,r1_2)=>bif (decide (r1_2≠0)) then (some ([],r1_2)) else ((g88 1000 ([]:(List Int)) x r0_K4 r0_bald4 mf1 (-1) ([]:List Int)).bind fun (o2_4,o3_4)=>(slcL o3_4 0 (o3_4.length:Int)).bind fun l=>some (l,0))
theorem k33 (x:HarnessBook) (r:(List Int)×Int) (h:g33 x=some r):SCall Tryd.prog Gs 33 [.agg (cv29 x)] [] 0 Fr.emp (match r with | (r0_2,r1_4)=>.tup [.d (q1 r0_2),jI r1_4]) [] 0 Fr.emp:=by
 unfold g33 at h
 refine SCall.mkK Tryd.func33 c33 rfl rfl (by kernel_rfl) (fun Q_0 hR_0 hN_0=>?_)
 refine Sa (sT [pR 1 0] [(0,.var 29 (cv29 x))] 1 0) ?_
 refine AW.srwK (fun Q_1 hQ_1=>?_)
 refine Au 1 (sT [pR 1 0,(10,.agg (cv29 x))] [(0,.var 29 (cv29 x))] 1 0) ?_
 obtain ⟨r_12,hx_2,h⟩:=bsome h
 rcases r_12 with (⟨r0_K3,r0_bald3,r1_1⟩ | (⟨r0_K4,r0_bald4,mf1,r1_2⟩))
 ·refine rC (k59 x true _ hx_2) ?_
  obtain ⟨_,hv_3,h⟩:=bsome h
  have hf_4:=must_ok hv_3
  refine Au 6 (sT [pR 1 0,pR 4 1,(5,jI r1_1)] [(1,.var 74 (catV (cv29 r0_K3) [.d (q1 r0_bald3),.d (.nilMap)])),(0,.var 29 (cv29 x))] 2 0) ?_
  refine RW.nil (hQ_1 _ ?_)
  refine AW.seqK (fun K_5 hK_5=>?_)
  refine Sa (sT [pR 1 0,pR 4 1,(5,jI r1_1),(15,.d (.bool (decide (r1_1≠0))))] [(1,.var 74 (catV (cv29 r0_K3) [.d (q1 r0_bald3),.d (.nilMap)])),(0,.var 29 (cv29 x))] 2 0) ?_
  refine AW.cond rfl (fun hb_6=>?_) (fun hb_6=>False.elim (by rw [hf_4] at hb_6;cases hb_6))
  refine Sa (sT [(2,.d (.nilSl)),(3,jI r1_1)] [] 2 0) ?_
  obtain rfl:=Option.some.inj h
  exact AW.ret (hR_0 _ (retX (.cons (.tmp rfl) (.cons (.tmp rfl) .nil)) (Frz.tup_of ⟨.nil 1,.refl _,trivial⟩) rfl (by kernel_rfl) (by kernel_rfl)))
 ·refine rC (k59 x true _ hx_2) ?_
  refine Au 6 (sT [pR 1 0,pR 4 1,(5,jI r1_2)] [(1,.var 74 (kbm r0_K4 r0_bald4 mf1)),(0,.var 29 (cv29 x))] 2 0) ?_
  refine RW.nil (hQ_1 _ ?_)
  refine AW.seqK (fun K_7 hK_7=>?_)
  refine Sa (sT [pR 1 0,pR 4 1,(5,jI r1_2),(15,.d (.bool (decide (r1_2≠0))))] [(1,.var 74 (kbm r0_K4 r0_bald4 mf1)),(0,.var 29 (cv29 x))] 2 0) ?_
  refine AW.cond rfl (fun hb_8=>?_) (fun hb_8=>?_)
  ·have h:=ifT hb_8 h
   refine Sa (sT [(2,.d (.nilSl)),(3,jI r1_2)] [] 2 0) ?_
   obtain rfl:=Option.some.inj h
   exact AW.ret (hR_0 _ (retX (.cons (.tmp rfl) (.cons (.tmp rfl) .nil)) (Frz.tup_of ⟨.nil 1,.refl _,trivial⟩) rfl (by kernel_rfl) (by kernel_rfl)))
  ·have h:=ifF hb_8 h
   refine AW.skip (hK_7 _ ?_)
   refine Sa (sT [pR 1 0,pR 4 1,pR 6 2] [(2,.var 30 [.d (.nilSl)]),(1,.var 74 (kbm r0_K4 r0_bald4 mf1)),(0,.var 29 (cv29 x))] 3 0) ?_
   refine Sa (sT [pR 1 0,pR 4 1,pR 6 2,pR 7 3] [(3,.var 3 [jI (-1)]),(2,.var 30 [.d (.nilSl)]),(1,.var 74 (kbm r0_K4 r0_bald4 mf1)),(0,.var 29 (cv29 x))] 4 0) ?_
   refine Sa (sT [pR 1 0,pR 4 1,pR 6 2,pR 7 3,pR 8 4] [(4,.var 102 [.d (.nilFn)]),(3,.var 3 [jI (-1)]),(2,.var 30 [.d (.nilSl)]),(1,.var 74 (kbm r0_K4 r0_bald4 mf1)),(0,.var 29 (cv29 x))] 5 0) ?_
   refine Sa (sT [pR 6 2,pR 8 4] [(4,.var 102 [.clo 88 [] [.ptr 0 0,.ptr 1 0,.ptr 3 0,.ptr 2 0,.ptr 4 0]]),(3,.var 3 [jI (-1)]),(2,.var 30 [.d (.nilSl)]),(1,.var 74 (kbm r0_K4 r0_bald4 mf1)),(0,.var 29 (cv29 x))] 5 0) ?_
   refine AW.can (Can.wkH 2 0 1 rfl rfl) ?_
   refine AW.srwK (fun Q_9 hQ_9=>?_)
   refine Au 1 (sT [pR 6 2,(18,.clo 88 [] [.ptr 0 0,.ptr 1 0,.ptr 3 0,.ptr 2 0,.ptr 4 0])] [(2,.var 30 [.d (.sl 1 (List.map e3 ([]:List Int)))]),(4,.var 102 [.clo 88 [] [.ptr 0 0,.ptr 1 0,.ptr 3 0,.ptr 2 0,.ptr 4 0]]),(3,.var 3 [jI (-1)]),(1,.var 74 (kbm r0_K4 r0_bald4 mf1)),(0,.var 29 (cv29 x))] 5 0) ?_
   obtain ⟨⟨o2_4,o3_4⟩,hx_10,h⟩:=bsome h
   refine RW.one fokW (r_callvE (zr:=[]) [0,1,3,2,4] trivial rfl (.clo _ _ _) (by kernel_rfl) rfl (k88 1000 ([]:(List Int)) x r0_K4 r0_bald4 mf1 (-1) ([]:List Int) _ hx_10) ⟨rfl,rfl,rfl,rfl,rfl,trivial⟩ rfl rfl ⟨(.nil 1),.refl _,.refl _,.refl _,.refl _,.refl _,trivial⟩ rfl rfl rfl (r_end ?_))
   refine RW.nil (hQ_9 _ ?_)
   refine AW.srwK (fun Q_11 hQ_11=>?_)
   refine Au 2 (sT [pR 6 2,(20,.d (q1 o3_4)),(21,.d (q1 o3_4))] [(2,.var 30 [.d (q1 o3_4)])] 5 0) ?_
   refine rL rfl ?_
   refine Au 1 (sT [(20,.d (q1 o3_4)),(22,jI (o3_4.length:Int)),(23,.d (q1 o3_4))] [] 5 0) ?_
   refine rL rfl ?_
   obtain ⟨l,hv_12,h⟩:=bsome h
   refine RW.one fokW (r_slN trivial rfl rfl rfl DSl.d (slcL_ok hv_12).2.1 (by rw [List.length_map];exact (slcL_ok hv_12).2.2.1) rfl (slz hv_12 e3) (r_end ?_))
   refine Au 2 (sT [(2,.fsl 1 (List.map e3 l)),(3,jI 0)] [] 5 0) ?_
   refine RW.nil (hQ_11 _ ?_)
   obtain rfl:=Option.some.inj h
   exact AW.ret (hR_0 _ (retX (.cons (.tmp rfl) (.cons (.tmp rfl) .nil)) (Frz.tup_of ⟨.fsl _ _,.refl _,trivial⟩) rfl (by kernel_rfl) (by kernel_rfl)))
def g57 :Option HarnessBook:=(g55).bind fun (r0_Hair_Hanks,r0_Hair_Horses,r0_Hair_Dark,r0_Hair_Near,r0_Hair_Match,r0_Needs,r0_Stock,r0_Pack,r0_Bad)=>(must (decide (0<2))).bind fun _=>(slcL r0_Hair_Hanks 0 2).bind fun l=>(g46 7 8).bind fun r0=>(ixL l 1).bind fun p=>some (HarnessBook.mk (HairBook.mk (setL l 1 (HairHank.mk r0 p.Shade)) r0_Hair_Horses r0_Hair_Dark r0_Hair_Near r0_Hair_Match) r0_Needs r0_Stock r0_Pack r0_Bad)
theorem k57  (r:HarnessBook) (h:g57=some r):SCall Tryd.prog Gs 57 [] [] 0 Fr.emp (.agg (cv29 r)) [] 0 Fr.emp:=by
 unfold g57 at h
 refine SCall.mkK Tryd.func57 c57 rfl rfl (by kernel_rfl) (fun Q_0 hR_0 hN_0=>?_)
 refine Sa (sT [pR 0 0] [(0,.var 29 [.d (.nilSl),.d (.nilSl),jI 0,jI 0,jI 0,.d (.nilSl),.d (.nilSl),jI 0,jI 0])] 1 0) ?_
 refine AW.srwK (fun Q_1 hQ_1=>?_)
 obtain ⟨⟨r0_Hair_Hanks,r0_Hair_Horses,r0_Hair_Dark,r0_Hair_Near,r0_Hair_Match,r0_Needs,r0_Stock,r0_Pack,r0_Bad⟩,hx_2,h⟩:=bsome h
 refine RW.one fokW (r_callS (zr:=[]) [] trivial rfl (k55 _ hx_2) trivial rfl rfl trivial rfl rfl rfl (r_end ?_))
 refine Au 2 (sT [pR 0 0,pR 1 9] [(9,.var 29 [.own 3 (List.map e107 r0_Hair_Hanks).length,.own 4 (List.map e112 r0_Hair_Horses).length,jI r0_Hair_Dark,jI r0_Hair_Near,jI r0_Hair_Match,.own 7 (List.map e30 r0_Needs).length,.own 8 (List.map e37 r0_Stock).length,jI r0_Pack,jI r0_Bad]),(3,.row 107 4 (List.map e107 r0_Hair_Hanks)),(4,.row 112 3 (List.map e112 r0_Hair_Horses)),(7,.row 30 1 (List.map e30 r0_Needs)),(8,.row 37 2 (List.map e37 r0_Stock)),(0,.var 29 [.d (.nilSl),.d (.nilSl),jI 0,jI 0,jI 0,.d (.nilSl),.d (.nilSl),jI 0,jI 0])] 10 0) ?_
 refine RW.nil (hQ_1 _ ?_)
 refine AW.srwK (fun Q_3 hQ_3=>?_)
 refine Au 3 (sT [pR 0 0,pR 1 9,(5,.own 3 (List.map e107 r0_Hair_Hanks).length)] [(9,.var 29 [.own 3 (List.map e107 r0_Hair_Hanks).length,.own 4 (List.map e112 r0_Hair_Horses).length,jI r0_Hair_Dark,jI r0_Hair_Near,jI r0_Hair_Match,.own 7 (List.map e30 r0_Needs).length,.own 8 (List.map e37 r0_Stock).length,jI r0_Pack,jI r0_Bad]),(3,.row 107 4 (List.map e107 r0_Hair_Hanks)),(4,.row 112 3 (List.map e112 r0_Hair_Horses)),(7,.row 30 1 (List.map e30 r0_Needs)),(8,.row 37 2 (List.map e37 r0_Stock)),(0,.var 29 [.d (.nilSl),.d (.nilSl),jI 0,jI 0,jI 0,.d (.nilSl),.d (.nilSl),jI 0,jI 0])] 10 0) ?_
 obtain ⟨_,hv_4,h⟩:=bsome h
 obtain ⟨l,hv_5,h⟩:=bsome h
 refine RW.one fokW (r_slO trivial rfl rfl rfl rfl (of_decide_eq_true (must_ok hv_4)) (by rw [List.length_map];exact (slcL_ok hv_5).2.2.1) (sll (f:=e107) hv_5) (slz0 hv_5 e107) (r_end ?_))
 refine Au 3 (sT [pR 0 0,pR 1 9] [(9,.var 29 [.own 10 (List.map e107 l).length,.own 4 (List.map e112 r0_Hair_Horses).length,jI r0_Hair_Dark,jI r0_Hair_Near,jI r0_Hair_Match,.own 7 (List.map e30 r0_Needs).length,.own 8 (List.map e37 r0_Stock).length,jI r0_Pack,jI r0_Bad]),(10,.row 107 4 (List.map e107 l)),(4,.row 112 3 (List.map e112 r0_Hair_Horses)),(7,.row 30 1 (List.map e30 r0_Needs)),(8,.row 37 2 (List.map e37 r0_Stock)),(0,.var 29 [.d (.nilSl),.d (.nilSl),jI 0,jI 0,jI 0,.d (.nilSl),.d (.nilSl),jI 0,jI 0])] 11 0) ?_
 refine RW.nil (hQ_3 _ ?_)
 refine AW.sdrwK fokW (fun Q_6 hQ_6=>?_)
 refine aX 3 (sT [pR 0 0,pR 1 9,(11,.own 10 (List.map e107 l).length)] [(9,.var 29 [.own 10 (List.map e107 l).length,.own 4 (List.map e112 r0_Hair_Horses).length,jI r0_Hair_Dark,jI r0_Hair_Near,jI r0_Hair_Match,.own 7 (List.map e30 r0_Needs).length,.own 8 (List.map e37 r0_Stock).length,jI r0_Pack,jI r0_Bad]),(10,.row 107 4 (List.map e107 l)),(4,.row 112 3 (List.map e112 r0_Hair_Horses)),(7,.row 30 1 (List.map e30 r0_Needs)),(8,.row 37 2 (List.map e37 r0_Stock)),(0,.var 29 [.d (.nilSl),.d (.nilSl),jI 0,jI 0,jI 0,.d (.nilSl),.d (.nilSl),jI 0,jI 0])] 11 0) ?_
 obtain ⟨r0,hx_7,h⟩:=bsome h
 refine r_call trivial rfl (k46 7 8 _ hx_7) rfl rfl ?_
 obtain ⟨p,hv_8,h⟩:=bsome h
 refine r_iaO trivial rfl rfl rfl (ixL_ok hv_8).1 (ix_lt (ixL_ok hv_8).2) rfl ?_
 refine aX 1 (sT [pR 0 0,pR 1 9,(12,.agg [jI r0.Low,jI r0.High]),(14,.eptr 10 (List.map e107 l).length (1:Int).toNat 0)] [(9,.var 29 [.own 10 (List.map e107 l).length,.own 4 (List.map e112 r0_Hair_Horses).length,jI r0_Hair_Dark,jI r0_Hair_Near,jI r0_Hair_Match,.own 7 (List.map e30 r0_Needs).length,.own 8 (List.map e37 r0_Stock).length,jI r0_Pack,jI r0_Bad]),(10,.row 107 4 (List.map e107 l)),(4,.row 112 3 (List.map e112 r0_Hair_Horses)),(7,.row 30 1 (List.map e30 r0_Needs)),(8,.row 37 2 (List.map e37 r0_Stock)),(0,.var 29 [.d (.nilSl),.d (.nilSl),jI 0,jI 0,jI 0,.d (.nilSl),.d (.nilSl),jI 0,jI 0])] 11 0) ?_
 refine r_stE trivial rfl rfl rfl rfl (mapget (f:=e107) (ixL_ok hv_8).2) rfl rfl rfl (Nat.le_of_ble_eq_true rfl) (stz (f:=e107) (x:=(HairHank.mk r0 p.Shade)) rfl) ?_
 rw [lenset (f:=e107) (xs:=l) (i:=1) (x:=(HairHank.mk r0 p.Shade))]
 refine Fi (sT [pR 0 0,pR 1 9] [(10,.row 107 4 (List.map e107 (setL l 1 (HairHank.mk r0 p.Shade)))),(9,.var 29 [.own 10 (List.map e107 (setL l 1 (HairHank.mk r0 p.Shade))).length,.own 4 (List.map e112 r0_Hair_Horses).length,jI r0_Hair_Dark,jI r0_Hair_Near,jI r0_Hair_Match,.own 7 (List.map e30 r0_Needs).length,.own 8 (List.map e37 r0_Stock).length,jI r0_Pack,jI r0_Bad]),(4,.row 112 3 (List.map e112 r0_Hair_Horses)),(7,.row 30 1 (List.map e30 r0_Needs)),(8,.row 37 2 (List.map e37 r0_Stock)),(0,.var 29 [.d (.nilSl),.d (.nilSl),jI 0,jI 0,jI 0,.d (.nilSl),.d (.nilSl),jI 0,jI 0])] 11 0) ?_
 refine hQ_6 _ ?_
 refine Sa (sT [pR 0 0] [(0,.var 29 [.own 10 (List.map e107 (setL l 1 (HairHank.mk r0 p.Shade))).length,.own 4 (List.map e112 r0_Hair_Horses).length,jI r0_Hair_Dark,jI r0_Hair_Near,jI r0_Hair_Match,.own 7 (List.map e30 r0_Needs).length,.own 8 (List.map e37 r0_Stock).length,jI r0_Pack,jI r0_Bad]),(10,.row 107 4 (List.map e107 (setL l 1 (HairHank.mk r0 p.Shade)))),(4,.row 112 3 (List.map e112 r0_Hair_Horses)),(7,.row 30 1 (List.map e30 r0_Needs)),(8,.row 37 2 (List.map e37 r0_Stock))] 11 0) ?_
 obtain rfl:=Option.some.inj h
 exact AW.ret (hR_0 _ (retX (.cons (.agg rfl rfl (Nat.le_of_ble_eq_true rfl)) .nil) (Frz.agg_of ⟨(.own rfl rfl),(.own rfl rfl),.refl _,.refl _,.refl _,(.own rfl rfl),(.own rfl rfl),.refl _,.refl _,trivial⟩) rfl (by kernel_rfl) (by kernel_rfl)))
def g24 :Option Bool:=(g55).bind fun (r0_Hair_Hanks,r0_Hair_Horses,r0_Hair_Dark,r0_Hair_Near,r0_Hair_Match,r0_Needs,r0_Stock,r0_Pack,r0_Bad)=>(g15 (HarnessBook.mk (HairBook.mk r0_Hair_Hanks r0_Hair_Horses r0_Hair_Dark r0_Hair_Near r0_Hair_Match) r0_Needs r0_Stock r0_Pack r0_Bad)).bind fun (r0_4,r1_4)=>(g58).bind fun r0_1=>(g20 r0_1).bind fun (r0_4_1,r1_4_1)=>(g55).bind fun (r0_Hair_Hanks1,r0_Hair_Horses1,r0_Hair_Dark1,r0_Hair_Near1,r0_Hair_Match1,r0_Needs1,r0_Stock1,r0_Pack1,r0_Bad1)=>(g22 (HarnessBook.mk (HairBook.mk r0_Hair_Hanks1 r0_Hair_Horses1 r0_Hair_Dark1 r0_Hair_Near1 r0_Hair_Match1) r0_Needs1 r0_Stock1 r0_Pack1 r0_Bad1)).bind fun (r0_5,r1_4_2)=>(g55).bind fun (r0_Hair_Hanks2,r0_Hair_Horses2,r0_Hair_Dark2,r0_Hair_Near2,r0_Hair_Match2,r0_Needs2,r0_Stock2,r0_Pack2,r0_Bad2)=>(g25 (HarnessBook.mk (HairBook.mk r0_Hair_Hanks2 r0_Hair_Horses2 r0_Hair_Dark2 r0_Hair_Near2 r0_Hair_Match2) r0_Needs2 r0_Stock2 r0_Pack2 r0_Bad2) 1).bind fun (r0_3,r1_4_3)=>(g55).bind fun (r0_Hair_Hanks3,r0_Hair_Horses3,r0_Hair_Dark3,r0_Hair_Near3,r0_Hair_Match3,r0_Needs3,r0_Stock3,r0_Pack3,r0_Bad3)=>(g27 (HarnessBook.mk (HairBook.mk r0_Hair_Hanks3 r0_Hair_Horses3 r0_Hair_Dark3 r0_Hair_Near3 r0_Hair_Match3) r0_Needs3 r0_Stock3 r0_Pack3 r0_Bad3)).bind fun (r0_3_1,r1_4_4)=>bindC ((bif (decide (r1_4≠0)) then (some true) else (bif (decide (r1_4_1≠0)) then (some true) else (bif (decide (r1_4_2≠0)) then (some true) else (bif (decide (r1_4_3≠0)) then (some true) else (bif (decide (r1_4_4≠0)) then (some true) else ((g17 r0_4 [0]).bind fun r0=>bif (!r0) then (some true) else ((g17 r0_4_1 [0,1]).bind fun r0_2=>bif (!r0_2) then (some true) else ((g56 1).bind fun r0_6=>bif (true != ((r0_5.Low==r0_6.Low)&&((r0_5.High==r0_6.High)&&true))) then (some true) else ((g46 1 2).bind fun r0_7=>bif (true != ((r0_3.Low==r0_7.Low)&&((r0_3.High==r0_7.High)&&true))) then (some true) else ((g17 r0_3_1 [0,1]).bind fun r0_8=>some (!r0_8))))))))))).bind fun v=>bif v then (some (.brk false)) else (some (.next ())):Option (Ctl (Unit) (Bool))) fun _=>(g55).bind fun (r0_Hair_Hanks4,r0_Hair_Horses4,r0_Hair_Dark4,r0_Hair_Near4,r0_Hair_Match4,r0_Needs4,r0_Stock4,r0_Pack4,r0_Bad4)=>(g29 (HarnessBook.mk (HairBook.mk r0_Hair_Hanks4 r0_Hair_Horses4 r0_Hair_Dark4 r0_Hair_Near4 r0_Hair_Match4) r0_Needs4 r0_Stock4 r0_Pack4 r0_Bad4) 1).bind fun (r0_4_2,r1_4_5)=>(g58).bind fun r0_1_1=>(g31 r0_1_1).bind fun (r0_5_1,r1_5)=>(g58).bind fun r0_1_2=>(g33 r0_1_2).bind fun (r0_2_1,r1_4_6)=>(g57).bind fun r0_1_3=>(g15 r0_1_3).bind fun (r0_4_3,r1_4_7)=>(bif (decide (r1_4_5=0)) then (bif (decide (r1_5=0)) then (bif (decide (r1_4_6=0)) then (bif (decide (r1_4_7=0)) then ((g46 4 6).bind fun r0_9=>bif (false != ((r0_4_2.Low==r0_9.Low)&&((r0_4_2.High==r0_9.High)&&true))) then (bif (decide (r0_5_1=1)) then ((g17 r0_2_1 [1,0]).bind fun r0_10=>bif r0_10 then ((g17 r0_4_3 [1]).bind fun r0_11=>some r0_11) else (some false)) else (some false)) else (some false)) else (some false)) else (some false)) else (some false)) else (some false)).bind fun t=>some t
theorem k24  (r:Bool) (h:g24=some r):SCall Tryd.prog Gs 24 [] [] 0 Fr.emp (.d (.bool r)) [] 0 Fr.emp:=by
 unfold g24 at h
 refine SCall.mkK Tryd.func24 c24 rfl rfl (by kernel_rfl) (fun Q_0 hR_0 hN_0=>?_)
 refine Sa (sT [] [] 0 0) ?_
 refine AW.srwK (fun Q_1 hQ_1=>?_)
 obtain ⟨⟨r0_Hair_Hanks,r0_Hair_Horses,r0_Hair_Dark,r0_Hair_Near,r0_Hair_Match,r0_Needs,r0_Stock,r0_Pack,r0_Bad⟩,hx_2,h⟩:=bsome h
 refine RW.one fokW (r_callS (zr:=[]) [] trivial rfl (k55 _ hx_2) trivial rfl rfl trivial rfl rfl rfl (r_end ?_))
 obtain ⟨⟨r0_4,r1_4⟩,hx_3,h⟩:=bsome h
 refine RW.one fokW (r_callZ (zr:=[(2,.row 107 4 (List.map e107 r0_Hair_Hanks)),(3,.row 112 3 (List.map e112 r0_Hair_Horses)),(6,.row 30 1 (List.map e30 r0_Needs)),(7,.row 37 2 (List.map e37 r0_Stock))]) trivial rfl (k15 (HarnessBook.mk (HairBook.mk r0_Hair_Hanks r0_Hair_Horses r0_Hair_Dark r0_Hair_Near r0_Hair_Match) r0_Needs r0_Stock r0_Pack r0_Bad) _ hx_3) ⟨rfl,rfl,rfl,rfl,trivial⟩ ⟨(Frz.agg_of ⟨(.own rfl rfl),(.own rfl rfl),.refl _,.refl _,.refl _,(.own rfl rfl),(.own rfl rfl),.refl _,.refl _,trivial⟩),trivial⟩ rfl rfl rfl rfl (r_end ?_))
 refine Au 5 (sT [(1,.d (q1 r0_4)),(2,jI r1_4)] [] 8 0) ?_
 refine RW.nil (hQ_1 _ ?_)
 refine AW.srwK (fun Q_4 hQ_4=>?_)
 obtain ⟨r0_1,hx_5,h⟩:=bsome h
 refine rC (k58 _ hx_5) ?_
 obtain ⟨⟨r0_4_1,r1_4_1⟩,hx_6,h⟩:=bsome h
 refine rC (k20 r0_1 _ hx_6) ?_
 refine Au 5 (sT [(1,.d (q1 r0_4)),(2,jI r1_4),(3,.d (q1 r0_4_1)),(4,jI r1_4_1)] [] 8 0) ?_
 refine RW.nil (hQ_4 _ ?_)
 refine AW.srwK (fun Q_7 hQ_7=>?_)
 obtain ⟨⟨r0_Hair_Hanks1,r0_Hair_Horses1,r0_Hair_Dark1,r0_Hair_Near1,r0_Hair_Match1,r0_Needs1,r0_Stock1,r0_Pack1,r0_Bad1⟩,hx_8,h⟩:=bsome h
 refine RW.one fokW (r_callS (zr:=[]) [] trivial rfl (k55 _ hx_8) trivial rfl rfl trivial rfl rfl rfl (r_end ?_))
 obtain ⟨⟨r0_5,r1_4_2⟩,hx_9,h⟩:=bsome h
 refine RW.one fokW (r_callF (rs:=[(10,.row 107 4 (List.map e107 r0_Hair_Hanks1)),(11,.row 112 3 (List.map e112 r0_Hair_Horses1)),(14,.row 30 1 (List.map e30 r0_Needs1)),(15,.row 37 2 (List.map e37 r0_Stock1))]) trivial rfl (k22 (HarnessBook.mk (HairBook.mk r0_Hair_Hanks1 r0_Hair_Horses1 r0_Hair_Dark1 r0_Hair_Near1 r0_Hair_Match1) r0_Needs1 r0_Stock1 r0_Pack1 r0_Bad1) _ hx_9) ⟨rfl,rfl,rfl,rfl,trivial⟩ ⟨(Frz.agg_of ⟨(.own rfl rfl),(.own rfl rfl),.refl _,.refl _,.refl _,(.own rfl rfl),(.own rfl rfl),.refl _,.refl _,trivial⟩),trivial⟩ rfl rfl rfl (r_end ?_))
 refine Au 6 (sT [(1,.d (q1 r0_4)),(2,jI r1_4),(3,.d (q1 r0_4_1)),(4,jI r1_4_1),pR 5 16,(6,jI r1_4_2)] [(16,.var 37 [jI r0_5.Low,jI r0_5.High])] 17 0) ?_
 refine RW.nil (hQ_7 _ ?_)
 refine AW.srwK (fun Q_10 hQ_10=>?_)
 obtain ⟨⟨r0_Hair_Hanks2,r0_Hair_Horses2,r0_Hair_Dark2,r0_Hair_Near2,r0_Hair_Match2,r0_Needs2,r0_Stock2,r0_Pack2,r0_Bad2⟩,hx_11,h⟩:=bsome h
 refine RW.one fokW (r_callS (zr:=[]) [] trivial rfl (k55 _ hx_11) trivial rfl rfl trivial rfl rfl rfl (r_end ?_))
 obtain ⟨⟨r0_3,r1_4_3⟩,hx_12,h⟩:=bsome h
 refine RW.one fokW (r_callF (rs:=[(19,.row 107 4 (List.map e107 r0_Hair_Hanks2)),(20,.row 112 3 (List.map e112 r0_Hair_Horses2)),(23,.row 30 1 (List.map e30 r0_Needs2)),(24,.row 37 2 (List.map e37 r0_Stock2))]) trivial rfl (k25 (HarnessBook.mk (HairBook.mk r0_Hair_Hanks2 r0_Hair_Horses2 r0_Hair_Dark2 r0_Hair_Near2 r0_Hair_Match2) r0_Needs2 r0_Stock2 r0_Pack2 r0_Bad2) 1 _ hx_12) ⟨rfl,rfl,rfl,rfl,trivial⟩ ⟨(Frz.agg_of ⟨(.own rfl rfl),(.own rfl rfl),.refl _,.refl _,.refl _,(.own rfl rfl),(.own rfl rfl),.refl _,.refl _,trivial⟩),.refl _,trivial⟩ rfl rfl rfl (r_end ?_))
 refine Au 6 (sT [(1,.d (q1 r0_4)),(2,jI r1_4),(3,.d (q1 r0_4_1)),(4,jI r1_4_1),pR 5 16,(6,jI r1_4_2),pR 7 25,(8,jI r1_4_3)] [(25,.var 37 [jI r0_3.Low,jI r0_3.High]),(16,.var 37 [jI r0_5.Low,jI r0_5.High])] 26 0) ?_
 refine RW.nil (hQ_10 _ ?_)
 refine AW.srwK (fun Q_13 hQ_13=>?_)
 obtain ⟨⟨r0_Hair_Hanks3,r0_Hair_Horses3,r0_Hair_Dark3,r0_Hair_Near3,r0_Hair_Match3,r0_Needs3,r0_Stock3,r0_Pack3,r0_Bad3⟩,hx_14,h⟩:=bsome h
 refine RW.one fokW (r_callS (zr:=[]) [] trivial rfl (k55 _ hx_14) trivial rfl rfl trivial rfl rfl rfl (r_end ?_))
 obtain ⟨⟨r0_3_1,r1_4_4⟩,hx_15,h⟩:=bsome h
 refine RW.one fokW (r_callZ (zr:=[(28,.row 107 4 (List.map e107 r0_Hair_Hanks3)),(29,.row 112 3 (List.map e112 r0_Hair_Horses3)),(32,.row 30 1 (List.map e30 r0_Needs3)),(33,.row 37 2 (List.map e37 r0_Stock3))]) trivial rfl (k27 (HarnessBook.mk (HairBook.mk r0_Hair_Hanks3 r0_Hair_Horses3 r0_Hair_Dark3 r0_Hair_Near3 r0_Hair_Match3) r0_Needs3 r0_Stock3 r0_Pack3 r0_Bad3) _ hx_15) ⟨rfl,rfl,rfl,rfl,trivial⟩ ⟨(Frz.agg_of ⟨(.own rfl rfl),(.own rfl rfl),.refl _,.refl _,.refl _,(.own rfl rfl),(.own rfl rfl),.refl _,.refl _,trivial⟩),trivial⟩ rfl rfl rfl rfl (r_end ?_))
 refine Au 5 (sT [(1,.d (q1 r0_4)),(2,jI r1_4),(3,.d (q1 r0_4_1)),(4,jI r1_4_1),pR 5 16,(6,jI r1_4_2),pR 7 25,(8,jI r1_4_3),(9,.d (q1 r0_3_1)),(10,jI r1_4_4)] [(25,.var 37 [jI r0_3.Low,jI r0_3.High]),(16,.var 37 [jI r0_5.Low,jI r0_5.High])] 34 0) ?_
 refine RW.nil (hQ_13 _ ?_)
 obtain ⟨c_16,hx_16,hk_16⟩:=bsomeC h
 refine AW.jnK (fun (_:Unit)=>(sT [] [] 34 0)) (c:=c_16) (fun K_16 hK_16=>?_) (fun j_16 hj_16=>?_)
 ·have h:=hx_16
  obtain ⟨v,hx_17,h⟩:=bsome h
  refine AW.jnSK (fun (v:Bool)=>(sT [(85,.d (.bool v))] [] 34 0)) (c:=v) (fun K_17 hK_17=>?_) ?_
  ·have h:=hx_17
   refine AW.drw fokW ?_
   refine aX 3 (sT [(1,.d (q1 r0_4)),(3,.d (q1 r0_4_1)),(4,jI r1_4_1),pR 5 16,(6,jI r1_4_2),pR 7 25,(8,jI r1_4_3),(9,.d (q1 r0_3_1)),(10,jI r1_4_4),(42,.d (.bool (decide (r1_4≠0))))] [(25,.var 37 [jI r0_3.Low,jI r0_3.High]),(16,.var 37 [jI r0_5.Low,jI r0_5.High])] 34 0) ?_
   refine r_split 42 rfl (fun hb_19=>?_) (fun hb_19=>?_)
   ·have h:=ifT hb_19 h
    refine aX 43 (sT [(85,.d (.bool true))] [(25,.var 37 [jI r0_3.Low,jI r0_3.High]),(16,.var 37 [jI r0_5.Low,jI r0_5.High])] 34 0) ?_
    refine Fi (sT [(85,.d (.bool true))] [] 34 0) ?_
    obtain rfl:=Option.some.inj h
    exact hK_17 _ (Can.kp (by kernel_rfl))
   ·have h:=ifF hb_19 h
    refine aX 4 (sT [(1,.d (q1 r0_4)),(3,.d (q1 r0_4_1)),pR 5 16,(6,jI r1_4_2),pR 7 25,(8,jI r1_4_3),(9,.d (q1 r0_3_1)),(10,jI r1_4_4),(46,.d (.bool (decide (r1_4_1≠0))))] [(25,.var 37 [jI r0_3.Low,jI r0_3.High]),(16,.var 37 [jI r0_5.Low,jI r0_5.High])] 34 0) ?_
    refine r_split 46 rfl (fun hb_20=>?_) (fun hb_20=>?_)
    ·have h:=ifT hb_20 h
     refine aX 39 (sT [(85,.d (.bool true))] [(25,.var 37 [jI r0_3.Low,jI r0_3.High]),(16,.var 37 [jI r0_5.Low,jI r0_5.High])] 34 0) ?_
     refine Fi (sT [(85,.d (.bool true))] [] 34 0) ?_
     obtain rfl:=Option.some.inj h
     exact hK_17 _ (Can.kp (by kernel_rfl))
    ·have h:=ifF hb_20 h
     refine aX 4 (sT [(1,.d (q1 r0_4)),(3,.d (q1 r0_4_1)),pR 5 16,pR 7 25,(8,jI r1_4_3),(9,.d (q1 r0_3_1)),(10,jI r1_4_4),(50,.d (.bool (decide (r1_4_2≠0))))] [(25,.var 37 [jI r0_3.Low,jI r0_3.High]),(16,.var 37 [jI r0_5.Low,jI r0_5.High])] 34 0) ?_
     refine r_split 50 rfl (fun hb_21=>?_) (fun hb_21=>?_)
     ·have h:=ifT hb_21 h
      refine aX 35 (sT [(85,.d (.bool true))] [(25,.var 37 [jI r0_3.Low,jI r0_3.High]),(16,.var 37 [jI r0_5.Low,jI r0_5.High])] 34 0) ?_
      refine Fi (sT [(85,.d (.bool true))] [] 34 0) ?_
      obtain rfl:=Option.some.inj h
      exact hK_17 _ (Can.kp (by kernel_rfl))
     ·have h:=ifF hb_21 h
      refine aX 4 (sT [(1,.d (q1 r0_4)),(3,.d (q1 r0_4_1)),pR 5 16,pR 7 25,(9,.d (q1 r0_3_1)),(10,jI r1_4_4),(54,.d (.bool (decide (r1_4_3≠0))))] [(25,.var 37 [jI r0_3.Low,jI r0_3.High]),(16,.var 37 [jI r0_5.Low,jI r0_5.High])] 34 0) ?_
      refine r_split 54 rfl (fun hb_22=>?_) (fun hb_22=>?_)
      ·have h:=ifT hb_22 h
       refine aX 31 (sT [(85,.d (.bool true))] [(25,.var 37 [jI r0_3.Low,jI r0_3.High]),(16,.var 37 [jI r0_5.Low,jI r0_5.High])] 34 0) ?_
       refine Fi (sT [(85,.d (.bool true))] [] 34 0) ?_
       obtain rfl:=Option.some.inj h
       exact hK_17 _ (Can.kp (by kernel_rfl))
      ·have h:=ifF hb_22 h
       refine aX 4 (sT [(1,.d (q1 r0_4)),(3,.d (q1 r0_4_1)),pR 5 16,pR 7 25,(9,.d (q1 r0_3_1)),(58,.d (.bool (decide (r1_4_4≠0))))] [(25,.var 37 [jI r0_3.Low,jI r0_3.High]),(16,.var 37 [jI r0_5.Low,jI r0_5.High])] 34 0) ?_
       refine r_split 58 rfl (fun hb_23=>?_) (fun hb_23=>?_)
       ·have h:=ifT hb_23 h
        refine aX 27 (sT [(85,.d (.bool true))] [(25,.var 37 [jI r0_3.Low,jI r0_3.High]),(16,.var 37 [jI r0_5.Low,jI r0_5.High])] 34 0) ?_
        refine Fi (sT [(85,.d (.bool true))] [] 34 0) ?_
        obtain rfl:=Option.some.inj h
        exact hK_17 _ (Can.kp (by kernel_rfl))
       ·have h:=ifF hb_23 h
        refine aX 2 (sT [(3,.d (q1 r0_4_1)),pR 5 16,pR 7 25,(9,.d (q1 r0_3_1)),(58,.d (.bool false)),(59,.d (q1 r0_4)),(60,.own 34 (List.map e3 [0]).length)] [(34,.row 3 1 (List.map e3 [0])),(25,.var 37 [jI r0_3.Low,jI r0_3.High]),(16,.var 37 [jI r0_5.Low,jI r0_5.High])] 35 0) ?_
        obtain ⟨r0,hx_24,h⟩:=bsome h
        refine r_callF (rs:=[(34,.row 3 1 (List.map e3 [0]))]) rfl rfl (k17 r0_4 [0] _ hx_24) ⟨rfl,trivial⟩ ⟨.refl _,(.own rfl rfl),trivial⟩ rfl rfl rfl ?_
        refine aX 3 (sT [(3,.d (q1 r0_4_1)),pR 5 16,pR 7 25,(9,.d (q1 r0_3_1)),(64,.d (.bool (!r0)))] [(34,.row 3 1 (List.map e3 [0])),(25,.var 37 [jI r0_3.Low,jI r0_3.High]),(16,.var 37 [jI r0_5.Low,jI r0_5.High])] 35 0) ?_
        refine r_split 64 rfl (fun hb_25=>?_) (fun hb_25=>?_)
        ·have h:=ifT hb_25 h
         refine aX 21 (sT [(85,.d (.bool true))] [(34,.row 3 1 (List.map e3 [0])),(25,.var 37 [jI r0_3.Low,jI r0_3.High]),(16,.var 37 [jI r0_5.Low,jI r0_5.High])] 35 0) ?_
         refine Fi (sT [(85,.d (.bool true))] [] 35 0) ?_
         obtain rfl:=Option.some.inj h
         exact hK_17 _ (Can.kp (by kernel_rfl))
        ·have h:=ifF hb_25 h
         refine aX 2 (sT [pR 5 16,pR 7 25,(9,.d (q1 r0_3_1)),(64,.d (.bool false)),(65,.d (q1 r0_4_1)),(66,.own 35 (List.map e3 [0,1]).length)] [(35,.row 3 1 (List.map e3 [0,1])),(34,.row 3 1 (List.map e3 [0])),(25,.var 37 [jI r0_3.Low,jI r0_3.High]),(16,.var 37 [jI r0_5.Low,jI r0_5.High])] 36 0) ?_
         obtain ⟨r0_2,hx_26,h⟩:=bsome h
         refine r_callF (rs:=[(35,.row 3 1 (List.map e3 [0,1]))]) rfl rfl (k17 r0_4_1 [0,1] _ hx_26) ⟨rfl,trivial⟩ ⟨.refl _,(.own rfl rfl),trivial⟩ rfl rfl rfl ?_
         refine aX 3 (sT [pR 5 16,pR 7 25,(9,.d (q1 r0_3_1)),(70,.d (.bool (!r0_2)))] [(35,.row 3 1 (List.map e3 [0,1])),(34,.row 3 1 (List.map e3 [0])),(25,.var 37 [jI r0_3.Low,jI r0_3.High]),(16,.var 37 [jI r0_5.Low,jI r0_5.High])] 36 0) ?_
         refine r_split 70 rfl (fun hb_27=>?_) (fun hb_27=>?_)
         ·have h:=ifT hb_27 h
          refine aX 15 (sT [(85,.d (.bool true))] [(35,.row 3 1 (List.map e3 [0,1])),(34,.row 3 1 (List.map e3 [0])),(25,.var 37 [jI r0_3.Low,jI r0_3.High]),(16,.var 37 [jI r0_5.Low,jI r0_5.High])] 36 0) ?_
          refine Fi (sT [(85,.d (.bool true))] [] 36 0) ?_
          obtain rfl:=Option.some.inj h
          exact hK_17 _ (Can.kp (by kernel_rfl))
         ·have h:=ifF hb_27 h
          refine aX 1 (sT [pR 7 25,(9,.d (q1 r0_3_1)),(70,.d (.bool false)),(71,.agg [jI r0_5.Low,jI r0_5.High])] [(35,.row 3 1 (List.map e3 [0,1])),(34,.row 3 1 (List.map e3 [0])),(25,.var 37 [jI r0_3.Low,jI r0_3.High]),(16,.var 37 [jI r0_5.Low,jI r0_5.High])] 36 0) ?_
          obtain ⟨r0_6,hx_28,h⟩:=bsome h
          refine r_call rfl rfl (k56 1 _ hx_28) rfl rfl ?_
          refine r_aeq rfl rfl rfl rfl rfl ft37 rfl rfl rfl ?_
          refine aX 2 (sT [pR 7 25,(9,.d (q1 r0_3_1)),(75,.d (.bool (true != ((r0_5.Low==r0_6.Low)&&((r0_5.High==r0_6.High)&&true)))))] [(35,.row 3 1 (List.map e3 [0,1])),(34,.row 3 1 (List.map e3 [0])),(25,.var 37 [jI r0_3.Low,jI r0_3.High]),(16,.var 37 [jI r0_5.Low,jI r0_5.High])] 36 0) ?_
          refine r_split 75 rfl (fun hb_29=>?_) (fun hb_29=>?_)
          ·have h:=ifT hb_29 h
           refine aX 10 (sT [(85,.d (.bool true))] [(35,.row 3 1 (List.map e3 [0,1])),(34,.row 3 1 (List.map e3 [0])),(25,.var 37 [jI r0_3.Low,jI r0_3.High]),(16,.var 37 [jI r0_5.Low,jI r0_5.High])] 36 0) ?_
           refine Fi (sT [(85,.d (.bool true))] [] 36 0) ?_
           obtain rfl:=Option.some.inj h
           exact hK_17 _ (Can.kp (by kernel_rfl))
          ·have h:=ifF hb_29 h
           refine aX 1 (sT [(9,.d (q1 r0_3_1)),(75,.d (.bool false)),(76,.agg [jI r0_3.Low,jI r0_3.High])] [(35,.row 3 1 (List.map e3 [0,1])),(34,.row 3 1 (List.map e3 [0])),(25,.var 37 [jI r0_3.Low,jI r0_3.High]),(16,.var 37 [jI r0_5.Low,jI r0_5.High])] 36 0) ?_
           obtain ⟨r0_7,hx_30,h⟩:=bsome h
           refine r_call rfl rfl (k46 1 2 _ hx_30) rfl rfl ?_
           refine r_aeq rfl rfl rfl rfl rfl ft37 rfl rfl rfl ?_
           refine aX 2 (sT [(9,.d (q1 r0_3_1)),(80,.d (.bool (true != ((r0_3.Low==r0_7.Low)&&((r0_3.High==r0_7.High)&&true)))))] [(35,.row 3 1 (List.map e3 [0,1])),(34,.row 3 1 (List.map e3 [0])),(25,.var 37 [jI r0_3.Low,jI r0_3.High]),(16,.var 37 [jI r0_5.Low,jI r0_5.High])] 36 0) ?_
           refine r_split 80 rfl (fun hb_31=>?_) (fun hb_31=>?_)
           ·have h:=ifT hb_31 h
            refine aX 5 (sT [(85,.d (.bool true))] [(35,.row 3 1 (List.map e3 [0,1])),(34,.row 3 1 (List.map e3 [0])),(25,.var 37 [jI r0_3.Low,jI r0_3.High]),(16,.var 37 [jI r0_5.Low,jI r0_5.High])] 36 0) ?_
            refine Fi (sT [(85,.d (.bool true))] [] 36 0) ?_
            obtain rfl:=Option.some.inj h
            exact hK_17 _ (Can.kp (by kernel_rfl))
           ·have h:=ifF hb_31 h
            refine aX 2 (sT [(80,.d (.bool false)),(81,.d (q1 r0_3_1)),(82,.own 36 (List.map e3 [0,1]).length)] [(36,.row 3 1 (List.map e3 [0,1])),(35,.row 3 1 (List.map e3 [0,1])),(34,.row 3 1 (List.map e3 [0])),(25,.var 37 [jI r0_3.Low,jI r0_3.High]),(16,.var 37 [jI r0_5.Low,jI r0_5.High])] 37 0) ?_
            obtain ⟨r0_8,hx_32,h⟩:=bsome h
            refine r_callF (rs:=[(36,.row 3 1 (List.map e3 [0,1]))]) rfl rfl (k17 r0_3_1 [0,1] _ hx_32) ⟨rfl,trivial⟩ ⟨.refl _,(.own rfl rfl),trivial⟩ rfl rfl rfl ?_
            refine aX 2 (sT [(85,.d (.bool (!r0_8)))] [(36,.row 3 1 (List.map e3 [0,1])),(35,.row 3 1 (List.map e3 [0,1])),(34,.row 3 1 (List.map e3 [0])),(25,.var 37 [jI r0_3.Low,jI r0_3.High]),(16,.var 37 [jI r0_5.Low,jI r0_5.High])] 37 0) ?_
            refine Fi (sT [(85,.d (.bool (!r0_8)))] [] 37 0) ?_
            obtain rfl:=Option.some.inj h
            exact hK_17 _ (Can.kp (by kernel_rfl))
  ·refine AW.cond rfl (fun hb_33=>?_) (fun hb_33=>?_)
   ·have h:=ifT hb_33 h
    refine Sa (sT [(0,.d (.bool false))] [] 34 0) ?_
    obtain rfl:=Option.some.inj h
    obtain rfl:=Aft.bk hk_16
    exact rT hR_0 (.cons (.tmp rfl) .nil)
   ·have h:=ifF hb_33 h
    refine AW.skip ?_
    obtain rfl:=Option.some.inj h
    exact hK_16 _ _ rfl (Can.kp (by kernel_rfl))
 ·subst hj_16
  have h:=Aft.nx hk_16
  refine AW.srwK (fun Q_34 hQ_34=>?_)
  obtain ⟨⟨r0_Hair_Hanks4,r0_Hair_Horses4,r0_Hair_Dark4,r0_Hair_Near4,r0_Hair_Match4,r0_Needs4,r0_Stock4,r0_Pack4,r0_Bad4⟩,hx_35,h⟩:=bsome h
  refine RW.one fokW (r_callS (zr:=[]) [] trivial rfl (k55 _ hx_35) trivial rfl rfl trivial rfl rfl rfl (r_end ?_))
  obtain ⟨⟨r0_4_2,r1_4_5⟩,hx_36,h⟩:=bsome h
  refine RW.one fokW (r_callF (rs:=[(36,.row 107 4 (List.map e107 r0_Hair_Hanks4)),(37,.row 112 3 (List.map e112 r0_Hair_Horses4)),(40,.row 30 1 (List.map e30 r0_Needs4)),(41,.row 37 2 (List.map e37 r0_Stock4))]) trivial rfl (k29 (HarnessBook.mk (HairBook.mk r0_Hair_Hanks4 r0_Hair_Horses4 r0_Hair_Dark4 r0_Hair_Near4 r0_Hair_Match4) r0_Needs4 r0_Stock4 r0_Pack4 r0_Bad4) 1 _ hx_36) ⟨rfl,rfl,rfl,rfl,trivial⟩ ⟨(Frz.agg_of ⟨(.own rfl rfl),(.own rfl rfl),.refl _,.refl _,.refl _,(.own rfl rfl),(.own rfl rfl),.refl _,.refl _,trivial⟩),.refl _,trivial⟩ rfl rfl rfl (r_end ?_))
  refine Au 6 (sT [(2,jI r1_4_5),pR 11 42] [(42,.var 37 [jI r0_4_2.Low,jI r0_4_2.High])] 43 0) ?_
  refine RW.nil (hQ_34 _ ?_)
  refine AW.srwK (fun Q_37 hQ_37=>?_)
  obtain ⟨r0_1_1,hx_38,h⟩:=bsome h
  refine rC (k58 _ hx_38) ?_
  obtain ⟨⟨r0_5_1,r1_5⟩,hx_39,h⟩:=bsome h
  refine rC (k31 r0_1_1 _ hx_39) ?_
  refine Au 5 (sT [(2,jI r1_4_5),(4,jI r1_5),pR 11 42,(12,jI r0_5_1)] [(42,.var 37 [jI r0_4_2.Low,jI r0_4_2.High])] 43 0) ?_
  refine RW.nil (hQ_37 _ ?_)
  refine AW.srwK (fun Q_40 hQ_40=>?_)
  obtain ⟨r0_1_2,hx_41,h⟩:=bsome h
  refine rC (k58 _ hx_41) ?_
  obtain ⟨⟨r0_2_1,r1_4_6⟩,hx_42,h⟩:=bsome h
  refine rC (k33 r0_1_2 _ hx_42) ?_
  refine Au 5 (sT [(2,jI r1_4_5),(4,jI r1_5),(6,jI r1_4_6),pR 11 42,(12,jI r0_5_1),(13,.d (q1 r0_2_1))] [(42,.var 37 [jI r0_4_2.Low,jI r0_4_2.High])] 43 0) ?_
  refine RW.nil (hQ_40 _ ?_)
  refine AW.srwK (fun Q_43 hQ_43=>?_)
  obtain ⟨r0_1_3,hx_44,h⟩:=bsome h
  refine rC (k57 _ hx_44) ?_
  obtain ⟨⟨r0_4_3,r1_4_7⟩,hx_45,h⟩:=bsome h
  refine rC (k15 r0_1_3 _ hx_45) ?_
  refine Au 5 (sT [(2,jI r1_4_5),(4,jI r1_5),(6,jI r1_4_6),(8,jI r1_4_7),pR 11 42,(12,jI r0_5_1),(13,.d (q1 r0_2_1)),(14,.d (q1 r0_4_3))] [(42,.var 37 [jI r0_4_2.Low,jI r0_4_2.High])] 43 0) ?_
  refine RW.nil (hQ_43 _ ?_)
  obtain ⟨t,hx_46,h⟩:=bsome h
  refine AW.jnSK (fun (t:Bool)=>(sT [(0,.d (.bool t))] [] 43 0)) (c:=t) (fun K_46 hK_46=>?_) ?_
  ·have h:=hx_46
   refine AW.drw fokW ?_
   refine aX 3 (sT [(4,jI r1_5),(6,jI r1_4_6),(8,jI r1_4_7),pR 11 42,(12,jI r0_5_1),(13,.d (q1 r0_2_1)),(14,.d (q1 r0_4_3)),(108,.d (.bool (decide (r1_4_5=0))))] [(42,.var 37 [jI r0_4_2.Low,jI r0_4_2.High])] 43 0) ?_
   refine r_split 108 rfl (fun hb_48=>?_) (fun hb_48=>?_)
   ·have h:=ifT hb_48 h
    refine aX 4 (sT [(6,jI r1_4_6),(8,jI r1_4_7),pR 11 42,(12,jI r0_5_1),(13,.d (q1 r0_2_1)),(14,.d (q1 r0_4_3)),(112,.d (.bool (decide (r1_5=0))))] [(42,.var 37 [jI r0_4_2.Low,jI r0_4_2.High])] 43 0) ?_
    refine r_split 112 rfl (fun hb_49=>?_) (fun hb_49=>?_)
    ·have h:=ifT hb_49 h
     refine aX 4 (sT [(8,jI r1_4_7),pR 11 42,(12,jI r0_5_1),(13,.d (q1 r0_2_1)),(14,.d (q1 r0_4_3)),(116,.d (.bool (decide (r1_4_6=0))))] [(42,.var 37 [jI r0_4_2.Low,jI r0_4_2.High])] 43 0) ?_
     refine r_split 116 rfl (fun hb_50=>?_) (fun hb_50=>?_)
     ·have h:=ifT hb_50 h
      refine aX 4 (sT [pR 11 42,(12,jI r0_5_1),(13,.d (q1 r0_2_1)),(14,.d (q1 r0_4_3)),(120,.d (.bool (decide (r1_4_7=0))))] [(42,.var 37 [jI r0_4_2.Low,jI r0_4_2.High])] 43 0) ?_
      refine r_split 120 rfl (fun hb_51=>?_) (fun hb_51=>?_)
      ·have h:=ifT hb_51 h
       refine aX 1 (sT [(12,jI r0_5_1),(13,.d (q1 r0_2_1)),(14,.d (q1 r0_4_3)),(120,.d (.bool true)),(121,.agg [jI r0_4_2.Low,jI r0_4_2.High])] [(42,.var 37 [jI r0_4_2.Low,jI r0_4_2.High])] 43 0) ?_
       obtain ⟨r0_9,hx_52,h⟩:=bsome h
       refine r_call rfl rfl (k46 4 6 _ hx_52) rfl rfl ?_
       refine r_aeq rfl rfl rfl rfl rfl ft37 rfl rfl rfl ?_
       refine aX 2 (sT [(12,jI r0_5_1),(13,.d (q1 r0_2_1)),(14,.d (q1 r0_4_3)),(125,.d (.bool (false != ((r0_4_2.Low==r0_9.Low)&&((r0_4_2.High==r0_9.High)&&true)))))] [(42,.var 37 [jI r0_4_2.Low,jI r0_4_2.High])] 43 0) ?_
       refine r_split 125 rfl (fun hb_53=>?_) (fun hb_53=>?_)
       ·have h:=ifT hb_53 h
        refine aX 4 (sT [(13,.d (q1 r0_2_1)),(14,.d (q1 r0_4_3)),(129,.d (.bool (decide (r0_5_1=1))))] [(42,.var 37 [jI r0_4_2.Low,jI r0_4_2.High])] 43 0) ?_
        refine r_split 129 rfl (fun hb_54=>?_) (fun hb_54=>?_)
        ·have h:=ifT hb_54 h
         refine aX 2 (sT [(14,.d (q1 r0_4_3)),(129,.d (.bool true)),(130,.d (q1 r0_2_1)),(131,.own 43 (List.map e3 [1,0]).length)] [(43,.row 3 1 (List.map e3 [1,0])),(42,.var 37 [jI r0_4_2.Low,jI r0_4_2.High])] 44 0) ?_
         obtain ⟨r0_10,hx_55,h⟩:=bsome h
         refine r_callF (rs:=[(43,.row 3 1 (List.map e3 [1,0]))]) rfl rfl (k17 r0_2_1 [1,0] _ hx_55) ⟨rfl,trivial⟩ ⟨.refl _,(.own rfl rfl),trivial⟩ rfl rfl rfl ?_
         refine aX 2 (sT [(14,.d (q1 r0_4_3)),(134,.d (.bool r0_10))] [(43,.row 3 1 (List.map e3 [1,0])),(42,.var 37 [jI r0_4_2.Low,jI r0_4_2.High])] 44 0) ?_
         refine r_split 134 rfl (fun hb_56=>?_) (fun hb_56=>?_)
         ·have h:=ifT hb_56 h
          refine aX 2 (sT [(134,.d (.bool true)),(135,.d (q1 r0_4_3)),(136,.own 44 (List.map e3 [1]).length)] [(44,.row 3 1 (List.map e3 [1])),(43,.row 3 1 (List.map e3 [1,0])),(42,.var 37 [jI r0_4_2.Low,jI r0_4_2.High])] 45 0) ?_
          obtain ⟨r0_11,hx_57,h⟩:=bsome h
          refine r_callF (rs:=[(44,.row 3 1 (List.map e3 [1]))]) rfl rfl (k17 r0_4_3 [1] _ hx_57) ⟨rfl,trivial⟩ ⟨.refl _,(.own rfl rfl),trivial⟩ rfl rfl rfl ?_
          refine aX 2 (sT [(0,.d (.bool r0_11))] [(44,.row 3 1 (List.map e3 [1])),(43,.row 3 1 (List.map e3 [1,0])),(42,.var 37 [jI r0_4_2.Low,jI r0_4_2.High])] 45 0) ?_
          refine Fi (sT [(0,.d (.bool r0_11))] [] 45 0) ?_
          obtain rfl:=Option.some.inj h
          exact hK_46 _ (Can.kp (by kernel_rfl))
         ·have h:=ifF hb_56 h
          refine aX 5 (sT [(0,.d (.bool false))] [(43,.row 3 1 (List.map e3 [1,0])),(42,.var 37 [jI r0_4_2.Low,jI r0_4_2.High])] 44 0) ?_
          refine Fi (sT [(0,.d (.bool false))] [] 44 0) ?_
          obtain rfl:=Option.some.inj h
          exact hK_46 _ (Can.kp (by kernel_rfl))
        ·have h:=ifF hb_54 h
         refine aX 10 (sT [(0,.d (.bool false))] [(42,.var 37 [jI r0_4_2.Low,jI r0_4_2.High])] 43 0) ?_
         refine Fi (sT [(0,.d (.bool false))] [] 43 0) ?_
         obtain rfl:=Option.some.inj h
         exact hK_46 _ (Can.kp (by kernel_rfl))
       ·have h:=ifF hb_53 h
        refine aX 14 (sT [(0,.d (.bool false))] [(42,.var 37 [jI r0_4_2.Low,jI r0_4_2.High])] 43 0) ?_
        refine Fi (sT [(0,.d (.bool false))] [] 43 0) ?_
        obtain rfl:=Option.some.inj h
        exact hK_46 _ (Can.kp (by kernel_rfl))
      ·have h:=ifF hb_51 h
       refine aX 19 (sT [(0,.d (.bool false))] [(42,.var 37 [jI r0_4_2.Low,jI r0_4_2.High])] 43 0) ?_
       refine Fi (sT [(0,.d (.bool false))] [] 43 0) ?_
       obtain rfl:=Option.some.inj h
       exact hK_46 _ (Can.kp (by kernel_rfl))
     ·have h:=ifF hb_50 h
      refine aX 23 (sT [(0,.d (.bool false))] [(42,.var 37 [jI r0_4_2.Low,jI r0_4_2.High])] 43 0) ?_
      refine Fi (sT [(0,.d (.bool false))] [] 43 0) ?_
      obtain rfl:=Option.some.inj h
      exact hK_46 _ (Can.kp (by kernel_rfl))
    ·have h:=ifF hb_49 h
     refine aX 27 (sT [(0,.d (.bool false))] [(42,.var 37 [jI r0_4_2.Low,jI r0_4_2.High])] 43 0) ?_
     refine Fi (sT [(0,.d (.bool false))] [] 43 0) ?_
     obtain rfl:=Option.some.inj h
     exact hK_46 _ (Can.kp (by kernel_rfl))
   ·have h:=ifF hb_48 h
    refine aX 31 (sT [(0,.d (.bool false))] [(42,.var 37 [jI r0_4_2.Low,jI r0_4_2.High])] 43 0) ?_
    refine Fi (sT [(0,.d (.bool false))] [] 43 0) ?_
    obtain rfl:=Option.some.inj h
    exact hK_46 _ (Can.kp (by kernel_rfl))
  ·obtain rfl:=Option.some.inj h
   exact rT hR_0 (.cons (.tmp rfl) .nil)
def g45 (n:Int) (many:Int):Option Int:=bif (decide (many<1)) then (some 0) else ((must (decide (many≠0))).bind fun _=>bif (decide ((n.tmod many)<0)) then (some (wr ((n.tmod many)+many))) else (some (n.tmod many)))
theorem k45 (n:Int) (many:Int) (r:Int) (h:g45 n many=some r):SCall Tryd.prog Gs 45 [jI n,jI many] [] 0 Fr.emp (jI r) [] 0 Fr.emp:=by
 unfold g45 at h
 refine SCall.mkK Tryd.func45 c45 rfl rfl (by kernel_rfl) (fun Q_0 hR_0 hN_0=>?_)
 refine Sa (sT [(0,jI n),(1,jI many)] [] 0 0) ?_
 refine AW.seqK (fun K_1 hK_1=>?_)
 refine Sa (sT [(0,jI n),(1,jI many),(7,.d (.bool (decide (many<1))))] [] 0 0) ?_
 refine AW.cond rfl (fun hb_2=>?_) (fun hb_2=>?_)
 ·have h:=ifT hb_2 h
  refine Sa (sT [(4,jI 0)] [] 0 0) ?_
  obtain rfl:=Option.some.inj h
  exact rT hR_0 (.cons (.tmp rfl) .nil)
 ·have h:=ifF hb_2 h
  refine AW.skip (hK_1 _ ?_)
  refine AW.srwK (fun Q_3 hQ_3=>?_)
  refine Au 2 (sT [(1,jI many),(8,jI n),(9,jI many)] [] 0 0) ?_
  obtain ⟨_,hv_4,h⟩:=bsome h
  refine RW.one fokW (r_rem trivial rfl rfl (of_decide_eq_true (must_ok hv_4)) (r_end ?_))
  refine Au 1 (sT [(1,jI many),(5,jI (n.tmod many))] [] 0 0) ?_
  refine RW.nil (hQ_3 _ ?_)
  refine AW.seqK (fun K_5 hK_5=>?_)
  refine Sa (sT [(1,jI many),(5,jI (n.tmod many)),(12,.d (.bool (decide ((n.tmod many)<0))))] [] 0 0) ?_
  refine AW.cond rfl (fun hb_6=>?_) (fun hb_6=>?_)
  ·have h:=ifT hb_6 h
   refine Ra (sT [(5,jI (wr ((n.tmod many)+many)))] [] 0 0) ?_
   refine hK_5 _ ?_
   refine Sa (sT [(4,jI (wr ((n.tmod many)+many)))] [] 0 0) ?_
   obtain rfl:=Option.some.inj h
   exact rT hR_0 (.cons (.tmp rfl) .nil)
  ·have h:=ifF hb_6 h
   refine AW.skip (hK_5 _ ?_)
   refine Sa (sT [(4,jI (n.tmod many))] [] 0 0) ?_
   obtain rfl:=Option.some.inj h
   exact rT hR_0 (.cons (.tmp rfl) .nil)
end Go.Proofs.Tr
namespace Go.Proofs.Tr
open Go Go.Abs Go.Proofs
def g104 (set_:Int) (n:Int):Option Bool:=(must (decide (0≤n))).bind fun _=>some (decide ((bAnd (shr64 set_ n) 1)=1))
theorem k104 (set_:Int) (n:Int) (r:Bool) (h:g104 set_ n=some r):SCall Tryd.prog Gs 104 [jI set_,jI n] [] 0 Fr.emp (.d (.bool r)) [] 0 Fr.emp:=by
 unfold g104 at h
 refine SCall.mkK Tryd.func104 c104 rfl rfl (by kernel_rfl) (fun Q_0 hR_0 hN_0=>?_)
 refine Sa (sT [(0,jI set_),(1,jI n)] [] 0 0) ?_
 refine AW.srwK (fun Q_1 hQ_1=>?_)
 refine Au 2 (sT [(5,jI set_),(6,jI n)] [] 0 0) ?_
 obtain ⟨_,hv_2,h⟩:=bsome h
 refine RW.one fokW (r_sh trivial rfl rfl (shr64_ok (of_decide_eq_true (must_ok hv_2))) (r_end ?_))
 refine Au 3 (sT [(4,.d (.bool (decide ((bAnd (shr64 set_ n) 1)=1))))] [] 0 0) ?_
 refine RW.nil (hQ_1 _ ?_)
 obtain rfl:=Option.some.inj h
 exact rT hR_0 (.cons (.tmp rfl) .nil)
def g74_2 (set_:Int):Int→(List Int)→Option (List Int):=fun n l=>(g104 set_ n).bind fun r0=>bif r0 then ((appL 8 l [n]).bind fun l1=>some l1) else (some l)
def g74 (set_:Int) (below:Int):Option (List Int):=(must (decide (below≤9223372036854775807))).bind fun _=>(forS (g74_2 set_) (((below:Int) - 0).toNat) 0 ([]:List Int)).bind fun l=>some l
theorem k74 (set_:Int) (below:Int) (r:(List Int)) (h:g74 set_ below=some r):SCall Tryd.prog Gs 74 [jI set_,jI below] [] 0 Fr.emp (.d (q1 r)) [] 0 Fr.emp:=by
 unfold g74 at h
 refine SCall.mkK Tryd.func74 c74 rfl rfl (by kernel_rfl) (fun Q_0 hR_0 hN_0=>?_)
 refine Sa (sT [(0,jI set_),(1,jI below)] [] 0 0) ?_
 refine Sa (sT [(0,jI set_),(1,jI below),(5,.own 0 (List.map e3 []).length)] [(0,.row 3 1 (List.map e3 []))] 1 0) ?_
 refine AW.seqK (fun K_1 hK_1=>?_)
 refine Sa (sT [(0,jI set_),(1,jI below),(5,.own 0 (List.map e3 []).length),(6,jI 0)] [(0,.row 3 1 (List.map e3 []))] 1 0) ?_
 refine AW.block ?_
 obtain ⟨_,hN_2,h⟩:=bsome h
 have hN_2:=of_decide_eq_true (must_ok hN_2)
 obtain ⟨out_2,hx_2,h⟩:=bsome h
 refine AW.lpSK (fun (n:Int) (l:List Int)=>(sT [(0,jI set_),(1,jI below),(5,.own 0 (List.map e3 l).length),(6,jI n)] [(0,.row 3 1 (List.map e3 l))] 1 0)) (g74_2 set_) (below) hx_2 (Can.kp (by kernel_rfl)) (fun n l hi_2 hl_2 c_2 h K_2 hK_2=>?_) (fun n l hi_2 hl_2 hout=>?_)
 ·unfold g74_2 at h
  refine AW.seqK (fun K_3 hK_3=>?_)
  refine Sa (sT [(0,jI set_),(1,jI below),(5,.own 0 (List.map e3 l).length),(6,jI n),(10,.d (.bool (decide (n<below))))] [(0,.row 3 1 (List.map e3 l))] 1 0) ?_
  refine AW.cond rfl (fun hb_4=>?_) (fun hb_4=>False.elim (by have:=of_decide_eq_false hb_4;omega))
  refine AW.skip (hK_3 _ ?_)
  refine AW.seqK (fun K_5 hK_5=>?_)
  refine AW.block ?_
  refine AW.srwK (fun Q_6 hQ_6=>?_)
  refine Au 2 (sT [(0,jI set_),(1,jI below),(5,.own 0 (List.map e3 l).length),(6,jI n),(13,jI set_),(14,jI n)] [(0,.row 3 1 (List.map e3 l))] 1 0) ?_
  obtain ⟨r0,hx_7,h⟩:=bsome h
  refine rC (k104 set_ n _ hx_7) ?_
  refine RW.nil (hQ_6 _ ?_)
  refine AW.cond rfl (fun hb_8=>?_) (fun hb_8=>?_)
  ·have h:=ifT hb_8 h
   refine AW.rw ?_
   refine Au 3 (sT [(0,jI set_),(1,jI below),(6,jI n),(16,.own 0 (List.map e3 l).length),(18,.own 1 (List.map e3 [n]).length)] [(1,.row 3 1 (List.map e3 [n])),(0,.row 3 1 (List.map e3 l))] 2 0) ?_
   obtain ⟨l1,hv_10,h⟩:=bsome h
   refine RW.one fokW (r_apO trivial rfl rfl rfl rfl rfl rfl (apz hv_10 e3) (apr hv_10 e3) (r_end ?_))
   refine Au 1 (sT [(0,jI set_),(1,jI below),(5,.own 0 (List.map e3 l1).length),(6,jI n)] [(0,.row 3 1 (List.map e3 l1))] 2 0) ?_
   refine RW.nil ?_
   refine hK_5 _ ?_
   refine Ra (sT [(0,jI set_),(1,jI below),(5,.own 0 (List.map e3 l1).length),(6,jI (wr (n+1)))] [(0,.row 3 1 (List.map e3 l1))] 2 0) ?_
   obtain rfl:=Option.some.inj h
   have ew:wr (n+1)=n+1:=inext (N:=below) (by omega) (by omega) (by omega)
   rw [ew]
   exact hK_2 _ (Can.kp (by kernel_rfl))
  ·have h:=ifF hb_8 h
   refine AW.skip (hK_5 _ ?_)
   refine Ra (sT [(0,jI set_),(1,jI below),(5,.own 0 (List.map e3 l).length),(6,jI (wr (n+1)))] [(0,.row 3 1 (List.map e3 l))] 1 0) ?_
   obtain rfl:=Option.some.inj h
   have ew:wr (n+1)=n+1:=inext (N:=below) (by omega) (by omega) (by omega)
   rw [ew]
   exact hK_2 _ (Can.kp (by kernel_rfl))
 ·subst hout
  refine AW.seqK (fun K_11 hK_11=>?_)
  refine Sa (sT [(0,jI set_),(1,jI below),(5,.own 0 (List.map e3 l).length),(6,jI n),(10,.d (.bool (decide (n<below))))] [(0,.row 3 1 (List.map e3 l))] 1 0) ?_
  refine AW.cond rfl (fun hb_12=>False.elim (by have:=of_decide_eq_true hb_12;omega)) (fun hb_12=>?_)
  refine AW.exit ?_
  refine hK_1 _ ?_
  refine Sa (sT [(4,.own 0 (List.map e3 l).length)] [(0,.row 3 1 (List.map e3 l))] 1 0) ?_
  obtain rfl:=Option.some.inj h
  exact AW.ret (hR_0 _ (retX (.cons (.tmp rfl) .nil) (.own rfl rfl) rfl (by kernel_rfl) (by kernel_rfl)))
def g54_3 (l:(List Int)) (m:(List Int)):Int→Option (Ctl (Int) (Ctl (Unit) (Ctl (Unit) (Bool)))):=fun  i=>(bif (decide (i<(l.length:Int))) then (some (decide (i<(m.length:Int)))) else (some false)).bind fun v=>bif v then ((ixL l i).bind fun p=>(ixL m i).bind fun p1=>bif (decide (p≠p1)) then (some (.brk (.brk (.brk (decide (p<p1)))))) else (some (.next (wr (i+1))))) else (some (.brk (.next ())))
def g54 (l:(List Int)) (m:(List Int)):Option Bool:=bindC (bindC (whileC (g54_3 l m) 1000 0:Option (Ctl (Unit) (Ctl (Unit) (Bool)))) fun _=>some (.next ()):Option (Ctl (Unit) (Bool))) fun _=>some (decide ((l.length:Int)<(m.length:Int)))
theorem k54 (l:(List Int)) (m:(List Int)) (r:Bool) (h:g54 l m=some r):SCall Tryd.prog Gs 54 [.d (q1 l),.d (q1 m)] [] 0 Fr.emp (.d (.bool r)) [] 0 Fr.emp:=by
 unfold g54 at h
 refine SCall.mkK Tryd.func54 c54 rfl rfl (by kernel_rfl) (fun Q_0 hR_0 hN_0=>?_)
 refine Sa (sT [(0,.d (q1 l)),(1,.d (q1 m))] [] 0 0) ?_
 obtain ⟨c_1,hx_1,hk_1⟩:=bsomeC h
 refine AW.jnK (fun (_:Unit)=>(sT [(0,.d (q1 l)),(1,.d (q1 m))] [] 0 0)) (c:=c_1) (fun K_1 hK_1=>?_) (fun j_1 hj_1=>?_)
 ·have h:=hx_1
  refine Sa (sT [(0,.d (q1 l)),(1,.d (q1 m)),(5,jI 0)] [] 0 0) ?_
  obtain ⟨c_2,hx_2,hk_2⟩:=bsomeC h
  refine AW.jqK (fun (_:Unit)=>(sT [(0,.d (q1 l)),(1,.d (q1 m))] [] 0 0)) (c:=c_2) (fun K_2 hK_2=>?_) (fun j_2 hj_2=>?_)
  ·have h:=hx_2
   refine AW.block ?_
   refine AW.whK (fun (i:Int)=>(sT [(0,.d (q1 l)),(1,.d (q1 m)),(5,jI i)] [] 0 0)) (g54_3 l m) h (Can.kp (by kernel_rfl)) (fun i c_3 h hb_3 K_3 hK_3=>?_)
   unfold g54_3 at h
   refine AW.seqK fun K_4 hK_4=>AW.srwK fun Q_5 hQ_5=>?_
   refine Au 2 (sT [(0,.d (q1 l)),(1,.d (q1 m)),(5,jI i),(6,jI i),(7,.d (q1 l))] [] 0 0) ?_
   refine rL rfl ?_
   refine Au 2 (sT [(0,.d (q1 l)),(1,.d (q1 m)),(5,jI i),(10,.d (.bool (decide (i<(l.length:Int)))))] [] 0 0) ?_
   obtain ⟨v,hx_6,h⟩:=bsome h
   refine RW.cut fokW 5 ((sT [(0,.d (q1 l)),(1,.d (q1 m)),(5,jI i),(15,.d (.bool v))] [] 0 0)) ?_ ?_
   ·refine r_split 10 rfl (fun hb_7=>?_) (fun hb_7=>?_)
    ·have h:=ifT hb_7 hx_6
     refine aX 2 (sT [(0,.d (q1 l)),(1,.d (q1 m)),(5,jI i),(10,.d (.bool true)),(11,jI i),(12,.d (q1 m))] [] 0 0) ?_
     refine r_lenX rfl rfl lenm ?_
     refine aX 2 (sT [(0,.d (q1 l)),(1,.d (q1 m)),(5,jI i),(15,.d (.bool (decide (i<(m.length:Int)))))] [] 0 0) ?_
     obtain rfl:=Option.some.inj h
     refine RunC.finJ (Can.kp (by kernel_rfl))
    ·have h:=ifF hb_7 hx_6
     refine aX 5 (sT [(0,.d (q1 l)),(1,.d (q1 m)),(5,jI i),(15,.d (.bool false))] [] 0 0) ?_
     obtain rfl:=Option.some.inj h
     refine RunC.finJ (Can.kp (by kernel_rfl))
   ·refine RW.nil (hQ_5 _ ?_)
    refine AW.cond rfl (fun hb_8=>?_) (fun hb_8=>?_)
    ·have h:=ifT hb_8 h
     refine AW.skip (hK_4 _ ?_)
     refine AW.seqK (fun K_9 hK_9=>?_)
     refine AW.block ?_
     refine AW.sdrwK fokW (fun Q_10 hQ_10=>?_)
     refine aX 2 (sT [(0,.d (q1 l)),(1,.d (q1 m)),(5,jI i),(18,.d (q1 l)),(19,jI i)] [] 0 0) ?_
     obtain ⟨p,hv_11,h⟩:=bsome h
     refine r_iaD trivial rfl rfl (ixL_ok hv_11).1 (row:=e3 p) (mapget (ixL_ok hv_11).2) ?_
     refine aX 3 (sT [(0,.d (q1 l)),(1,.d (q1 m)),(5,jI i),(21,jI p),(22,.d (q1 m)),(23,jI i)] [] 0 0) ?_
     obtain ⟨p1,hv_12,h⟩:=bsome h
     refine r_iaD trivial rfl rfl (ixL_ok hv_12).1 (row:=e3 p1) (mapget (ixL_ok hv_12).2) ?_
     refine aX 2 (sT [(0,.d (q1 l)),(1,.d (q1 m)),(5,jI i),(26,.d (.bool (decide (p≠p1))))] [] 0 0) ?_
     refine Fi (sT [(0,.d (q1 l)),(1,.d (q1 m)),(5,jI i),(26,.d (.bool (decide (p≠p1))))] [] 0 0) ?_
     refine hQ_10 _ ?_
     refine AW.cond rfl (fun hb_13=>?_) (fun hb_13=>?_)
     ·have h:=ifT hb_13 h
      refine AW.sdrwK fokW (fun Q_14 hQ_14=>?_)
      refine aX 2 (sT [(1,.d (q1 m)),(5,jI i),(27,.d (q1 l)),(28,jI i)] [] 0 0) ?_
      refine r_iaD trivial rfl rfl (ixL_ok hv_11).1 (row:=e3 p) (mapget (ixL_ok hv_11).2) ?_
      refine aX 3 (sT [(30,jI p),(31,.d (q1 m)),(32,jI i)] [] 0 0) ?_
      refine r_iaD trivial rfl rfl (ixL_ok hv_12).1 (row:=e3 p1) (mapget (ixL_ok hv_12).2) ?_
      refine aX 3 (sT [(4,.d (.bool (decide (p<p1))))] [] 0 0) ?_
      refine Fi (sT [(4,.d (.bool (decide (p<p1))))] [] 0 0) ?_
      refine hQ_14 _ ?_
      obtain rfl:=Option.some.inj h
      obtain rfl:=hb_3 _ rfl
      obtain rfl:=Aft.bk hk_2
      obtain rfl:=Aft.bk hk_1
      exact rT hR_0 (.cons (.tmp rfl) .nil)
     ·have h:=ifF hb_13 h
      refine AW.skip (hK_9 _ ?_)
      refine Ra (sT [(0,.d (q1 l)),(1,.d (q1 m)),(5,jI (wr (i+1)))] [] 0 0) ?_
      obtain rfl:=Option.some.inj h
      exact hK_3 _ _ rfl (Can.kp (by kernel_rfl))
    ·have h:=ifF hb_8 h
     refine AW.exit ?_
     obtain rfl:=Option.some.inj h
     obtain rfl:=hb_3 _ rfl
     exact hK_2 _ _ rfl (Can.kp (by kernel_rfl))
  ·subst hj_2
   have h:=Aft.nx hk_2
   obtain rfl:=Option.some.inj h
   exact hK_1 _ _ rfl (Can.kp (by kernel_rfl))
 ·subst hj_1
  have h:=Aft.nx hk_1
  refine AW.srwK (fun Q_15 hQ_15=>?_)
  refine Au 1 (sT [(1,.d (q1 m)),(36,.d (q1 l))] [] 0 0) ?_
  refine rL rfl ?_
  refine Au 1 (sT [(37,jI (l.length:Int)),(38,.d (q1 m))] [] 0 0) ?_
  refine rL rfl ?_
  refine Au 2 (sT [(4,.d (.bool (decide ((l.length:Int)<(m.length:Int)))))] [] 0 0) ?_
  refine RW.nil (hQ_15 _ ?_)
  obtain rfl:=Option.some.inj h
  exact rT hR_0 (.cons (.tmp rfl) .nil)
def g114 (l:(List Int)) (m:(List Int)):Option Bool:=bif (decide ((l.length:Int)≠(m.length:Int))) then (some (decide ((l.length:Int)<(m.length:Int)))) else ((g54 l m).bind fun r0_1=>some r0_1)
def g41_2 (n:Int):Int→Int→Unit→Option (Ctl (Unit) (Int)):=fun i p _=>bif (decide (p=n)) then (some (.brk i)) else (some (.next ()))
def g41 (l:(List Int)) (n:Int):Option Int:=bindC (eachC (g41_2 n) l 0 ()) fun _=>some (-1)
theorem k41 (l:(List Int)) (n:Int) (r:Int) (h:g41 l n=some r):SCall Tryd.prog Gs 41 [.d (q1 l),jI n] [] 0 Fr.emp (jI r) [] 0 Fr.emp:=by
 unfold g41 at h
 refine SCall.mkK Tryd.func41 c41 rfl rfl (by kernel_rfl) (fun Q_0 hR_0 hN_0=>?_)
 refine Sa (sT [(0,.d (q1 l)),(1,jI n)] [] 0 0) ?_
 refine AW.seqK (fun K_1 hK_1=>?_)
 refine Sa (sT [(0,.d (q1 l)),(1,jI n),(5,jI 0)] [] 0 0) ?_
 refine AW.block ?_
 refine AW.sln (t:=0) rfl (fun hN_2=>?_)
 rw [List.length_map] at hN_2
 obtain ⟨out_2,hx_2,hk_2⟩:=bsomeC h
 refine AW.evCK (fun (i:Int) (_:Unit)=>(sT [(0,.d (q1 l)),(1,jI n),(5,jI i)] [] 0 0)) (g41_2 n) hx_2 (Can.kp (by kernel_rfl)) (fun i p s_2 hi_2 hl_2 hp_2 c_2 h hb_2 K_2 hK_2=>?_) (fun i s_2 hi_2 hl_2 hout=>?_)
 ·unfold g41_2 at h
  refine AW.seqK fun K_3 hK_3=>AW.srwK fun Q_4 hQ_4=>?_
  refine Au 2 (sT [(0,.d (q1 l)),(1,jI n),(5,jI i),(6,jI i),(7,.d (q1 l))] [] 0 0) ?_
  refine rL rfl ?_
  refine Au 1 (sT [(0,.d (q1 l)),(1,jI n),(5,jI i),(9,.d (.bool (decide (i<(l.length:Int)))))] [] 0 0) ?_
  refine RW.nil (hQ_4 _ ?_)
  refine AW.cond rfl (fun hb_5=>?_) (fun hb_5=>False.elim (by have:=of_decide_eq_false hb_5;omega))
  refine AW.skip (hK_3 _ ?_)
  refine AW.seqK (fun K_6 hK_6=>?_)
  refine AW.block ?_
  refine AW.srwK (fun Q_7 hQ_7=>?_)
  refine Au 2 (sT [(0,.d (q1 l)),(1,jI n),(5,jI i),(12,.d (q1 l)),(13,jI i)] [] 0 0) ?_
  refine RW.one fokW (r_iaD trivial rfl rfl hi_2 (row:=e3 p) (mapget hp_2) (r_end ?_))
  refine Au 3 (sT [(0,.d (q1 l)),(1,jI n),(5,jI i),(17,.d (.bool (decide (p=n))))] [] 0 0) ?_
  refine RW.nil (hQ_7 _ ?_)
  refine AW.cond rfl (fun hb_8=>?_) (fun hb_8=>?_)
  ·have h:=ifT hb_8 h
   refine Sa (sT [(4,jI i)] [] 0 0) ?_
   obtain rfl:=Option.some.inj h
   have e_1:=hb_2 _ rfl
   subst e_1
   obtain rfl:=Aft.bk hk_2
   exact rT hR_0 (.cons (.tmp rfl) .nil)
  ·have h:=ifF hb_8 h
   refine AW.skip (hK_6 _ ?_)
   refine Ra (sT [(0,.d (q1 l)),(1,jI n),(5,jI (wr (i+1)))] [] 0 0) ?_
   obtain rfl:=Option.some.inj h
   have ew:wr (i+1)=i+1:=inext (N:=(l.length:Int)) (by omega) (by omega) (by omega)
   rw [ew]
   exact hK_2 _ _ rfl (Can.kp (by kernel_rfl))
 ·subst hout
  have h:=Aft.nx hk_2
  refine AW.seqK fun K_9 hK_9=>AW.srwK fun Q_10 hQ_10=>?_
  refine Au 2 (sT [(0,.d (q1 l)),(1,jI n),(5,jI i),(6,jI i),(7,.d (q1 l))] [] 0 0) ?_
  refine rL rfl ?_
  refine Au 1 (sT [(0,.d (q1 l)),(1,jI n),(5,jI i),(9,.d (.bool (decide (i<(l.length:Int)))))] [] 0 0) ?_
  refine RW.nil (hQ_10 _ ?_)
  refine AW.cond rfl (fun hb_11=>False.elim (by have:=of_decide_eq_true hb_11;omega)) (fun hb_11=>?_)
  refine AW.exit ?_
  refine hK_1 _ ?_
  refine Sa (sT [(4,jI (-1))] [] 0 0) ?_
  obtain rfl:=Option.some.inj h
  exact rT hR_0 (.cons (.tmp rfl) .nil)
end Go.Proofs.Tr
namespace Go.Proofs.Tr
open Go Go.Abs Go.Proofs
def g36_4 (r0_2:(List Int)):Int→(List Int)→(List Bool)→Option (List Bool):=fun i p l=>(g41 r0_2 i).bind fun r0_1=>(appL 1 l [(decide (r0_1<0))]).bind fun l1=>some l1
def g36 (b:HarnessBook):Option ((List Bool)×Bool):=(g91 b.Hair).bind fun (r0_2,r1_1)=>(eachS (g36_4 r0_2) b.Needs 0 ([]:List Bool)).bind fun l=>some (l,(decide (r1_1=0)))
theorem k36 (b:HarnessBook) (r:(List Bool)×Bool) (h:g36 b=some r):SCall Tryd.prog Gs 36 [.agg (cv29 b)] [] 0 Fr.emp (match r with | (r0,r1)=>.tup [.d (.sl 1 (List.map e4 r0)),.d (.bool r1)]) [] 0 Fr.emp:=by
 unfold g36 at h
 refine SCall.mkK Tryd.func36 c36 rfl rfl (by kernel_rfl) (fun Q_0 hR_0 hN_0=>?_)
 refine Sa (sT [pR 1 0] [(0,.var 29 (cv29 b))] 1 0) ?_
 refine AW.srwK (fun Q_1 hQ_1=>?_)
 refine Au 2 (sT [pR 1 0,(10,.agg (cv25 b.Hair))] [(0,.var 29 (cv29 b))] 1 0) ?_
 obtain ⟨⟨r0_2,r1_1⟩,hx_2,h⟩:=bsome h
 refine rC (k91 b.Hair _ hx_2) ?_
 refine Au 5 (sT [pR 1 0,(4,.d (q1 r0_2)),(5,jI r1_1)] [(0,.var 29 (cv29 b))] 1 0) ?_
 refine RW.nil (hQ_1 _ ?_)
 refine Sa (sT [pR 1 0,(4,.d (q1 r0_2)),(5,jI r1_1),(6,.d (.nilSl))] [(0,.var 29 (cv29 b))] 1 0) ?_
 refine AW.seqK (fun K_3 hK_3=>?_)
 refine Sa (sT [pR 1 0,(4,.d (q1 r0_2)),(5,jI r1_1),(6,.d (.nilSl)),(7,jI 0)] [(0,.var 29 (cv29 b))] 1 0) ?_
 refine AW.block ?_
 refine AW.slh (r:=0) (off:=5) rfl rfl (fun hN_4=>?_)
 rw [List.length_map] at hN_4
 obtain ⟨out_4,hx_4,h⟩:=bsome h
 refine AW.evSK (fun (i:Int) (l:List Bool)=>(sT [pR 1 0,(4,.d (q1 r0_2)),(5,jI r1_1),(6,.own 1 (List.map e4 l).length),(7,jI i)] [(1,.row 4 1 (List.map e4 l)),(0,.var 29 (cv29 b))] 2 0)) (g36_4 r0_2) hx_4 (Can.trans (Can.thawT 6 4 1 rfl rfl) (Can.kp (by kernel_rfl))) (fun i p l hi_4 hl_4 hp_4 c_4 h K_4 hK_4=>?_) (fun i l hi_4 hl_4 hout=>?_)
 ·unfold g36_4 at h
  refine AW.seqK fun K_5 hK_5=>AW.srwK fun Q_6 hQ_6=>?_
  refine Au 3 (sT [pR 1 0,(4,.d (q1 r0_2)),(5,jI r1_1),(6,.own 1 (List.map e4 l).length),(7,jI i),(14,jI i),(16,.d (.sl 1 (List.map e30 b.Needs)))] [(1,.row 4 1 (List.map e4 l)),(0,.var 29 (cv29 b))] 2 0) ?_
  refine rL rfl ?_
  refine Au 1 (sT [pR 1 0,(4,.d (q1 r0_2)),(5,jI r1_1),(6,.own 1 (List.map e4 l).length),(7,jI i),(18,.d (.bool (decide (i<(b.Needs.length:Int)))))] [(1,.row 4 1 (List.map e4 l)),(0,.var 29 (cv29 b))] 2 0) ?_
  refine RW.nil (hQ_6 _ ?_)
  refine AW.cond rfl (fun hb_7=>?_) (fun hb_7=>False.elim (by have:=of_decide_eq_false hb_7;omega))
  refine AW.skip (hK_5 _ ?_)
  refine AW.seqK (fun K_8 hK_8=>?_)
  refine AW.block ?_
  refine AW.rw ?_
  refine Au 3 (sT [pR 1 0,(4,.d (q1 r0_2)),(5,jI r1_1),(7,jI i),(21,.own 1 (List.map e4 l).length),(22,.d (q1 r0_2)),(23,jI i)] [(1,.row 4 1 (List.map e4 l)),(0,.var 29 (cv29 b))] 2 0) ?_
  obtain ⟨r0_1,hx_10,h⟩:=bsome h
  refine rC (k41 r0_2 i _ hx_10) ?_
  refine Au 2 (sT [pR 1 0,(4,.d (q1 r0_2)),(5,jI r1_1),(7,jI i),(21,.own 1 (List.map e4 l).length),(26,.own 2 (List.map e4 [(decide (r0_1<0))]).length)] [(2,.row 4 1 (List.map e4 [(decide (r0_1<0))])),(1,.row 4 1 (List.map e4 l)),(0,.var 29 (cv29 b))] 3 0) ?_
  obtain ⟨l1,hv_11,h⟩:=bsome h
  refine RW.one fokW (r_apO trivial rfl rfl rfl rfl rfl rfl (apz hv_11 e4) (apr hv_11 e4) (r_end ?_))
  refine Au 1 (sT [pR 1 0,(4,.d (q1 r0_2)),(5,jI r1_1),(6,.own 1 (List.map e4 l1).length),(7,jI i)] [(1,.row 4 1 (List.map e4 l1)),(0,.var 29 (cv29 b))] 3 0) ?_
  refine RW.nil ?_
  refine hK_8 _ ?_
  refine Ra (sT [pR 1 0,(4,.d (q1 r0_2)),(5,jI r1_1),(6,.own 1 (List.map e4 l1).length),(7,jI (wr (i+1)))] [(1,.row 4 1 (List.map e4 l1)),(0,.var 29 (cv29 b))] 3 0) ?_
  obtain rfl:=Option.some.inj h
  have ew:wr (i+1)=i+1:=inext (N:=(b.Needs.length:Int)) (by omega) (by omega) (by omega)
  rw [ew]
  exact hK_4 _ (Can.kp (by kernel_rfl))
 ·subst hout
  refine AW.seqK fun K_12 hK_12=>AW.srwK fun Q_13 hQ_13=>?_
  refine Au 3 (sT [pR 1 0,(4,.d (q1 r0_2)),(5,jI r1_1),(6,.own 1 (List.map e4 l).length),(7,jI i),(14,jI i),(16,.d (.sl 1 (List.map e30 b.Needs)))] [(1,.row 4 1 (List.map e4 l)),(0,.var 29 (cv29 b))] 2 0) ?_
  refine rL rfl ?_
  refine Au 1 (sT [pR 1 0,(4,.d (q1 r0_2)),(5,jI r1_1),(6,.own 1 (List.map e4 l).length),(7,jI i),(18,.d (.bool (decide (i<(b.Needs.length:Int)))))] [(1,.row 4 1 (List.map e4 l)),(0,.var 29 (cv29 b))] 2 0) ?_
  refine RW.nil (hQ_13 _ ?_)
  refine AW.cond rfl (fun hb_14=>False.elim (by have:=of_decide_eq_true hb_14;omega)) (fun hb_14=>?_)
  refine AW.exit ?_
  refine hK_3 _ ?_
  refine Sa (sT [(2,.own 1 (List.map e4 l).length),(3,.d (.bool (decide (r1_1=0))))] [(1,.row 4 1 (List.map e4 l))] 2 0) ?_
  obtain rfl:=Option.some.inj h
  exact AW.ret (hR_0 _ (retX (.cons (.tmp rfl) (.cons (.tmp rfl) .nil)) (Frz.tup_of ⟨.own rfl rfl,.refl _,trivial⟩) rfl (by kernel_rfl) (by kernel_rfl)))
end Go.Proofs.Tr
namespace Go.Proofs.Tr
open Go Go.Abs Go.Proofs
def g40 (b:HarnessBook):Option (List Int):=(must (decide (0≤(b.Needs.length:Int)))).bind fun _=>(g74 (wr ((shl64 1 (b.Needs.length:Int)) - 1)) (b.Needs.length:Int)).bind fun r0_1=>some r0_1
theorem k40 (b:HarnessBook) (r:(List Int)) (h:g40 b=some r):SCall Tryd.prog Gs 40 [.agg (cv29 b)] [] 0 Fr.emp (.d (q1 r)) [] 0 Fr.emp:=by
 unfold g40 at h
 refine SCall.mkK Tryd.func40 c40 rfl rfl (by kernel_rfl) (fun Q_0 hR_0 hN_0=>?_)
 refine Sa (sT [pR 1 0] [(0,.var 29 (cv29 b))] 1 0) ?_
 refine AW.sdrwK fokW (fun Q_1 hQ_1=>?_)
 refine aX 2 (sT [pR 1 0,(4,.d (.sl 1 (List.map e30 b.Needs)))] [(0,.var 29 (cv29 b))] 1 0) ?_
 refine r_lenX trivial rfl lenm ?_
 obtain ⟨_,hv_2,h⟩:=bsome h
 refine r_sh trivial rfl rfl (shl64_ok (of_decide_eq_true (must_ok hv_2))) ?_
 refine aX 3 (sT [(7,jI (wr ((shl64 1 (b.Needs.length:Int)) - 1))),(9,.d (.sl 1 (List.map e30 b.Needs)))] [(0,.var 29 (cv29 b))] 1 0) ?_
 refine r_lenX trivial rfl lenm ?_
 obtain ⟨r0_1,hx_3,h⟩:=bsome h
 refine r_call trivial rfl (k74 (wr ((shl64 1 (b.Needs.length:Int)) - 1)) (b.Needs.length:Int) _ hx_3) rfl rfl ?_
 refine aX 1 (sT [(2,.d (q1 r0_1))] [(0,.var 29 (cv29 b))] 1 0) ?_
 refine Fi (sT [(2,.d (q1 r0_1))] [] 1 0) ?_
 refine hQ_1 _ ?_
 obtain rfl:=Option.some.inj h
 exact rT hR_0 (.cons (.tmp rfl) .nil)
def g51 (l:(List Int)) (n:Int):Option Int:=bif (decide ((l.length:Int)=0)) then (some 0) else ((g45 n (l.length:Int)).bind fun r0_2=>(ixL l r0_2).bind fun p=>some p)
theorem k51 (l:(List Int)) (n:Int) (r:Int) (h:g51 l n=some r):SCall Tryd.prog Gs 51 [.d (q1 l),jI n] [] 0 Fr.emp (jI r) [] 0 Fr.emp:=by
 unfold g51 at h
 refine SCall.mkK Tryd.func51 c51 rfl rfl (by kernel_rfl) (fun Q_0 hR_0 hN_0=>?_)
 refine Sa (sT [(0,.d (q1 l)),(1,jI n)] [] 0 0) ?_
 refine AW.seqK fun K_1 hK_1=>AW.srwK fun Q_2 hQ_2=>?_
 refine Au 1 (sT [(0,.d (q1 l)),(1,jI n),(5,.d (q1 l))] [] 0 0) ?_
 refine rL rfl ?_
 refine Au 1 (sT [(0,.d (q1 l)),(1,jI n),(7,.d (.bool (decide ((l.length:Int)=0))))] [] 0 0) ?_
 refine RW.nil (hQ_2 _ ?_)
 refine AW.cond rfl (fun hb_3=>?_) (fun hb_3=>?_)
 ·have h:=ifT hb_3 h
  refine Sa (sT [(4,jI 0)] [] 0 0) ?_
  obtain rfl:=Option.some.inj h
  exact rT hR_0 (.cons (.tmp rfl) .nil)
 ·have h:=ifF hb_3 h
  refine AW.skip (hK_1 _ ?_)
  refine AW.srwK (fun Q_4 hQ_4=>?_)
  refine Au 3 (sT [(8,.d (q1 l)),(9,jI n),(10,.d (q1 l))] [] 0 0) ?_
  refine rL rfl ?_
  obtain ⟨r0_2,hx_5,h⟩:=bsome h
  refine rC (k45 n (l.length:Int) _ hx_5) ?_
  obtain ⟨p,hv_6,h⟩:=bsome h
  refine RW.one fokW (r_iaD trivial rfl rfl (ixL_ok hv_6).1 (row:=e3 p) (mapget (ixL_ok hv_6).2) (r_end ?_))
  refine Au 2 (sT [(4,jI p)] [] 0 0) ?_
  refine RW.nil (hQ_4 _ ?_)
  obtain rfl:=Option.some.inj h
  exact rT hR_0 (.cons (.tmp rfl) .nil)
def g52_2 (at_:Int):Int→Int→(List Int)→Option (List Int):=fun i p l1=>bif (decide (i≠at_)) then ((appL 8 l1 [p]).bind fun l2=>some l2) else (some l1)
def g52 (l:(List Int)) (at_:Int):Option (List Int):=(eachS (g52_2 at_) l 0 ([]:List Int)).bind fun l1=>some l1
theorem k52 (l:(List Int)) (at_:Int) (r:(List Int)) (h:g52 l at_=some r):SCall Tryd.prog Gs 52 [.d (q1 l),jI at_] [] 0 Fr.emp (.d (q1 r)) [] 0 Fr.emp:=by
 unfold g52 at h
 refine SCall.mkK Tryd.func52 c52 rfl rfl (by kernel_rfl) (fun Q_0 hR_0 hN_0=>?_)
 refine Sa (sT [(0,.d (q1 l)),(1,jI at_)] [] 0 0) ?_
 refine Sa (sT [(0,.d (q1 l)),(1,jI at_),(5,.own 0 (List.map e3 []).length)] [(0,.row 3 1 (List.map e3 []))] 1 0) ?_
 refine AW.seqK (fun K_1 hK_1=>?_)
 refine Sa (sT [(0,.d (q1 l)),(1,jI at_),(5,.own 0 (List.map e3 []).length),(6,jI 0)] [(0,.row 3 1 (List.map e3 []))] 1 0) ?_
 refine AW.block ?_
 refine AW.sln (t:=0) rfl (fun hN_2=>?_)
 rw [List.length_map] at hN_2
 obtain ⟨out_2,hx_2,h⟩:=bsome h
 refine AW.evSK (fun (i:Int) (l1:List Int)=>(sT [(0,.d (q1 l)),(1,jI at_),(5,.own 0 (List.map e3 l1).length),(6,jI i)] [(0,.row 3 1 (List.map e3 l1))] 1 0)) (g52_2 at_) hx_2 (Can.kp (by kernel_rfl)) (fun i p l1 hi_2 hl_2 hp_2 c_2 h K_2 hK_2=>?_) (fun i l1 hi_2 hl_2 hout=>?_)
 ·unfold g52_2 at h
  refine AW.seqK fun K_3 hK_3=>AW.srwK fun Q_4 hQ_4=>?_
  refine Au 2 (sT [(0,.d (q1 l)),(1,jI at_),(5,.own 0 (List.map e3 l1).length),(6,jI i),(8,jI i),(9,.d (q1 l))] [(0,.row 3 1 (List.map e3 l1))] 1 0) ?_
  refine rL rfl ?_
  refine Au 1 (sT [(0,.d (q1 l)),(1,jI at_),(5,.own 0 (List.map e3 l1).length),(6,jI i),(11,.d (.bool (decide (i<(l.length:Int)))))] [(0,.row 3 1 (List.map e3 l1))] 1 0) ?_
  refine RW.nil (hQ_4 _ ?_)
  refine AW.cond rfl (fun hb_5=>?_) (fun hb_5=>False.elim (by have:=of_decide_eq_false hb_5;omega))
  refine AW.skip (hK_3 _ ?_)
  refine AW.seqK (fun K_6 hK_6=>?_)
  refine AW.block ?_
  refine Sa (sT [(0,.d (q1 l)),(1,jI at_),(5,.own 0 (List.map e3 l1).length),(6,jI i),(16,.d (.bool (decide (i≠at_))))] [(0,.row 3 1 (List.map e3 l1))] 1 0) ?_
  refine AW.cond rfl (fun hb_7=>?_) (fun hb_7=>?_)
  ·have h:=ifT hb_7 h
   refine AW.rw ?_
   refine Au 3 (sT [(0,.d (q1 l)),(1,jI at_),(6,jI i),(17,.own 0 (List.map e3 l1).length),(18,.d (q1 l)),(19,jI i)] [(0,.row 3 1 (List.map e3 l1))] 1 0) ?_
   refine RW.one fokW (r_iaD trivial rfl rfl hi_2 (row:=e3 p) (mapget hp_2) (r_end ?_))
   refine Au 2 (sT [(0,.d (q1 l)),(1,jI at_),(6,jI i),(17,.own 0 (List.map e3 l1).length),(22,.own 1 (List.map e3 [p]).length)] [(1,.row 3 1 (List.map e3 [p])),(0,.row 3 1 (List.map e3 l1))] 2 0) ?_
   obtain ⟨l2,hv_9,h⟩:=bsome h
   refine RW.one fokW (r_apO trivial rfl rfl rfl rfl rfl rfl (apz hv_9 e3) (apr hv_9 e3) (r_end ?_))
   refine Au 1 (sT [(0,.d (q1 l)),(1,jI at_),(5,.own 0 (List.map e3 l2).length),(6,jI i)] [(0,.row 3 1 (List.map e3 l2))] 2 0) ?_
   refine RW.nil ?_
   refine hK_6 _ ?_
   refine Ra (sT [(0,.d (q1 l)),(1,jI at_),(5,.own 0 (List.map e3 l2).length),(6,jI (wr (i+1)))] [(0,.row 3 1 (List.map e3 l2))] 2 0) ?_
   obtain rfl:=Option.some.inj h
   have ew:wr (i+1)=i+1:=inext (N:=(l.length:Int)) (by omega) (by omega) (by omega)
   rw [ew]
   exact hK_2 _ (Can.kp (by kernel_rfl))
  ·have h:=ifF hb_7 h
   refine AW.skip (hK_6 _ ?_)
   refine Ra (sT [(0,.d (q1 l)),(1,jI at_),(5,.own 0 (List.map e3 l1).length),(6,jI (wr (i+1)))] [(0,.row 3 1 (List.map e3 l1))] 1 0) ?_
   obtain rfl:=Option.some.inj h
   have ew:wr (i+1)=i+1:=inext (N:=(l.length:Int)) (by omega) (by omega) (by omega)
   rw [ew]
   exact hK_2 _ (Can.kp (by kernel_rfl))
 ·subst hout
  refine AW.seqK fun K_10 hK_10=>AW.srwK fun Q_11 hQ_11=>?_
  refine Au 2 (sT [(0,.d (q1 l)),(1,jI at_),(5,.own 0 (List.map e3 l1).length),(6,jI i),(8,jI i),(9,.d (q1 l))] [(0,.row 3 1 (List.map e3 l1))] 1 0) ?_
  refine rL rfl ?_
  refine Au 1 (sT [(0,.d (q1 l)),(1,jI at_),(5,.own 0 (List.map e3 l1).length),(6,jI i),(11,.d (.bool (decide (i<(l.length:Int)))))] [(0,.row 3 1 (List.map e3 l1))] 1 0) ?_
  refine RW.nil (hQ_11 _ ?_)
  refine AW.cond rfl (fun hb_12=>False.elim (by have:=of_decide_eq_true hb_12;omega)) (fun hb_12=>?_)
  refine AW.exit ?_
  refine hK_1 _ ?_
  refine Sa (sT [(4,.own 0 (List.map e3 l1).length)] [(0,.row 3 1 (List.map e3 l1))] 1 0) ?_
  obtain rfl:=Option.some.inj h
  exact AW.ret (hR_0 _ (retX (.cons (.tmp rfl) .nil) (.own rfl rfl) rfl (by kernel_rfl) (by kernel_rfl)))
def g39_31 (b:HarnessBook) (p:Int) (l8:List Bool):(Int×(List Int))→Option (Ctl (Int×(List Int)) (List Int)):=fun  (k1,l10)=>(ixL l8 p).bind fun p7=>(bif p7 then (some (decide (k1<(l10.length:Int)))) else (some false)).bind fun v=>bif v then ((ixL l10 k1).bind fun p8=>(ixL b.Needs p).bind fun p9=>(ixL p9 k1).bind fun p10=>some (.next ((wr (k1+1)),(setL l10 k1 (wr (p8 - p10)))))) else (some (.brk l10))
def g39_17 (b:HarnessBook) (p:Int):Int→Int→(List Bool)→Option (List Bool):=fun k p3 l8=>(ixL l8 p).bind fun p4=>bif p4 then ((ixL b.Needs p).bind fun p5=>(ixL p5 k).bind fun p6=>some (setL l8 p (decide (p6≤p3)))) else (some (setL l8 p false))
def g39_7 (b:HarnessBook) (has:(List Bool)):Int→Int→((List Bool)×(List Int))→Option ((List Bool)×(List Int)):=fun i p (l4,l5)=>((ixL has p).bind fun p1=>(ixL l4 p).bind fun p2=>(eachS (g39_17 b p) l5 0 (setL l4 p p1)).bind fun l8=>(whileC (g39_31 b p l8) 1000 (0,l5)).bind fun l9=>some (l8,l9)).bind fun (l6,l7)=>some (l6,l7)
def g39 (b:HarnessBook) (has:(List Bool)) (order:(List Int)) (stock:(List Int)):Option (List Bool):=(mkL2 1 (b.Needs.length:Int) (b.Needs.length:Int) false).bind fun l=>(appL 8 ([]:List Int) stock).bind fun l1=>(((eachS (g39_7 b has) order 0 (l,l1)).bind fun (l4,l5)=>some l4).bind fun l3=>some l3).bind fun l2=>some l2
theorem k39 (b:HarnessBook) (has:(List Bool)) (order:(List Int)) (stock:(List Int)) (r:(List Bool)) (h:g39 b has order stock=some r):SCall Tryd.prog Gs 39 [.agg (cv29 b),.d (.sl 1 (List.map e4 has)),.d (q1 order),.d (q1 stock)] [] 0 Fr.emp (.d (.sl 1 (List.map e4 r))) [] 0 Fr.emp:=by
 unfold g39 at h
 refine SCall.mkK Tryd.func39 c39 rfl rfl (by kernel_rfl) (fun Q_0 hR_0 hN_0=>?_)
 refine Sa (sT [(1,.d (.sl 1 (List.map e4 has))),(2,.d (q1 order)),(3,.d (q1 stock)),pR 4 0] [(0,.var 29 (cv29 b))] 1 0) ?_
 refine AW.srwK (fun Q_1 hQ_1=>?_)
 refine Au 2 (sT [(1,.d (.sl 1 (List.map e4 has))),(2,.d (q1 order)),(3,.d (q1 stock)),pR 4 0,(16,.d (.sl 1 (List.map e30 b.Needs)))] [(0,.var 29 (cv29 b))] 1 0) ?_
 refine rL rfl ?_
 obtain ⟨l,hv_2,h⟩:=bsome h
 refine RW.one fokW (r_mkX e4 trivial rfl rfl hv_2 rfl (r_end ?_))
 refine Au 1 (sT [(1,.d (.sl 1 (List.map e4 has))),(2,.d (q1 order)),(3,.d (q1 stock)),pR 4 0,(9,.own 1 (List.map e4 l).length)] [(1,.row 4 1 (List.map e4 l)),(0,.var 29 (cv29 b))] 2 0) ?_
 refine RW.nil (hQ_1 _ ?_)
 refine AW.srwK (fun Q_3 hQ_3=>?_)
 refine Au 2 (sT [(1,.d (.sl 1 (List.map e4 has))),(2,.d (q1 order)),pR 4 0,(9,.own 1 (List.map e4 l).length),(19,.own 2 (List.map e3 []).length),(20,.d (q1 stock))] [(2,.row 3 1 (List.map e3 [])),(1,.row 4 1 (List.map e4 l)),(0,.var 29 (cv29 b))] 3 0) ?_
 obtain ⟨l1,hv_4,h⟩:=bsome h
 refine RW.one fokW (r_apD trivial rfl rfl rfl rfl (apz hv_4 e3) (apr hv_4 e3) (r_end ?_))
 refine Au 1 (sT [(1,.d (.sl 1 (List.map e4 has))),(2,.d (q1 order)),pR 4 0,(9,.own 1 (List.map e4 l).length),(10,.own 2 (List.map e3 l1).length)] [(2,.row 3 1 (List.map e3 l1)),(1,.row 4 1 (List.map e4 l)),(0,.var 29 (cv29 b))] 3 0) ?_
 refine RW.nil (hQ_3 _ ?_)
 obtain ⟨l2,hx_5,h⟩:=bsome h
 refine AW.jnSK (fun (l2:List Bool)=>(sT [(9,.own 1 (List.map e4 l2).length)] [(1,.row 4 1 (List.map e4 l2))] 3 0)) (c:=l2) (fun K_5 hK_5=>?_) ?_
 ·have h:=hx_5
  refine Sa (sT [(1,.d (.sl 1 (List.map e4 has))),(2,.d (q1 order)),pR 4 0,(9,.own 1 (List.map e4 l).length),(10,.own 2 (List.map e3 l1).length),(11,jI 0)] [(2,.row 3 1 (List.map e3 l1)),(1,.row 4 1 (List.map e4 l)),(0,.var 29 (cv29 b))] 3 0) ?_
  obtain ⟨l3,hx_6,h⟩:=bsome h
  refine AW.jqSK (fun (l3:List Bool)=>(sT [(9,.own 1 (List.map e4 l3).length)] [(1,.row 4 1 (List.map e4 l3))] 3 0)) (c:=l3) (fun K_6 hK_6=>?_) ?_
  ·have h:=hx_6
   refine AW.block ?_
   refine AW.sln (t:=2) rfl (fun hN_7=>?_)
   rw [List.length_map] at hN_7
   obtain ⟨out_7,hx_7,h⟩:=bsome h
   refine AW.evSK (fun (i:Int) (⟨l4,l5⟩:(List Bool)×(List Int))=>(sT [(1,.d (.sl 1 (List.map e4 has))),(2,.d (q1 order)),pR 4 0,(9,.own 1 (List.map e4 l4).length),(10,.own 2 (List.map e3 l5).length),(11,jI i)] [(2,.row 3 1 (List.map e3 l5)),(1,.row 4 1 (List.map e4 l4)),(0,.var 29 (cv29 b))] 3 0)) (g39_7 b has) hx_7 (Can.kp (by kernel_rfl)) (fun i p s_7 hi_7 hl_7 hp_7 c_7 h K_7 hK_7=>?_) (fun i s_7 hi_7 hl_7 hout=>?_)
   ·obtain ⟨l4,l5⟩:=s_7
    unfold g39_7 at h
    refine AW.seqK fun K_8 hK_8=>AW.srwK fun Q_9 hQ_9=>?_
    refine Au 2 (sT [(1,.d (.sl 1 (List.map e4 has))),(2,.d (q1 order)),pR 4 0,(9,.own 1 (List.map e4 l4).length),(10,.own 2 (List.map e3 l5).length),(11,jI i),(22,jI i),(23,.d (q1 order))] [(2,.row 3 1 (List.map e3 l5)),(1,.row 4 1 (List.map e4 l4)),(0,.var 29 (cv29 b))] 3 0) ?_
    refine rL rfl ?_
    refine Au 1 (sT [(1,.d (.sl 1 (List.map e4 has))),(2,.d (q1 order)),pR 4 0,(9,.own 1 (List.map e4 l4).length),(10,.own 2 (List.map e3 l5).length),(11,jI i),(25,.d (.bool (decide (i<(order.length:Int)))))] [(2,.row 3 1 (List.map e3 l5)),(1,.row 4 1 (List.map e4 l4)),(0,.var 29 (cv29 b))] 3 0) ?_
    refine RW.nil (hQ_9 _ ?_)
    refine AW.cond rfl (fun hb_10=>?_) (fun hb_10=>False.elim (by have:=of_decide_eq_false hb_10;omega))
    refine AW.skip (hK_8 _ ?_)
    obtain ⟨c_11,hx_11,h⟩:=bsome h
    refine AW.jnSK (fun (⟨l6,l7⟩:(List Bool)×(List Int))=>(sT [(1,.d (.sl 1 (List.map e4 has))),(2,.d (q1 order)),pR 4 0,(9,.own 1 (List.map e4 l6).length),(10,.own 2 (List.map e3 l7).length),(11,jI i)] [(1,.row 4 1 (List.map e4 l6)),(2,.row 3 1 (List.map e3 l7)),(0,.var 29 (cv29 b))] 3 0)) (c:=c_11) (fun K_11 hK_11=>?_) ?_
    ·have h:=hx_11
     refine AW.block ?_
     refine AW.srwK (fun Q_12 hQ_12=>?_)
     refine Au 2 (sT [(1,.d (.sl 1 (List.map e4 has))),(2,.d (q1 order)),pR 4 0,(9,.own 1 (List.map e4 l4).length),(10,.own 2 (List.map e3 l5).length),(11,jI i),(28,.d (q1 order)),(29,jI i)] [(2,.row 3 1 (List.map e3 l5)),(1,.row 4 1 (List.map e4 l4)),(0,.var 29 (cv29 b))] 3 0) ?_
     refine RW.one fokW (r_iaD trivial rfl rfl hi_7 (row:=e3 p) (mapget hp_7) (r_end ?_))
     refine Au 2 (sT [(1,.d (.sl 1 (List.map e4 has))),(2,.d (q1 order)),pR 4 0,(9,.own 1 (List.map e4 l4).length),(10,.own 2 (List.map e3 l5).length),(11,jI i),(12,jI p)] [(2,.row 3 1 (List.map e3 l5)),(1,.row 4 1 (List.map e4 l4)),(0,.var 29 (cv29 b))] 3 0) ?_
     refine RW.nil (hQ_12 _ ?_)
     refine AW.srwK (fun Q_13 hQ_13=>?_)
     refine Au 4 (sT [(1,.d (.sl 1 (List.map e4 has))),(2,.d (q1 order)),pR 4 0,(9,.own 1 (List.map e4 l4).length),(10,.own 2 (List.map e3 l5).length),(11,jI i),(12,jI p),(32,.own 1 (List.map e4 l4).length),(33,jI p),(34,.d (.sl 1 (List.map e4 has))),(35,jI p)] [(2,.row 3 1 (List.map e3 l5)),(1,.row 4 1 (List.map e4 l4)),(0,.var 29 (cv29 b))] 3 0) ?_
     obtain ⟨p1,hv_14,h⟩:=bsome h
     refine RW.one fokW (r_iaD trivial rfl rfl (ixL_ok hv_14).1 (row:=e4 p1) (mapget (ixL_ok hv_14).2) (r_end ?_))
     refine Au 1 (sT [(1,.d (.sl 1 (List.map e4 has))),(2,.d (q1 order)),pR 4 0,(9,.own 1 (List.map e4 l4).length),(10,.own 2 (List.map e3 l5).length),(11,jI i),(12,jI p),(32,.own 1 (List.map e4 l4).length),(33,jI p),(37,.d (.bool p1))] [(2,.row 3 1 (List.map e3 l5)),(1,.row 4 1 (List.map e4 l4)),(0,.var 29 (cv29 b))] 3 0) ?_
     obtain ⟨p2,hv_15,h⟩:=bsome h
     refine RW.one fokW (r_iaO trivial rfl rfl rfl (ixL_ok hv_15).1 (ix_lt (ixL_ok hv_15).2) rfl (r_end ?_))
     refine RW.one fokW (r_stE trivial rfl rfl rfl rfl (mapget (f:=e4) (ixL_ok hv_15).2) rfl rfl rfl (Nat.le_of_ble_eq_true rfl) (stz (f:=e4) (x:=p1) rfl) (r_end ?_))
     rw [lenset (f:=e4) (xs:=l4) (i:=p) (x:=p1)]
     refine RW.nil (hQ_13 _ ?_)
     refine AW.seqK (fun K_16 hK_16=>?_)
     refine Sa (sT [(1,.d (.sl 1 (List.map e4 has))),(2,.d (q1 order)),pR 4 0,(9,.own 1 (List.map e4 (setL l4 p p1)).length),(10,.own 2 (List.map e3 l5).length),(11,jI i),(12,jI p),(13,jI 0)] [(1,.row 4 1 (List.map e4 (setL l4 p p1))),(2,.row 3 1 (List.map e3 l5)),(0,.var 29 (cv29 b))] 3 0) ?_
     refine AW.block ?_
     refine AW.slo (t:=10) rfl (fun hN_17=>?_)
     rw [List.length_map] at hN_17
     obtain ⟨out_17,hx_17,h⟩:=bsome h
     refine AW.evSK (fun (k:Int) (l8:List Bool)=>(sT [(1,.d (.sl 1 (List.map e4 has))),(2,.d (q1 order)),pR 4 0,(9,.own 1 (List.map e4 l8).length),(10,.own 2 (List.map e3 l5).length),(11,jI i),(12,jI p),(13,jI k)] [(1,.row 4 1 (List.map e4 l8)),(2,.row 3 1 (List.map e3 l5)),(0,.var 29 (cv29 b))] 3 0)) (g39_17 b p) hx_17 (Can.kp (by kernel_rfl)) (fun k p3 l8 hi_17 hl_17 hp_17 c_17 h K_17 hK_17=>?_) (fun k l8 hi_17 hl_17 hout=>?_)
     ·unfold g39_17 at h
      refine AW.seqK fun K_18 hK_18=>AW.srwK fun Q_19 hQ_19=>?_
      refine Au 2 (sT [(1,.d (.sl 1 (List.map e4 has))),(2,.d (q1 order)),pR 4 0,(9,.own 1 (List.map e4 l8).length),(10,.own 2 (List.map e3 l5).length),(11,jI i),(12,jI p),(13,jI k),(39,jI k),(40,.own 2 (List.map e3 l5).length)] [(1,.row 4 1 (List.map e4 l8)),(2,.row 3 1 (List.map e3 l5)),(0,.var 29 (cv29 b))] 3 0) ?_
      refine RW.one fokW (r_lenY trivial rfl lenm (r_end ?_))
      refine Au 1 (sT [(1,.d (.sl 1 (List.map e4 has))),(2,.d (q1 order)),pR 4 0,(9,.own 1 (List.map e4 l8).length),(10,.own 2 (List.map e3 l5).length),(11,jI i),(12,jI p),(13,jI k),(42,.d (.bool (decide (k<(l5.length:Int)))))] [(1,.row 4 1 (List.map e4 l8)),(2,.row 3 1 (List.map e3 l5)),(0,.var 29 (cv29 b))] 3 0) ?_
      refine RW.nil (hQ_19 _ ?_)
      refine AW.cond rfl (fun hb_20=>?_) (fun hb_20=>False.elim (by have:=of_decide_eq_false hb_20;omega))
      refine AW.skip (hK_18 _ ?_)
      refine AW.seqK (fun K_21 hK_21=>?_)
      refine AW.block ?_
      refine AW.drw fokW ?_
      refine aX 4 (sT [(1,.d (.sl 1 (List.map e4 has))),(2,.d (q1 order)),pR 4 0,(9,.own 1 (List.map e4 l8).length),(10,.own 2 (List.map e3 l5).length),(11,jI i),(12,jI p),(13,jI k),(45,.own 1 (List.map e4 l8).length),(46,jI p),(47,.own 1 (List.map e4 l8).length),(48,jI p)] [(1,.row 4 1 (List.map e4 l8)),(2,.row 3 1 (List.map e3 l5)),(0,.var 29 (cv29 b))] 3 0) ?_
      obtain ⟨p4,hv_23,h⟩:=bsome h
      refine r_iaO trivial rfl rfl rfl (ixL_ok hv_23).1 (ix_lt (ixL_ok hv_23).2) rfl ?_
      refine r_loadE trivial rfl rfl rfl (mapget (f:=e4) (ixL_ok hv_23).2) rfl ?_
      refine aX 1 (sT [(1,.d (.sl 1 (List.map e4 has))),(2,.d (q1 order)),pR 4 0,(9,.own 1 (List.map e4 l8).length),(10,.own 2 (List.map e3 l5).length),(11,jI i),(12,jI p),(13,jI k),(45,.own 1 (List.map e4 l8).length),(46,jI p),(51,.d (.bool p4))] [(1,.row 4 1 (List.map e4 l8)),(2,.row 3 1 (List.map e3 l5)),(0,.var 29 (cv29 b))] 3 0) ?_
      refine r_split 51 rfl (fun hb_24=>?_) (fun hb_24=>?_)
      ·have h:=ifT hb_24 h
       refine aX 2 (sT [(1,.d (.sl 1 (List.map e4 has))),(2,.d (q1 order)),pR 4 0,(9,.own 1 (List.map e4 l8).length),(10,.own 2 (List.map e3 l5).length),(11,jI i),(12,jI p),(13,jI k),(45,.own 1 (List.map e4 l8).length),(46,jI p),(51,.d (.bool true)),(52,.own 2 (List.map e3 l5).length),(53,jI k)] [(1,.row 4 1 (List.map e4 l8)),(2,.row 3 1 (List.map e3 l5)),(0,.var 29 (cv29 b))] 3 0) ?_
       refine r_iaO rfl rfl rfl rfl hi_17 (ix_lt hp_17) rfl ?_
       refine r_loadE rfl rfl rfl rfl (mapget (f:=e3) hp_17) rfl ?_
       refine aX 3 (sT [(1,.d (.sl 1 (List.map e4 has))),(2,.d (q1 order)),pR 4 0,(9,.own 1 (List.map e4 l8).length),(10,.own 2 (List.map e3 l5).length),(11,jI i),(12,jI p),(13,jI k),(45,.own 1 (List.map e4 l8).length),(46,jI p),(51,.d (.bool true)),(55,jI p3),(57,.d (.sl 1 (List.map e30 b.Needs))),(58,jI p)] [(1,.row 4 1 (List.map e4 l8)),(2,.row 3 1 (List.map e3 l5)),(0,.var 29 (cv29 b))] 3 0) ?_
       obtain ⟨p5,hv_25,h⟩:=bsome h
       refine r_iaD rfl rfl rfl (ixL_ok hv_25).1 (row:=e30 p5) (mapget (ixL_ok hv_25).2) ?_
       refine aX 2 (sT [(1,.d (.sl 1 (List.map e4 has))),(2,.d (q1 order)),pR 4 0,(9,.own 1 (List.map e4 l8).length),(10,.own 2 (List.map e3 l5).length),(11,jI i),(12,jI p),(13,jI k),(45,.own 1 (List.map e4 l8).length),(46,jI p),(51,.d (.bool true)),(55,jI p3),(60,.d (q1 p5)),(61,jI k)] [(1,.row 4 1 (List.map e4 l8)),(2,.row 3 1 (List.map e3 l5)),(0,.var 29 (cv29 b))] 3 0) ?_
       obtain ⟨p6,hv_26,h⟩:=bsome h
       refine r_iaD rfl rfl rfl (ixL_ok hv_26).1 (row:=e3 p6) (mapget (ixL_ok hv_26).2) ?_
       refine aX 3 (sT [(1,.d (.sl 1 (List.map e4 has))),(2,.d (q1 order)),pR 4 0,(9,.own 1 (List.map e4 l8).length),(10,.own 2 (List.map e3 l5).length),(11,jI i),(12,jI p),(13,jI k),(45,.own 1 (List.map e4 l8).length),(46,jI p),(65,.d (.bool (decide (p6≤p3))))] [(1,.row 4 1 (List.map e4 l8)),(2,.row 3 1 (List.map e3 l5)),(0,.var 29 (cv29 b))] 3 0) ?_
       refine r_iaO trivial rfl rfl rfl (ixL_ok hv_23).1 (ix_lt (ixL_ok hv_23).2) rfl ?_
       refine r_stE trivial rfl rfl rfl rfl (mapget (f:=e4) (ixL_ok hv_23).2) rfl rfl rfl (Nat.le_of_ble_eq_true rfl) (stz (f:=e4) (x:=(decide (p6≤p3))) rfl) ?_
       rw [lenset (f:=e4) (xs:=l8) (i:=p) (x:=(decide (p6≤p3)))]
       refine Fi (sT [(1,.d (.sl 1 (List.map e4 has))),(2,.d (q1 order)),pR 4 0,(9,.own 1 (List.map e4 (setL l8 p (decide (p6≤p3)))).length),(10,.own 2 (List.map e3 l5).length),(11,jI i),(12,jI p),(13,jI k)] [(1,.row 4 1 (List.map e4 (setL l8 p (decide (p6≤p3))))),(2,.row 3 1 (List.map e3 l5)),(0,.var 29 (cv29 b))] 3 0) ?_
       refine hK_21 _ ?_
       refine Ra (sT [(1,.d (.sl 1 (List.map e4 has))),(2,.d (q1 order)),pR 4 0,(9,.own 1 (List.map e4 (setL l8 p (decide (p6≤p3)))).length),(10,.own 2 (List.map e3 l5).length),(11,jI i),(12,jI p),(13,jI (wr (k+1)))] [(1,.row 4 1 (List.map e4 (setL l8 p (decide (p6≤p3))))),(2,.row 3 1 (List.map e3 l5)),(0,.var 29 (cv29 b))] 3 0) ?_
       obtain rfl:=Option.some.inj h
       have ew:wr (k+1)=k+1:=inext (N:=(l5.length:Int)) (by omega) (by omega) (by omega)
       rw [ew]
       exact hK_17 _ (Can.kp (by kernel_rfl))
      ·have h:=ifF hb_24 h
       refine aX 14 (sT [(1,.d (.sl 1 (List.map e4 has))),(2,.d (q1 order)),pR 4 0,(9,.own 1 (List.map e4 l8).length),(10,.own 2 (List.map e3 l5).length),(11,jI i),(12,jI p),(13,jI k),(45,.own 1 (List.map e4 l8).length),(46,jI p),(65,.d (.bool false))] [(1,.row 4 1 (List.map e4 l8)),(2,.row 3 1 (List.map e3 l5)),(0,.var 29 (cv29 b))] 3 0) ?_
       refine r_iaO trivial rfl rfl rfl (ixL_ok hv_23).1 (ix_lt (ixL_ok hv_23).2) rfl ?_
       refine r_stE trivial rfl rfl rfl rfl (mapget (f:=e4) (ixL_ok hv_23).2) rfl rfl rfl (Nat.le_of_ble_eq_true rfl) (stz (f:=e4) (x:=false) rfl) ?_
       rw [lenset (f:=e4) (xs:=l8) (i:=p) (x:=false)]
       refine Fi (sT [(1,.d (.sl 1 (List.map e4 has))),(2,.d (q1 order)),pR 4 0,(9,.own 1 (List.map e4 (setL l8 p false)).length),(10,.own 2 (List.map e3 l5).length),(11,jI i),(12,jI p),(13,jI k)] [(1,.row 4 1 (List.map e4 (setL l8 p false))),(2,.row 3 1 (List.map e3 l5)),(0,.var 29 (cv29 b))] 3 0) ?_
       refine hK_21 _ ?_
       refine Ra (sT [(1,.d (.sl 1 (List.map e4 has))),(2,.d (q1 order)),pR 4 0,(9,.own 1 (List.map e4 (setL l8 p false)).length),(10,.own 2 (List.map e3 l5).length),(11,jI i),(12,jI p),(13,jI (wr (k+1)))] [(1,.row 4 1 (List.map e4 (setL l8 p false))),(2,.row 3 1 (List.map e3 l5)),(0,.var 29 (cv29 b))] 3 0) ?_
       obtain rfl:=Option.some.inj h
       have ew:wr (k+1)=k+1:=inext (N:=(l5.length:Int)) (by omega) (by omega) (by omega)
       rw [ew]
       exact hK_17 _ (Can.kp (by kernel_rfl))
     ·subst hout
      refine AW.seqK fun K_27 hK_27=>AW.srwK fun Q_28 hQ_28=>?_
      refine Au 2 (sT [(1,.d (.sl 1 (List.map e4 has))),(2,.d (q1 order)),pR 4 0,(9,.own 1 (List.map e4 l8).length),(10,.own 2 (List.map e3 l5).length),(11,jI i),(12,jI p),(13,jI k),(39,jI k),(40,.own 2 (List.map e3 l5).length)] [(1,.row 4 1 (List.map e4 l8)),(2,.row 3 1 (List.map e3 l5)),(0,.var 29 (cv29 b))] 3 0) ?_
      refine RW.one fokW (r_lenY trivial rfl lenm (r_end ?_))
      refine Au 1 (sT [(1,.d (.sl 1 (List.map e4 has))),(2,.d (q1 order)),pR 4 0,(9,.own 1 (List.map e4 l8).length),(10,.own 2 (List.map e3 l5).length),(11,jI i),(12,jI p),(13,jI k),(42,.d (.bool (decide (k<(l5.length:Int)))))] [(1,.row 4 1 (List.map e4 l8)),(2,.row 3 1 (List.map e3 l5)),(0,.var 29 (cv29 b))] 3 0) ?_
      refine RW.nil (hQ_28 _ ?_)
      refine AW.cond rfl (fun hb_29=>False.elim (by have:=of_decide_eq_true hb_29;omega)) (fun hb_29=>?_)
      refine AW.exit ?_
      refine hK_16 _ ?_
      refine Sa (sT [(1,.d (.sl 1 (List.map e4 has))),(2,.d (q1 order)),pR 4 0,(9,.own 1 (List.map e4 l8).length),(10,.own 2 (List.map e3 l5).length),(11,jI i),(12,jI p),(14,jI 0)] [(1,.row 4 1 (List.map e4 l8)),(2,.row 3 1 (List.map e3 l5)),(0,.var 29 (cv29 b))] 3 0) ?_
      obtain ⟨l9,hx_30,h⟩:=bsome h
      refine AW.jqSK (fun (l9:List Int)=>(sT [(1,.d (.sl 1 (List.map e4 has))),(2,.d (q1 order)),pR 4 0,(9,.own 1 (List.map e4 l8).length),(10,.own 2 (List.map e3 l9).length),(11,jI i)] [(1,.row 4 1 (List.map e4 l8)),(2,.row 3 1 (List.map e3 l9)),(0,.var 29 (cv29 b))] 3 0)) (c:=l9) (fun K_30 hK_30=>?_) ?_
      ·have h:=hx_30
       refine AW.block ?_
       refine AW.whK (fun (⟨k1,l10⟩:Int×(List Int))=>(sT [(1,.d (.sl 1 (List.map e4 has))),(2,.d (q1 order)),pR 4 0,(9,.own 1 (List.map e4 l8).length),(10,.own 2 (List.map e3 l10).length),(11,jI i),(12,jI p),(14,jI k1)] [(1,.row 4 1 (List.map e4 l8)),(2,.row 3 1 (List.map e3 l10)),(0,.var 29 (cv29 b))] 3 0)) (g39_31 b p l8) h (Can.kp (by kernel_rfl)) (fun s_31 c_31 h hb_31 K_31 hK_31=>?_)
       obtain ⟨k1,l10⟩:=s_31
       unfold g39_31 at h
       refine AW.seqK fun K_32 hK_32=>AW.srwK fun Q_33 hQ_33=>?_
       refine Au 2 (sT [(1,.d (.sl 1 (List.map e4 has))),(2,.d (q1 order)),pR 4 0,(9,.own 1 (List.map e4 l8).length),(10,.own 2 (List.map e3 l10).length),(11,jI i),(12,jI p),(14,jI k1),(67,.own 1 (List.map e4 l8).length),(68,jI p)] [(1,.row 4 1 (List.map e4 l8)),(2,.row 3 1 (List.map e3 l10)),(0,.var 29 (cv29 b))] 3 0) ?_
       obtain ⟨p7,hv_34,h⟩:=bsome h
       refine RW.one fokW (r_iaO trivial rfl rfl rfl (ixL_ok hv_34).1 (ix_lt (ixL_ok hv_34).2) rfl (r_end ?_))
       refine RW.one fokW (r_loadE trivial rfl rfl rfl (mapget (f:=e4) (ixL_ok hv_34).2) rfl (r_end ?_))
       refine Au 1 (sT [(1,.d (.sl 1 (List.map e4 has))),(2,.d (q1 order)),pR 4 0,(9,.own 1 (List.map e4 l8).length),(10,.own 2 (List.map e3 l10).length),(11,jI i),(12,jI p),(14,jI k1),(71,.d (.bool p7))] [(1,.row 4 1 (List.map e4 l8)),(2,.row 3 1 (List.map e3 l10)),(0,.var 29 (cv29 b))] 3 0) ?_
       obtain ⟨v,hx_35,h⟩:=bsome h
       refine RW.cut fokW 5 ((sT [(1,.d (.sl 1 (List.map e4 has))),(2,.d (q1 order)),pR 4 0,(9,.own 1 (List.map e4 l8).length),(10,.own 2 (List.map e3 l10).length),(11,jI i),(12,jI p),(14,jI k1),(76,.d (.bool v))] [(1,.row 4 1 (List.map e4 l8)),(2,.row 3 1 (List.map e3 l10)),(0,.var 29 (cv29 b))] 3 0)) ?_ ?_
       ·refine r_split 71 rfl (fun hb_36=>?_) (fun hb_36=>?_)
        ·have h:=ifT hb_36 hx_35
         refine aX 2 (sT [(1,.d (.sl 1 (List.map e4 has))),(2,.d (q1 order)),pR 4 0,(9,.own 1 (List.map e4 l8).length),(10,.own 2 (List.map e3 l10).length),(11,jI i),(12,jI p),(14,jI k1),(71,.d (.bool true)),(72,jI k1),(73,.own 2 (List.map e3 l10).length)] [(1,.row 4 1 (List.map e4 l8)),(2,.row 3 1 (List.map e3 l10)),(0,.var 29 (cv29 b))] 3 0) ?_
         refine r_lenY rfl rfl lenm ?_
         refine aX 2 (sT [(1,.d (.sl 1 (List.map e4 has))),(2,.d (q1 order)),pR 4 0,(9,.own 1 (List.map e4 l8).length),(10,.own 2 (List.map e3 l10).length),(11,jI i),(12,jI p),(14,jI k1),(76,.d (.bool (decide (k1<(l10.length:Int)))))] [(1,.row 4 1 (List.map e4 l8)),(2,.row 3 1 (List.map e3 l10)),(0,.var 29 (cv29 b))] 3 0) ?_
         obtain rfl:=Option.some.inj h
         refine RunC.finJ (Can.kp (by kernel_rfl))
        ·have h:=ifF hb_36 hx_35
         refine aX 5 (sT [(1,.d (.sl 1 (List.map e4 has))),(2,.d (q1 order)),pR 4 0,(9,.own 1 (List.map e4 l8).length),(10,.own 2 (List.map e3 l10).length),(11,jI i),(12,jI p),(14,jI k1),(76,.d (.bool false))] [(1,.row 4 1 (List.map e4 l8)),(2,.row 3 1 (List.map e3 l10)),(0,.var 29 (cv29 b))] 3 0) ?_
         obtain rfl:=Option.some.inj h
         refine RunC.finJ (Can.kp (by kernel_rfl))
       ·refine RW.nil (hQ_33 _ ?_)
        refine AW.cond rfl (fun hb_37=>?_) (fun hb_37=>?_)
        ·have h:=ifT hb_37 h
         refine AW.skip (hK_32 _ ?_)
         refine AW.seqK (fun K_38 hK_38=>?_)
         refine AW.block ?_
         refine AW.drw fokW ?_
         refine aX 2 (sT [(1,.d (.sl 1 (List.map e4 has))),(2,.d (q1 order)),pR 4 0,(9,.own 1 (List.map e4 l8).length),(10,.own 2 (List.map e3 l10).length),(11,jI i),(12,jI p),(14,jI k1),(79,.own 2 (List.map e3 l10).length),(80,jI k1)] [(1,.row 4 1 (List.map e4 l8)),(2,.row 3 1 (List.map e3 l10)),(0,.var 29 (cv29 b))] 3 0) ?_
         obtain ⟨p8,hv_40,h⟩:=bsome h
         refine r_iaO trivial rfl rfl rfl (ixL_ok hv_40).1 (ix_lt (ixL_ok hv_40).2) rfl ?_
         refine r_loadE trivial rfl rfl rfl (mapget (f:=e3) (ixL_ok hv_40).2) rfl ?_
         refine aX 3 (sT [(1,.d (.sl 1 (List.map e4 has))),(2,.d (q1 order)),pR 4 0,(9,.own 1 (List.map e4 l8).length),(10,.own 2 (List.map e3 l10).length),(11,jI i),(12,jI p),(14,jI k1),(79,.own 2 (List.map e3 l10).length),(80,jI k1),(82,jI p8),(84,.d (.sl 1 (List.map e30 b.Needs))),(85,jI p)] [(1,.row 4 1 (List.map e4 l8)),(2,.row 3 1 (List.map e3 l10)),(0,.var 29 (cv29 b))] 3 0) ?_
         obtain ⟨p9,hv_41,h⟩:=bsome h
         refine r_iaD trivial rfl rfl (ixL_ok hv_41).1 (row:=e30 p9) (mapget (ixL_ok hv_41).2) ?_
         refine aX 2 (sT [(1,.d (.sl 1 (List.map e4 has))),(2,.d (q1 order)),pR 4 0,(9,.own 1 (List.map e4 l8).length),(10,.own 2 (List.map e3 l10).length),(11,jI i),(12,jI p),(14,jI k1),(79,.own 2 (List.map e3 l10).length),(80,jI k1),(82,jI p8),(87,.d (q1 p9)),(88,jI k1)] [(1,.row 4 1 (List.map e4 l8)),(2,.row 3 1 (List.map e3 l10)),(0,.var 29 (cv29 b))] 3 0) ?_
         obtain ⟨p10,hv_42,h⟩:=bsome h
         refine r_iaD trivial rfl rfl (ixL_ok hv_42).1 (row:=e3 p10) (mapget (ixL_ok hv_42).2) ?_
         refine aX 2 (sT [(1,.d (.sl 1 (List.map e4 has))),(2,.d (q1 order)),pR 4 0,(9,.own 1 (List.map e4 l8).length),(10,.own 2 (List.map e3 l10).length),(11,jI i),(12,jI p),(14,jI k1),(79,.own 2 (List.map e3 l10).length),(80,jI k1),(91,jI (wr (p8 - p10)))] [(1,.row 4 1 (List.map e4 l8)),(2,.row 3 1 (List.map e3 l10)),(0,.var 29 (cv29 b))] 3 0) ?_
         refine r_iaO trivial rfl rfl rfl (ixL_ok hv_40).1 (ix_lt (ixL_ok hv_40).2) rfl ?_
         refine r_stE trivial rfl rfl rfl rfl (mapget (f:=e3) (ixL_ok hv_40).2) rfl rfl rfl (Nat.le_of_ble_eq_true rfl) (stz (f:=e3) (x:=(wr (p8 - p10))) rfl) ?_
         rw [lenset (f:=e3) (xs:=l10) (i:=k1) (x:=(wr (p8 - p10)))]
         refine Fi (sT [(1,.d (.sl 1 (List.map e4 has))),(2,.d (q1 order)),pR 4 0,(9,.own 1 (List.map e4 l8).length),(10,.own 2 (List.map e3 (setL l10 k1 (wr (p8 - p10)))).length),(11,jI i),(12,jI p),(14,jI k1)] [(2,.row 3 1 (List.map e3 (setL l10 k1 (wr (p8 - p10))))),(1,.row 4 1 (List.map e4 l8)),(0,.var 29 (cv29 b))] 3 0) ?_
         refine hK_38 _ ?_
         refine Ra (sT [(1,.d (.sl 1 (List.map e4 has))),(2,.d (q1 order)),pR 4 0,(9,.own 1 (List.map e4 l8).length),(10,.own 2 (List.map e3 (setL l10 k1 (wr (p8 - p10)))).length),(11,jI i),(12,jI p),(14,jI (wr (k1+1)))] [(2,.row 3 1 (List.map e3 (setL l10 k1 (wr (p8 - p10))))),(1,.row 4 1 (List.map e4 l8)),(0,.var 29 (cv29 b))] 3 0) ?_
         obtain rfl:=Option.some.inj h
         exact hK_31 _ _ rfl (Can.kp (by kernel_rfl))
        ·have h:=ifF hb_37 h
         refine AW.exit ?_
         obtain rfl:=Option.some.inj h
         obtain rfl:=hb_31 _ rfl
         exact hK_30 _ (Can.kp (by kernel_rfl))
      ·obtain rfl:=Option.some.inj h
       exact hK_11 _ (Can.kp (by kernel_rfl))
    ·obtain ⟨l6,l7⟩:=c_11
     refine Ra (sT [(1,.d (.sl 1 (List.map e4 has))),(2,.d (q1 order)),pR 4 0,(9,.own 1 (List.map e4 l6).length),(10,.own 2 (List.map e3 l7).length),(11,jI (wr (i+1)))] [(1,.row 4 1 (List.map e4 l6)),(2,.row 3 1 (List.map e3 l7)),(0,.var 29 (cv29 b))] 3 0) ?_
     obtain rfl:=Option.some.inj h
     have ew:wr (i+1)=i+1:=inext (N:=(order.length:Int)) (by omega) (by omega) (by omega)
     rw [ew]
     exact hK_7 _ (Can.kp (by kernel_rfl))
   ·obtain ⟨l4,l5⟩:=s_7
    subst hout
    refine AW.seqK fun K_43 hK_43=>AW.srwK fun Q_44 hQ_44=>?_
    refine Au 2 (sT [(1,.d (.sl 1 (List.map e4 has))),(2,.d (q1 order)),pR 4 0,(9,.own 1 (List.map e4 l4).length),(10,.own 2 (List.map e3 l5).length),(11,jI i),(22,jI i),(23,.d (q1 order))] [(2,.row 3 1 (List.map e3 l5)),(1,.row 4 1 (List.map e4 l4)),(0,.var 29 (cv29 b))] 3 0) ?_
    refine rL rfl ?_
    refine Au 1 (sT [(1,.d (.sl 1 (List.map e4 has))),(2,.d (q1 order)),pR 4 0,(9,.own 1 (List.map e4 l4).length),(10,.own 2 (List.map e3 l5).length),(11,jI i),(25,.d (.bool (decide (i<(order.length:Int)))))] [(2,.row 3 1 (List.map e3 l5)),(1,.row 4 1 (List.map e4 l4)),(0,.var 29 (cv29 b))] 3 0) ?_
    refine RW.nil (hQ_44 _ ?_)
    refine AW.cond rfl (fun hb_45=>False.elim (by have:=of_decide_eq_true hb_45;omega)) (fun hb_45=>?_)
    refine AW.exit ?_
    obtain rfl:=Option.some.inj h
    exact hK_6 _ (Can.kp (by kernel_rfl))
  ·obtain rfl:=Option.some.inj h
   exact hK_5 _ (Can.kp (by kernel_rfl))
 ·refine Sa (sT [(8,.own 1 (List.map e4 l2).length)] [(1,.row 4 1 (List.map e4 l2))] 3 0) ?_
  obtain rfl:=Option.some.inj h
  exact AW.ret (hR_0 _ (retX (.cons (.tmp rfl) .nil) (.own rfl rfl) rfl (by kernel_rfl) (by kernel_rfl)))
end Go.Proofs.Tr
namespace Go.Proofs.Tr
open Go Go.Abs Go.Proofs
def g53_36:Int→Bool→(List Bool)→Option (List Bool):=fun i p2 l6=>(ixL l6 i).bind fun p3=>(bif p3 then (some p2) else (some false)).bind fun v=>some (setL l6 i v)
def g53_20:Int→Span→(Int×(List Int))→Option (Int×(List Int)):=fun k1 p1 (rest_,l4)=>(must (decide ((wr ((wr (p1.High - p1.Low))+1))≠0))).bind fun _=>(appL 8 l4 [(wr (p1.Low+(rest_.tmod (wr ((wr (p1.High - p1.Low))+1)))))]).bind fun l5=>(must (decide ((wr ((wr (p1.High - p1.Low))+1))≠0))).bind fun _=>some ((wr (rest_.tdiv (wr ((wr (p1.High - p1.Low))+1)))),l5)
def g53_15 (b:HarnessBook) (has:(List Bool)) (order:(List Int)) (many:Int):(Int×(List Bool))→Option (Ctl (Int×(List Bool)) (List Bool)):=fun  (c,l3)=>bif ((decide (c<many))&&(decide (c<200))) then ((eachS g53_20 b.Stock 0 ((c,[]):Int×(List Int))).bind fun (rest_,l4)=>(g39 b has order l4).bind fun r0=>(eachS g53_36 r0 0 l3).bind fun l6=>some (.next ((wr (c+1)),l6))) else (some (.brk l3))
def g53_49:Int→Bool→Int→Option Int:=fun i1 p4 n=>bif p4 then (some (wr (n+1))) else (some n)
def g53_4:Int→Span→Int→Option Int:=fun k p many=>some (wr (many*(wr ((wr (p.High - p.Low))+1))))
def g53 (b:HarnessBook) (has:(List Bool)) (order:(List Int)):Option Int:=(appL 1 ([]:List Bool) has).bind fun l=>(eachS g53_4 b.Stock 0 1).bind fun many=>((whileC (g53_15 b has order many) 1000 (0,l)).bind fun l2=>some l2).bind fun l1=>(eachS g53_49 l1 0 0).bind fun n=>some n
theorem k53 (b:HarnessBook) (has:(List Bool)) (order:(List Int)) (r:Int) (h:g53 b has order=some r):SCall Tryd.prog Gs 53 [.agg (cv29 b),.d (.sl 1 (List.map e4 has)),.d (q1 order)] [] 0 Fr.emp (jI r) [] 0 Fr.emp:=by
 unfold g53 at h
 refine SCall.mkK Tryd.func53 c53 rfl rfl (by kernel_rfl) (fun Q_0 hR_0 hN_0=>?_)
 refine Sa (sT [(1,.d (.sl 1 (List.map e4 has))),(2,.d (q1 order)),pR 3 0] [(0,.var 29 (cv29 b))] 1 0) ?_
 refine AW.srwK (fun Q_1 hQ_1=>?_)
 refine Au 2 (sT [(1,.d (.sl 1 (List.map e4 has))),(2,.d (q1 order)),pR 3 0,(19,.own 1 (List.map e4 []).length),(20,.d (.sl 1 (List.map e4 has)))] [(1,.row 4 1 (List.map e4 [])),(0,.var 29 (cv29 b))] 2 0) ?_
 obtain ⟨l,hv_2,h⟩:=bsome h
 refine RW.one fokW (r_apD trivial rfl rfl rfl rfl (apz hv_2 e4) (apr hv_2 e4) (r_end ?_))
 refine Au 1 (sT [(1,.d (.sl 1 (List.map e4 has))),(2,.d (q1 order)),pR 3 0,(7,.own 1 (List.map e4 l).length)] [(1,.row 4 1 (List.map e4 l)),(0,.var 29 (cv29 b))] 2 0) ?_
 refine RW.nil (hQ_1 _ ?_)
 refine Sa (sT [(1,.d (.sl 1 (List.map e4 has))),(2,.d (q1 order)),pR 3 0,(7,.own 1 (List.map e4 l).length),(8,jI 1)] [(1,.row 4 1 (List.map e4 l)),(0,.var 29 (cv29 b))] 2 0) ?_
 refine AW.seqK (fun K_3 hK_3=>?_)
 refine Sa (sT [(1,.d (.sl 1 (List.map e4 has))),(2,.d (q1 order)),pR 3 0,(7,.own 1 (List.map e4 l).length),(8,jI 1),(9,jI 0)] [(1,.row 4 1 (List.map e4 l)),(0,.var 29 (cv29 b))] 2 0) ?_
 refine AW.block ?_
 refine AW.slh (r:=0) (off:=6) rfl rfl (fun hN_4=>?_)
 rw [List.length_map] at hN_4
 obtain ⟨out_4,hx_4,h⟩:=bsome h
 refine AW.evSK (fun (k:Int) (many:Int)=>(sT [(1,.d (.sl 1 (List.map e4 has))),(2,.d (q1 order)),pR 3 0,(7,.own 1 (List.map e4 l).length),(8,jI many),(9,jI k)] [(1,.row 4 1 (List.map e4 l)),(0,.var 29 (cv29 b))] 2 0)) g53_4 hx_4 (Can.kp (by kernel_rfl)) (fun k p many hi_4 hl_4 hp_4 c_4 h K_4 hK_4=>?_) (fun k many hi_4 hl_4 hout=>?_)
 ·unfold g53_4 at h
  refine AW.seqK fun K_5 hK_5=>AW.srwK fun Q_6 hQ_6=>?_
  refine Au 3 (sT [(1,.d (.sl 1 (List.map e4 has))),(2,.d (q1 order)),pR 3 0,(7,.own 1 (List.map e4 l).length),(8,jI many),(9,jI k),(22,jI k),(24,.d (.sl 2 (List.map e37 b.Stock)))] [(1,.row 4 1 (List.map e4 l)),(0,.var 29 (cv29 b))] 2 0) ?_
  refine rL rfl ?_
  refine Au 1 (sT [(1,.d (.sl 1 (List.map e4 has))),(2,.d (q1 order)),pR 3 0,(7,.own 1 (List.map e4 l).length),(8,jI many),(9,jI k),(26,.d (.bool (decide (k<(b.Stock.length:Int)))))] [(1,.row 4 1 (List.map e4 l)),(0,.var 29 (cv29 b))] 2 0) ?_
  refine RW.nil (hQ_6 _ ?_)
  refine AW.cond rfl (fun hb_7=>?_) (fun hb_7=>False.elim (by have:=of_decide_eq_false hb_7;omega))
  refine AW.skip (hK_5 _ ?_)
  refine AW.seqK (fun K_8 hK_8=>?_)
  refine AW.block ?_
  refine AW.drw fokW ?_
  refine aX 4 (sT [(1,.d (.sl 1 (List.map e4 has))),(2,.d (q1 order)),pR 3 0,(7,.own 1 (List.map e4 l).length),(9,jI k),(29,jI many),(31,.d (.sl 2 (List.map e37 b.Stock))),(32,jI k)] [(1,.row 4 1 (List.map e4 l)),(0,.var 29 (cv29 b))] 2 0) ?_
  refine r_iaD trivial rfl rfl hi_4 (row:=e37 p) (mapget hp_4) ?_
  refine aX 5 (sT [(1,.d (.sl 1 (List.map e4 has))),(2,.d (q1 order)),pR 3 0,(7,.own 1 (List.map e4 l).length),(9,jI k),(29,jI many),(35,jI p.High),(37,.d (.sl 2 (List.map e37 b.Stock))),(38,jI k)] [(1,.row 4 1 (List.map e4 l)),(0,.var 29 (cv29 b))] 2 0) ?_
  refine r_iaD trivial rfl rfl hi_4 (row:=e37 p) (mapget hp_4) ?_
  refine aX 6 (sT [(1,.d (.sl 1 (List.map e4 has))),(2,.d (q1 order)),pR 3 0,(7,.own 1 (List.map e4 l).length),(8,jI (wr (many*(wr ((wr (p.High - p.Low))+1))))),(9,jI k)] [(1,.row 4 1 (List.map e4 l)),(0,.var 29 (cv29 b))] 2 0) ?_
  refine Fi (sT [(1,.d (.sl 1 (List.map e4 has))),(2,.d (q1 order)),pR 3 0,(7,.own 1 (List.map e4 l).length),(8,jI (wr (many*(wr ((wr (p.High - p.Low))+1))))),(9,jI k)] [(1,.row 4 1 (List.map e4 l)),(0,.var 29 (cv29 b))] 2 0) ?_
  refine hK_8 _ ?_
  refine Ra (sT [(1,.d (.sl 1 (List.map e4 has))),(2,.d (q1 order)),pR 3 0,(7,.own 1 (List.map e4 l).length),(8,jI (wr (many*(wr ((wr (p.High - p.Low))+1))))),(9,jI (wr (k+1)))] [(1,.row 4 1 (List.map e4 l)),(0,.var 29 (cv29 b))] 2 0) ?_
  obtain rfl:=Option.some.inj h
  have ew:wr (k+1)=k+1:=inext (N:=(b.Stock.length:Int)) (by omega) (by omega) (by omega)
  rw [ew]
  exact hK_4 _ (Can.kp (by kernel_rfl))
 ·subst hout
  refine AW.seqK fun K_10 hK_10=>AW.srwK fun Q_11 hQ_11=>?_
  refine Au 3 (sT [(1,.d (.sl 1 (List.map e4 has))),(2,.d (q1 order)),pR 3 0,(7,.own 1 (List.map e4 l).length),(8,jI many),(9,jI k),(22,jI k),(24,.d (.sl 2 (List.map e37 b.Stock)))] [(1,.row 4 1 (List.map e4 l)),(0,.var 29 (cv29 b))] 2 0) ?_
  refine rL rfl ?_
  refine Au 1 (sT [(1,.d (.sl 1 (List.map e4 has))),(2,.d (q1 order)),pR 3 0,(7,.own 1 (List.map e4 l).length),(8,jI many),(9,jI k),(26,.d (.bool (decide (k<(b.Stock.length:Int)))))] [(1,.row 4 1 (List.map e4 l)),(0,.var 29 (cv29 b))] 2 0) ?_
  refine RW.nil (hQ_11 _ ?_)
  refine AW.cond rfl (fun hb_12=>False.elim (by have:=of_decide_eq_true hb_12;omega)) (fun hb_12=>?_)
  refine AW.exit ?_
  refine hK_3 _ ?_
  obtain ⟨l1,hx_13,h⟩:=bsome h
  refine AW.jnSK (fun (l1:List Bool)=>(sT [(7,.own 1 (List.map e4 l1).length)] [(1,.row 4 1 (List.map e4 l1))] 2 0)) (c:=l1) (fun K_13 hK_13=>?_) ?_
  ·have h:=hx_13
   refine Sa (sT [(1,.d (.sl 1 (List.map e4 has))),(2,.d (q1 order)),pR 3 0,(7,.own 1 (List.map e4 l).length),(8,jI many),(10,jI 0)] [(1,.row 4 1 (List.map e4 l)),(0,.var 29 (cv29 b))] 2 0) ?_
   obtain ⟨l2,hx_14,h⟩:=bsome h
   refine AW.jqSK (fun (l2:List Bool)=>(sT [(7,.own 1 (List.map e4 l2).length)] [(1,.row 4 1 (List.map e4 l2))] 2 0)) (c:=l2) (fun K_14 hK_14=>?_) ?_
   ·have h:=hx_14
    refine AW.block ?_
    refine AW.whK (fun (⟨c,l3⟩:Int×(List Bool))=>(sT [(1,.d (.sl 1 (List.map e4 has))),(2,.d (q1 order)),pR 3 0,(7,.own 1 (List.map e4 l3).length),(8,jI many),(10,jI c)] [(1,.row 4 1 (List.map e4 l3)),(0,.var 29 (cv29 b))] 2 0)) (g53_15 b has order many) h (Can.kp (by kernel_rfl)) (fun s_15 c_15 h hb_15 K_15 hK_15=>?_)
    obtain ⟨c,l3⟩:=s_15
    unfold g53_15 at h
    refine AW.seqK (fun K_16 hK_16=>?_)
    refine AW.sa fokW [48] (sT [(1,.d (.sl 1 (List.map e4 has))),(2,.d (q1 order)),pR 3 0,(7,.own 1 (List.map e4 l3).length),(8,jI many),(10,jI c),(51,.d (.bool ((decide (c<many))&&(decide (c<200)))))] [(1,.row 4 1 (List.map e4 l3)),(0,.var 29 (cv29 b))] 2 0) (by kernel_rfl) ?_
    refine AW.cond rfl (fun hb_17=>?_) (fun hb_17=>?_)
    ·have h:=ifT hb_17 h
     refine AW.skip (hK_16 _ ?_)
     refine AW.seqK (fun K_18 hK_18=>?_)
     refine AW.block ?_
     refine Sa (sT [(1,.d (.sl 1 (List.map e4 has))),(2,.d (q1 order)),pR 3 0,(7,.own 1 (List.map e4 l3).length),(8,jI many),(10,jI c),(11,jI c)] [(1,.row 4 1 (List.map e4 l3)),(0,.var 29 (cv29 b))] 2 0) ?_
     refine Sa (sT [(1,.d (.sl 1 (List.map e4 has))),(2,.d (q1 order)),pR 3 0,(7,.own 1 (List.map e4 l3).length),(8,jI many),(10,jI c),(11,jI c),(12,.d (.nilSl))] [(1,.row 4 1 (List.map e4 l3)),(0,.var 29 (cv29 b))] 2 0) ?_
     refine AW.seqK (fun K_19 hK_19=>?_)
     refine Sa (sT [(1,.d (.sl 1 (List.map e4 has))),(2,.d (q1 order)),pR 3 0,(7,.own 1 (List.map e4 l3).length),(8,jI many),(10,jI c),(11,jI c),(12,.d (.nilSl)),(13,jI 0)] [(1,.row 4 1 (List.map e4 l3)),(0,.var 29 (cv29 b))] 2 0) ?_
     refine AW.block ?_
     refine AW.slh (r:=0) (off:=6) rfl rfl (fun hN_20=>?_)
     rw [List.length_map] at hN_20
     obtain ⟨out_20,hx_20,h⟩:=bsome h
     refine AW.evSK (fun (k1:Int) (⟨rest_,l4⟩:Int×(List Int))=>(sT [(1,.d (.sl 1 (List.map e4 has))),(2,.d (q1 order)),pR 3 0,(7,.own 1 (List.map e4 l3).length),(8,jI many),(10,jI c),(11,jI rest_),(12,.own 2 (List.map e3 l4).length),(13,jI k1)] [(2,.row 3 1 (List.map e3 l4)),(1,.row 4 1 (List.map e4 l3)),(0,.var 29 (cv29 b))] 3 0)) g53_20 hx_20 (Can.trans (Can.thawT 12 3 1 rfl rfl) (Can.kp (by kernel_rfl))) (fun k1 p1 s_20 hi_20 hl_20 hp_20 c_20 h K_20 hK_20=>?_) (fun k1 s_20 hi_20 hl_20 hout=>?_)
     ·obtain ⟨rest_,l4⟩:=s_20
      unfold g53_20 at h
      refine AW.seqK fun K_21 hK_21=>AW.srwK fun Q_22 hQ_22=>?_
      refine Au 3 (sT [(1,.d (.sl 1 (List.map e4 has))),(2,.d (q1 order)),pR 3 0,(7,.own 1 (List.map e4 l3).length),(8,jI many),(10,jI c),(11,jI rest_),(12,.own 2 (List.map e3 l4).length),(13,jI k1),(55,jI k1),(57,.d (.sl 2 (List.map e37 b.Stock)))] [(2,.row 3 1 (List.map e3 l4)),(1,.row 4 1 (List.map e4 l3)),(0,.var 29 (cv29 b))] 3 0) ?_
      refine rL rfl ?_
      refine Au 1 (sT [(1,.d (.sl 1 (List.map e4 has))),(2,.d (q1 order)),pR 3 0,(7,.own 1 (List.map e4 l3).length),(8,jI many),(10,jI c),(11,jI rest_),(12,.own 2 (List.map e3 l4).length),(13,jI k1),(59,.d (.bool (decide (k1<(b.Stock.length:Int)))))] [(2,.row 3 1 (List.map e3 l4)),(1,.row 4 1 (List.map e4 l3)),(0,.var 29 (cv29 b))] 3 0) ?_
      refine RW.nil (hQ_22 _ ?_)
      refine AW.cond rfl (fun hb_23=>?_) (fun hb_23=>False.elim (by have:=of_decide_eq_false hb_23;omega))
      refine AW.skip (hK_21 _ ?_)
      refine AW.seqK (fun K_24 hK_24=>?_)
      refine AW.block ?_
      refine AW.sdrwK fokW (fun Q_25 hQ_25=>?_)
      refine aX 3 (sT [(1,.d (.sl 1 (List.map e4 has))),(2,.d (q1 order)),pR 3 0,(7,.own 1 (List.map e4 l3).length),(8,jI many),(10,jI c),(11,jI rest_),(12,.own 2 (List.map e3 l4).length),(13,jI k1),(63,.d (.sl 2 (List.map e37 b.Stock))),(64,jI k1)] [(2,.row 3 1 (List.map e3 l4)),(1,.row 4 1 (List.map e4 l3)),(0,.var 29 (cv29 b))] 3 0) ?_
      refine r_iaD trivial rfl rfl hi_20 (row:=e37 p1) (mapget hp_20) ?_
      refine aX 5 (sT [(1,.d (.sl 1 (List.map e4 has))),(2,.d (q1 order)),pR 3 0,(7,.own 1 (List.map e4 l3).length),(8,jI many),(10,jI c),(11,jI rest_),(12,.own 2 (List.map e3 l4).length),(13,jI k1),(67,jI p1.High),(69,.d (.sl 2 (List.map e37 b.Stock))),(70,jI k1)] [(2,.row 3 1 (List.map e3 l4)),(1,.row 4 1 (List.map e4 l3)),(0,.var 29 (cv29 b))] 3 0) ?_
      refine r_iaD trivial rfl rfl hi_20 (row:=e37 p1) (mapget hp_20) ?_
      refine aX 5 (sT [(1,.d (.sl 1 (List.map e4 has))),(2,.d (q1 order)),pR 3 0,(7,.own 1 (List.map e4 l3).length),(8,jI many),(10,jI c),(11,jI rest_),(12,.own 2 (List.map e3 l4).length),(13,jI k1),(14,jI (wr ((wr (p1.High - p1.Low))+1)))] [(2,.row 3 1 (List.map e3 l4)),(1,.row 4 1 (List.map e4 l3)),(0,.var 29 (cv29 b))] 3 0) ?_
      refine Fi (sT [(1,.d (.sl 1 (List.map e4 has))),(2,.d (q1 order)),pR 3 0,(7,.own 1 (List.map e4 l3).length),(8,jI many),(10,jI c),(11,jI rest_),(12,.own 2 (List.map e3 l4).length),(13,jI k1),(14,jI (wr ((wr (p1.High - p1.Low))+1)))] [(2,.row 3 1 (List.map e3 l4)),(1,.row 4 1 (List.map e4 l3)),(0,.var 29 (cv29 b))] 3 0) ?_
      refine hQ_25 _ ?_
      refine AW.sdrwK fokW (fun Q_26 hQ_26=>?_)
      refine aX 4 (sT [(1,.d (.sl 1 (List.map e4 has))),(2,.d (q1 order)),pR 3 0,(7,.own 1 (List.map e4 l3).length),(8,jI many),(10,jI c),(11,jI rest_),(13,jI k1),(14,jI (wr ((wr (p1.High - p1.Low))+1))),(76,.own 2 (List.map e3 l4).length),(78,.d (.sl 2 (List.map e37 b.Stock))),(79,jI k1)] [(2,.row 3 1 (List.map e3 l4)),(1,.row 4 1 (List.map e4 l3)),(0,.var 29 (cv29 b))] 3 0) ?_
      refine r_iaD trivial rfl rfl hi_20 (row:=e37 p1) (mapget hp_20) ?_
      refine aX 4 (sT [(1,.d (.sl 1 (List.map e4 has))),(2,.d (q1 order)),pR 3 0,(7,.own 1 (List.map e4 l3).length),(8,jI many),(10,jI c),(11,jI rest_),(13,jI k1),(14,jI (wr ((wr (p1.High - p1.Low))+1))),(76,.own 2 (List.map e3 l4).length),(82,jI p1.Low),(83,jI rest_),(84,jI (wr ((wr (p1.High - p1.Low))+1)))] [(2,.row 3 1 (List.map e3 l4)),(1,.row 4 1 (List.map e4 l3)),(0,.var 29 (cv29 b))] 3 0) ?_
      obtain ⟨_,hv_27,h⟩:=bsome h
      refine r_rem trivial rfl rfl (of_decide_eq_true (must_ok hv_27)) ?_
      refine aX 2 (sT [(1,.d (.sl 1 (List.map e4 has))),(2,.d (q1 order)),pR 3 0,(7,.own 1 (List.map e4 l3).length),(8,jI many),(10,jI c),(11,jI rest_),(13,jI k1),(14,jI (wr ((wr (p1.High - p1.Low))+1))),(76,.own 2 (List.map e3 l4).length),(87,.own 3 (List.map e3 [(wr (p1.Low+(rest_.tmod (wr ((wr (p1.High - p1.Low))+1)))))]).length)] [(3,.row 3 1 (List.map e3 [(wr (p1.Low+(rest_.tmod (wr ((wr (p1.High - p1.Low))+1)))))])),(2,.row 3 1 (List.map e3 l4)),(1,.row 4 1 (List.map e4 l3)),(0,.var 29 (cv29 b))] 4 0) ?_
      obtain ⟨l5,hv_28,h⟩:=bsome h
      refine r_apO trivial rfl rfl rfl rfl rfl rfl (apz hv_28 e3) (apr hv_28 e3) ?_
      refine aX 1 (sT [(1,.d (.sl 1 (List.map e4 has))),(2,.d (q1 order)),pR 3 0,(7,.own 1 (List.map e4 l3).length),(8,jI many),(10,jI c),(11,jI rest_),(12,.own 2 (List.map e3 l5).length),(13,jI k1),(14,jI (wr ((wr (p1.High - p1.Low))+1)))] [(2,.row 3 1 (List.map e3 l5)),(3,.row 3 1 (List.map e3 [(wr (p1.Low+(rest_.tmod (wr ((wr (p1.High - p1.Low))+1)))))])),(1,.row 4 1 (List.map e4 l3)),(0,.var 29 (cv29 b))] 4 0) ?_
      refine Fi (sT [(1,.d (.sl 1 (List.map e4 has))),(2,.d (q1 order)),pR 3 0,(7,.own 1 (List.map e4 l3).length),(8,jI many),(10,jI c),(11,jI rest_),(12,.own 2 (List.map e3 l5).length),(13,jI k1),(14,jI (wr ((wr (p1.High - p1.Low))+1)))] [(2,.row 3 1 (List.map e3 l5)),(1,.row 4 1 (List.map e4 l3)),(0,.var 29 (cv29 b))] 4 0) ?_
      refine hQ_26 _ ?_
      refine AW.rw ?_
      refine Au 2 (sT [(1,.d (.sl 1 (List.map e4 has))),(2,.d (q1 order)),pR 3 0,(7,.own 1 (List.map e4 l3).length),(8,jI many),(10,jI c),(12,.own 2 (List.map e3 l5).length),(13,jI k1),(89,jI rest_),(90,jI (wr ((wr (p1.High - p1.Low))+1)))] [(2,.row 3 1 (List.map e3 l5)),(1,.row 4 1 (List.map e4 l3)),(0,.var 29 (cv29 b))] 4 0) ?_
      obtain ⟨_,hv_30,h⟩:=bsome h
      refine RW.one fokW (r_quoW trivial rfl rfl (of_decide_eq_true (must_ok hv_30)) (r_end ?_))
      refine Au 1 (sT [(1,.d (.sl 1 (List.map e4 has))),(2,.d (q1 order)),pR 3 0,(7,.own 1 (List.map e4 l3).length),(8,jI many),(10,jI c),(11,jI (wr (rest_.tdiv (wr ((wr (p1.High - p1.Low))+1))))),(12,.own 2 (List.map e3 l5).length),(13,jI k1)] [(2,.row 3 1 (List.map e3 l5)),(1,.row 4 1 (List.map e4 l3)),(0,.var 29 (cv29 b))] 4 0) ?_
      refine RW.nil ?_
      refine hK_24 _ ?_
      refine Ra (sT [(1,.d (.sl 1 (List.map e4 has))),(2,.d (q1 order)),pR 3 0,(7,.own 1 (List.map e4 l3).length),(8,jI many),(10,jI c),(11,jI (wr (rest_.tdiv (wr ((wr (p1.High - p1.Low))+1))))),(12,.own 2 (List.map e3 l5).length),(13,jI (wr (k1+1)))] [(2,.row 3 1 (List.map e3 l5)),(1,.row 4 1 (List.map e4 l3)),(0,.var 29 (cv29 b))] 4 0) ?_
      obtain rfl:=Option.some.inj h
      have ew:wr (k1+1)=k1+1:=inext (N:=(b.Stock.length:Int)) (by omega) (by omega) (by omega)
      rw [ew]
      exact hK_20 _ (Can.kp (by kernel_rfl))
     ·obtain ⟨rest_,l4⟩:=s_20
      subst hout
      refine AW.seqK fun K_31 hK_31=>AW.srwK fun Q_32 hQ_32=>?_
      refine Au 3 (sT [(1,.d (.sl 1 (List.map e4 has))),(2,.d (q1 order)),pR 3 0,(7,.own 1 (List.map e4 l3).length),(8,jI many),(10,jI c),(11,jI rest_),(12,.own 2 (List.map e3 l4).length),(13,jI k1),(55,jI k1),(57,.d (.sl 2 (List.map e37 b.Stock)))] [(2,.row 3 1 (List.map e3 l4)),(1,.row 4 1 (List.map e4 l3)),(0,.var 29 (cv29 b))] 3 0) ?_
      refine rL rfl ?_
      refine Au 1 (sT [(1,.d (.sl 1 (List.map e4 has))),(2,.d (q1 order)),pR 3 0,(7,.own 1 (List.map e4 l3).length),(8,jI many),(10,jI c),(11,jI rest_),(12,.own 2 (List.map e3 l4).length),(13,jI k1),(59,.d (.bool (decide (k1<(b.Stock.length:Int)))))] [(2,.row 3 1 (List.map e3 l4)),(1,.row 4 1 (List.map e4 l3)),(0,.var 29 (cv29 b))] 3 0) ?_
      refine RW.nil (hQ_32 _ ?_)
      refine AW.cond rfl (fun hb_33=>False.elim (by have:=of_decide_eq_true hb_33;omega)) (fun hb_33=>?_)
      refine AW.exit ?_
      refine hK_19 _ ?_
      refine AW.srwK (fun Q_34 hQ_34=>?_)
      refine Au 4 (sT [(1,.d (.sl 1 (List.map e4 has))),(2,.d (q1 order)),pR 3 0,(7,.own 1 (List.map e4 l3).length),(8,jI many),(10,jI c),(92,.agg (cv29 b)),(93,.d (.sl 1 (List.map e4 has))),(94,.d (q1 order)),(95,.own 2 (List.map e3 l4).length)] [(2,.row 3 1 (List.map e3 l4)),(1,.row 4 1 (List.map e4 l3)),(0,.var 29 (cv29 b))] 3 0) ?_
      obtain ⟨r0,hx_35,h⟩:=bsome h
      refine RW.one fokW (r_callZ (zr:=[(2,.row 3 1 (List.map e3 l4))]) trivial rfl (k39 b has order l4 _ hx_35) ⟨rfl,trivial⟩ ⟨.refl _,.refl _,.refl _,(.own rfl rfl),trivial⟩ rfl rfl rfl rfl (r_end ?_))
      refine Au 1 (sT [(1,.d (.sl 1 (List.map e4 has))),(2,.d (q1 order)),pR 3 0,(7,.own 1 (List.map e4 l3).length),(8,jI many),(10,jI c),(15,.d (.sl 1 (List.map e4 r0)))] [(1,.row 4 1 (List.map e4 l3)),(0,.var 29 (cv29 b))] 3 0) ?_
      refine RW.nil (hQ_34 _ ?_)
      refine Sa (sT [(1,.d (.sl 1 (List.map e4 has))),(2,.d (q1 order)),pR 3 0,(7,.own 1 (List.map e4 l3).length),(8,jI many),(10,jI c),(15,.d (.sl 1 (List.map e4 r0))),(16,jI 0)] [(1,.row 4 1 (List.map e4 l3)),(0,.var 29 (cv29 b))] 3 0) ?_
      refine AW.block ?_
      refine AW.sln (t:=15) rfl (fun hN_36=>?_)
      rw [List.length_map] at hN_36
      obtain ⟨out_36,hx_36,h⟩:=bsome h
      refine AW.evSK (fun (i:Int) (l6:List Bool)=>(sT [(1,.d (.sl 1 (List.map e4 has))),(2,.d (q1 order)),pR 3 0,(7,.own 1 (List.map e4 l6).length),(8,jI many),(10,jI c),(15,.d (.sl 1 (List.map e4 r0))),(16,jI i)] [(1,.row 4 1 (List.map e4 l6)),(0,.var 29 (cv29 b))] 3 0)) g53_36 hx_36 (Can.kp (by kernel_rfl)) (fun i p2 l6 hi_36 hl_36 hp_36 c_36 h K_36 hK_36=>?_) (fun i l6 hi_36 hl_36 hout=>?_)
      ·unfold g53_36 at h
       refine AW.seqK fun K_37 hK_37=>AW.srwK fun Q_38 hQ_38=>?_
       refine Au 2 (sT [(1,.d (.sl 1 (List.map e4 has))),(2,.d (q1 order)),pR 3 0,(7,.own 1 (List.map e4 l6).length),(8,jI many),(10,jI c),(15,.d (.sl 1 (List.map e4 r0))),(16,jI i),(97,jI i),(98,.d (.sl 1 (List.map e4 r0)))] [(1,.row 4 1 (List.map e4 l6)),(0,.var 29 (cv29 b))] 3 0) ?_
       refine rL rfl ?_
       refine Au 1 (sT [(1,.d (.sl 1 (List.map e4 has))),(2,.d (q1 order)),pR 3 0,(7,.own 1 (List.map e4 l6).length),(8,jI many),(10,jI c),(15,.d (.sl 1 (List.map e4 r0))),(16,jI i),(100,.d (.bool (decide (i<(r0.length:Int)))))] [(1,.row 4 1 (List.map e4 l6)),(0,.var 29 (cv29 b))] 3 0) ?_
       refine RW.nil (hQ_38 _ ?_)
       refine AW.cond rfl (fun hb_39=>?_) (fun hb_39=>False.elim (by have:=of_decide_eq_false hb_39;omega))
       refine AW.skip (hK_37 _ ?_)
       refine AW.seqK (fun K_40 hK_40=>?_)
       refine AW.block ?_
       refine AW.rw ?_
       refine Au 4 (sT [(1,.d (.sl 1 (List.map e4 has))),(2,.d (q1 order)),pR 3 0,(7,.own 1 (List.map e4 l6).length),(8,jI many),(10,jI c),(15,.d (.sl 1 (List.map e4 r0))),(16,jI i),(103,.own 1 (List.map e4 l6).length),(104,jI i),(105,.own 1 (List.map e4 l6).length),(106,jI i)] [(1,.row 4 1 (List.map e4 l6)),(0,.var 29 (cv29 b))] 3 0) ?_
       obtain ⟨p3,hv_42,h⟩:=bsome h
       refine RW.one fokW (r_iaO trivial rfl rfl rfl (ixL_ok hv_42).1 (ix_lt (ixL_ok hv_42).2) rfl (r_end ?_))
       refine RW.one fokW (r_loadE trivial rfl rfl rfl (mapget (f:=e4) (ixL_ok hv_42).2) rfl (r_end ?_))
       refine Au 1 (sT [(1,.d (.sl 1 (List.map e4 has))),(2,.d (q1 order)),pR 3 0,(7,.own 1 (List.map e4 l6).length),(8,jI many),(10,jI c),(15,.d (.sl 1 (List.map e4 r0))),(16,jI i),(103,.own 1 (List.map e4 l6).length),(104,jI i),(109,.d (.bool p3))] [(1,.row 4 1 (List.map e4 l6)),(0,.var 29 (cv29 b))] 3 0) ?_
       obtain ⟨v,hx_43,h⟩:=bsome h
       refine RW.cut fokW 5 ((sT [(1,.d (.sl 1 (List.map e4 has))),(2,.d (q1 order)),pR 3 0,(7,.own 1 (List.map e4 l6).length),(8,jI many),(10,jI c),(15,.d (.sl 1 (List.map e4 r0))),(16,jI i),(103,.own 1 (List.map e4 l6).length),(104,jI i),(114,.d (.bool v))] [(1,.row 4 1 (List.map e4 l6)),(0,.var 29 (cv29 b))] 3 0)) ?_ ?_
       ·refine r_split 109 rfl (fun hb_44=>?_) (fun hb_44=>?_)
        ·have h:=ifT hb_44 hx_43
         refine aX 2 (sT [(1,.d (.sl 1 (List.map e4 has))),(2,.d (q1 order)),pR 3 0,(7,.own 1 (List.map e4 l6).length),(8,jI many),(10,jI c),(15,.d (.sl 1 (List.map e4 r0))),(16,jI i),(103,.own 1 (List.map e4 l6).length),(104,jI i),(109,.d (.bool true)),(110,.d (.sl 1 (List.map e4 r0))),(111,jI i)] [(1,.row 4 1 (List.map e4 l6)),(0,.var 29 (cv29 b))] 3 0) ?_
         refine r_iaD rfl rfl rfl hi_36 (row:=e4 p2) (mapget hp_36) ?_
         refine aX 2 (sT [(1,.d (.sl 1 (List.map e4 has))),(2,.d (q1 order)),pR 3 0,(7,.own 1 (List.map e4 l6).length),(8,jI many),(10,jI c),(15,.d (.sl 1 (List.map e4 r0))),(16,jI i),(103,.own 1 (List.map e4 l6).length),(104,jI i),(114,.d (.bool p2))] [(1,.row 4 1 (List.map e4 l6)),(0,.var 29 (cv29 b))] 3 0) ?_
         obtain rfl:=Option.some.inj h
         refine RunC.finJ (Can.kp (by kernel_rfl))
        ·have h:=ifF hb_44 hx_43
         refine aX 5 (sT [(1,.d (.sl 1 (List.map e4 has))),(2,.d (q1 order)),pR 3 0,(7,.own 1 (List.map e4 l6).length),(8,jI many),(10,jI c),(15,.d (.sl 1 (List.map e4 r0))),(16,jI i),(103,.own 1 (List.map e4 l6).length),(104,jI i),(114,.d (.bool false))] [(1,.row 4 1 (List.map e4 l6)),(0,.var 29 (cv29 b))] 3 0) ?_
         obtain rfl:=Option.some.inj h
         refine RunC.finJ (Can.kp (by kernel_rfl))
       ·refine RW.one fokW (r_iaO trivial rfl rfl rfl (ixL_ok hv_42).1 (ix_lt (ixL_ok hv_42).2) rfl (r_end ?_))
        refine RW.one fokW (r_stE trivial rfl rfl rfl rfl (mapget (f:=e4) (ixL_ok hv_42).2) rfl rfl rfl (Nat.le_of_ble_eq_true rfl) (stz (f:=e4) (x:=v) rfl) (r_end ?_))
        rw [lenset (f:=e4) (xs:=l6) (i:=i) (x:=v)]
        refine RW.nil ?_
        refine hK_40 _ ?_
        refine Ra (sT [(1,.d (.sl 1 (List.map e4 has))),(2,.d (q1 order)),pR 3 0,(7,.own 1 (List.map e4 (setL l6 i v)).length),(8,jI many),(10,jI c),(15,.d (.sl 1 (List.map e4 r0))),(16,jI (wr (i+1)))] [(1,.row 4 1 (List.map e4 (setL l6 i v))),(0,.var 29 (cv29 b))] 3 0) ?_
        obtain rfl:=Option.some.inj h
        have ew:wr (i+1)=i+1:=inext (N:=(r0.length:Int)) (by omega) (by omega) (by omega)
        rw [ew]
        exact hK_36 _ (Can.kp (by kernel_rfl))
      ·subst hout
       refine AW.seqK fun K_45 hK_45=>AW.srwK fun Q_46 hQ_46=>?_
       refine Au 2 (sT [(1,.d (.sl 1 (List.map e4 has))),(2,.d (q1 order)),pR 3 0,(7,.own 1 (List.map e4 l6).length),(8,jI many),(10,jI c),(15,.d (.sl 1 (List.map e4 r0))),(16,jI i),(97,jI i),(98,.d (.sl 1 (List.map e4 r0)))] [(1,.row 4 1 (List.map e4 l6)),(0,.var 29 (cv29 b))] 3 0) ?_
       refine rL rfl ?_
       refine Au 1 (sT [(1,.d (.sl 1 (List.map e4 has))),(2,.d (q1 order)),pR 3 0,(7,.own 1 (List.map e4 l6).length),(8,jI many),(10,jI c),(15,.d (.sl 1 (List.map e4 r0))),(16,jI i),(100,.d (.bool (decide (i<(r0.length:Int)))))] [(1,.row 4 1 (List.map e4 l6)),(0,.var 29 (cv29 b))] 3 0) ?_
       refine RW.nil (hQ_46 _ ?_)
       refine AW.cond rfl (fun hb_47=>False.elim (by have:=of_decide_eq_true hb_47;omega)) (fun hb_47=>?_)
       refine AW.exit ?_
       refine hK_18 _ ?_
       refine Ra (sT [(1,.d (.sl 1 (List.map e4 has))),(2,.d (q1 order)),pR 3 0,(7,.own 1 (List.map e4 l6).length),(8,jI many),(10,jI (wr (c+1)))] [(1,.row 4 1 (List.map e4 l6)),(0,.var 29 (cv29 b))] 3 0) ?_
       obtain rfl:=Option.some.inj h
       exact hK_15 _ _ rfl (Can.kp (by kernel_rfl))
    ·have h:=ifF hb_17 h
     refine AW.exit ?_
     obtain rfl:=Option.some.inj h
     obtain rfl:=hb_15 _ rfl
     exact hK_14 _ (Can.kp (by kernel_rfl))
   ·obtain rfl:=Option.some.inj h
    exact hK_13 _ (Can.kp (by kernel_rfl))
  ·refine Sa (sT [(7,.own 1 (List.map e4 l1).length),(17,jI 0)] [(1,.row 4 1 (List.map e4 l1))] 2 0) ?_
   refine AW.seqK (fun K_48 hK_48=>?_)
   refine Sa (sT [(7,.own 1 (List.map e4 l1).length),(17,jI 0),(18,jI 0)] [(1,.row 4 1 (List.map e4 l1))] 2 0) ?_
   refine AW.block ?_
   refine AW.slo (t:=7) rfl (fun hN_49=>?_)
   rw [List.length_map] at hN_49
   obtain ⟨out_49,hx_49,h⟩:=bsome h
   refine AW.evSK (fun (i1:Int) (n:Int)=>(sT [(7,.own 1 (List.map e4 l1).length),(17,jI n),(18,jI i1)] [(1,.row 4 1 (List.map e4 l1))] 2 0)) g53_49 hx_49 (Can.kp (by kernel_rfl)) (fun i1 p4 n hi_49 hl_49 hp_49 c_49 h K_49 hK_49=>?_) (fun i1 n hi_49 hl_49 hout=>?_)
   ·unfold g53_49 at h
    refine AW.seqK fun K_50 hK_50=>AW.srwK fun Q_51 hQ_51=>?_
    refine Au 2 (sT [(7,.own 1 (List.map e4 l1).length),(17,jI n),(18,jI i1),(116,jI i1),(117,.own 1 (List.map e4 l1).length)] [(1,.row 4 1 (List.map e4 l1))] 2 0) ?_
    refine RW.one fokW (r_lenY trivial rfl lenm (r_end ?_))
    refine Au 1 (sT [(7,.own 1 (List.map e4 l1).length),(17,jI n),(18,jI i1),(119,.d (.bool (decide (i1<(l1.length:Int)))))] [(1,.row 4 1 (List.map e4 l1))] 2 0) ?_
    refine RW.nil (hQ_51 _ ?_)
    refine AW.cond rfl (fun hb_52=>?_) (fun hb_52=>False.elim (by have:=of_decide_eq_false hb_52;omega))
    refine AW.skip (hK_50 _ ?_)
    refine AW.seqK (fun K_53 hK_53=>?_)
    refine AW.block ?_
    refine AW.srwK (fun Q_54 hQ_54=>?_)
    refine Au 2 (sT [(7,.own 1 (List.map e4 l1).length),(17,jI n),(18,jI i1),(122,.own 1 (List.map e4 l1).length),(123,jI i1)] [(1,.row 4 1 (List.map e4 l1))] 2 0) ?_
    refine RW.one fokW (r_iaO trivial rfl rfl rfl hi_49 (ix_lt hp_49) rfl (r_end ?_))
    refine RW.one fokW (r_loadE trivial rfl rfl rfl (mapget (f:=e4) hp_49) rfl (r_end ?_))
    refine RW.nil (hQ_54 _ ?_)
    refine AW.cond rfl (fun hb_55=>?_) (fun hb_55=>?_)
    ·have h:=ifT hb_55 h
     refine Ra (sT [(7,.own 1 (List.map e4 l1).length),(17,jI (wr (n+1))),(18,jI i1)] [(1,.row 4 1 (List.map e4 l1))] 2 0) ?_
     refine hK_53 _ ?_
     refine Ra (sT [(7,.own 1 (List.map e4 l1).length),(17,jI (wr (n+1))),(18,jI (wr (i1+1)))] [(1,.row 4 1 (List.map e4 l1))] 2 0) ?_
     obtain rfl:=Option.some.inj h
     have ew:wr (i1+1)=i1+1:=inext (N:=(l1.length:Int)) (by omega) (by omega) (by omega)
     rw [ew]
     exact hK_49 _ (Can.kp (by kernel_rfl))
    ·have h:=ifF hb_55 h
     refine AW.skip (hK_53 _ ?_)
     refine Ra (sT [(7,.own 1 (List.map e4 l1).length),(17,jI n),(18,jI (wr (i1+1)))] [(1,.row 4 1 (List.map e4 l1))] 2 0) ?_
     obtain rfl:=Option.some.inj h
     have ew:wr (i1+1)=i1+1:=inext (N:=(l1.length:Int)) (by omega) (by omega) (by omega)
     rw [ew]
     exact hK_49 _ (Can.kp (by kernel_rfl))
   ·subst hout
    refine AW.seqK fun K_56 hK_56=>AW.srwK fun Q_57 hQ_57=>?_
    refine Au 2 (sT [(7,.own 1 (List.map e4 l1).length),(17,jI n),(18,jI i1),(116,jI i1),(117,.own 1 (List.map e4 l1).length)] [(1,.row 4 1 (List.map e4 l1))] 2 0) ?_
    refine RW.one fokW (r_lenY trivial rfl lenm (r_end ?_))
    refine Au 1 (sT [(7,.own 1 (List.map e4 l1).length),(17,jI n),(18,jI i1),(119,.d (.bool (decide (i1<(l1.length:Int)))))] [(1,.row 4 1 (List.map e4 l1))] 2 0) ?_
    refine RW.nil (hQ_57 _ ?_)
    refine AW.cond rfl (fun hb_58=>False.elim (by have:=of_decide_eq_true hb_58;omega)) (fun hb_58=>?_)
    refine AW.exit ?_
    refine hK_48 _ ?_
    refine Sa (sT [(6,jI n)] [] 2 0) ?_
    obtain rfl:=Option.some.inj h
    exact rT hR_0 (.cons (.tmp rfl) .nil)
def g12_16 (bits:(List Int)):((List Int)×(List Int))→Option (Ctl ((List Int)×(List Int)) (List Int)):=fun  (rest_,l1)=>bif (decide (0<(rest_.length:Int))) then ((g51 bits (l1.length:Int)).bind fun r0_1_1=>(g45 r0_1_1 (rest_.length:Int)).bind fun r0_2_1=>(ixL rest_ r0_2_1).bind fun p=>(appL 8 l1 [p]).bind fun l2=>(g52 rest_ r0_2_1).bind fun r0_3=>some (.next (r0_3,l2))) else (some (.brk l1))
def g12_38 (r0_2:(List Int)):Int→Int→Unit→Option (Ctl (Unit) (Bool)):=fun i p1 _=>(g41 r0_2 i).bind fun r0_1_3=>bif (decide (r0_1_3<0)) then (some (.brk false)) else (some (.next ()))
def g12 (b:HarnessBook) (bits:(List Int)):Option Bool:=(g35 b).bind fun r0_5=>bif (!r0_5) then ((g24).bind fun t2=>some t2) else ((g36 b).bind fun (r0,r1)=>(g33 b).bind fun (r0_2,r1_4)=>(g15 b).bind fun (r0_4,r1_4_1)=>(g40 b).bind fun r0_1=>(whileC (g12_16 bits) 1000 ((r0_1,[]):(List Int)×(List Int))).bind fun l=>bindC ((bif (!r1) then (some true) else (bif (decide (r1_4≠0)) then (some true) else (bif (decide (r1_4_1≠0)) then (some true) else (bif (decide ((r0_2.length:Int)≠(b.Needs.length:Int))) then (some true) else ((g40 b).bind fun r0_6=>(g53 b r0 r0_6).bind fun r0_1_2=>some (decide ((r0_4.length:Int)≠r0_1_2))))))).bind fun v=>bif v then (some (.brk false)) else (some (.next ())):Option (Ctl (Unit) (Bool))) fun _=>bindC (eachC (g12_38 r0_2) r0_2 0 ()) fun _=>(g53 b r0 r0_2).bind fun r0_1_4=>(g53 b r0 l).bind fun r0_1_5=>(bif (decide (r0_1_5<r0_1_4)) then (some true) else (bif (decide (r0_1_4=r0_1_5)) then ((g54 l r0_2).bind fun r0_1_6=>some (!r0_1_6)) else (some false))).bind fun v1=>(bif v1 then ((g24).bind fun t2_1=>some t2_1) else (some false)).bind fun v2=>some v2)
theorem k12 (b:HarnessBook) (bits:(List Int)) (r:Bool) (h:g12 b bits=some r):SCall Tryd.prog Gs 12 [.agg (cv29 b),.d (q1 bits)] [] 0 Fr.emp (.d (.bool r)) [] 0 Fr.emp:=by
 unfold g12 at h
 refine SCall.mkK Tryd.func12 c12 rfl rfl (by kernel_rfl) (fun Q_0 hR_0 hN_0=>?_)
 refine Sa (sT [(1,.d (q1 bits)),pR 2 0] [(0,.var 29 (cv29 b))] 1 0) ?_
 refine AW.seqK fun K_1 hK_1=>AW.srwK fun Q_2 hQ_2=>?_
 refine Au 1 (sT [(1,.d (q1 bits)),pR 2 0,(17,.agg (cv29 b))] [(0,.var 29 (cv29 b))] 1 0) ?_
 obtain ⟨r0_5,hx_3,h⟩:=bsome h
 refine rC (k35 b _ hx_3) ?_
 refine Au 1 (sT [(1,.d (q1 bits)),pR 2 0,(19,.d (.bool (!r0_5)))] [(0,.var 29 (cv29 b))] 1 0) ?_
 refine RW.nil (hQ_2 _ ?_)
 refine AW.cond rfl (fun hb_4=>?_) (fun hb_4=>?_)
 ·have h:=ifT hb_4 h
  refine AW.srwK (fun Q_5 hQ_5=>?_)
  obtain ⟨t2,hx_6,h⟩:=bsome h
  refine rC (k24 _ hx_6) ?_
  refine Au 1 (sT [(4,.d (.bool t2))] [] 1 0) ?_
  refine RW.nil (hQ_5 _ ?_)
  obtain rfl:=Option.some.inj h
  exact rT hR_0 (.cons (.tmp rfl) .nil)
 ·have h:=ifF hb_4 h
  refine AW.skip (hK_1 _ ?_)
  refine AW.srwK (fun Q_7 hQ_7=>?_)
  refine Au 1 (sT [(1,.d (q1 bits)),pR 2 0,(22,.agg (cv29 b))] [(0,.var 29 (cv29 b))] 1 0) ?_
  obtain ⟨⟨r0,r1⟩,hx_8,h⟩:=bsome h
  refine rC (k36 b _ hx_8) ?_
  refine Au 5 (sT [(1,.d (q1 bits)),pR 2 0,(5,.d (.sl 1 (List.map e4 r0))),(6,.d (.bool r1))] [(0,.var 29 (cv29 b))] 1 0) ?_
  refine RW.nil (hQ_7 _ ?_)
  refine AW.srwK (fun Q_9 hQ_9=>?_)
  refine Au 1 (sT [(1,.d (q1 bits)),pR 2 0,(5,.d (.sl 1 (List.map e4 r0))),(6,.d (.bool r1)),(27,.agg (cv29 b))] [(0,.var 29 (cv29 b))] 1 0) ?_
  obtain ⟨⟨r0_2,r1_4⟩,hx_10,h⟩:=bsome h
  refine rC (k33 b _ hx_10) ?_
  refine Au 5 (sT [(1,.d (q1 bits)),pR 2 0,(5,.d (.sl 1 (List.map e4 r0))),(6,.d (.bool r1)),(7,.d (q1 r0_2)),(8,jI r1_4)] [(0,.var 29 (cv29 b))] 1 0) ?_
  refine RW.nil (hQ_9 _ ?_)
  refine AW.srwK (fun Q_11 hQ_11=>?_)
  refine Au 1 (sT [(1,.d (q1 bits)),pR 2 0,(5,.d (.sl 1 (List.map e4 r0))),(6,.d (.bool r1)),(7,.d (q1 r0_2)),(8,jI r1_4),(32,.agg (cv29 b))] [(0,.var 29 (cv29 b))] 1 0) ?_
  obtain ⟨⟨r0_4,r1_4_1⟩,hx_12,h⟩:=bsome h
  refine rC (k15 b _ hx_12) ?_
  refine Au 5 (sT [(1,.d (q1 bits)),pR 2 0,(5,.d (.sl 1 (List.map e4 r0))),(6,.d (.bool r1)),(7,.d (q1 r0_2)),(8,jI r1_4),(9,.d (q1 r0_4)),(10,jI r1_4_1)] [(0,.var 29 (cv29 b))] 1 0) ?_
  refine RW.nil (hQ_11 _ ?_)
  refine AW.srwK (fun Q_13 hQ_13=>?_)
  refine Au 1 (sT [(1,.d (q1 bits)),pR 2 0,(5,.d (.sl 1 (List.map e4 r0))),(6,.d (.bool r1)),(7,.d (q1 r0_2)),(8,jI r1_4),(9,.d (q1 r0_4)),(10,jI r1_4_1),(36,.agg (cv29 b))] [(0,.var 29 (cv29 b))] 1 0) ?_
  obtain ⟨r0_1,hx_14,h⟩:=bsome h
  refine rC (k40 b _ hx_14) ?_
  refine Au 3 (sT [(1,.d (q1 bits)),pR 2 0,(5,.d (.sl 1 (List.map e4 r0))),(6,.d (.bool r1)),(7,.d (q1 r0_2)),(8,jI r1_4),(9,.d (q1 r0_4)),(10,jI r1_4_1),(11,.d (q1 r0_1)),(12,.own 1 (List.map e3 []).length)] [(1,.row 3 1 (List.map e3 [])),(0,.var 29 (cv29 b))] 2 0) ?_
  refine RW.nil (hQ_13 _ ?_)
  obtain ⟨l,hx_15,h⟩:=bsome h
  refine AW.jnSK (fun (l:List Int)=>(sT [pR 2 0,(5,.d (.sl 1 (List.map e4 r0))),(6,.d (.bool r1)),(7,.d (q1 r0_2)),(8,jI r1_4),(9,.d (q1 r0_4)),(10,jI r1_4_1),(12,.own 1 (List.map e3 l).length)] [(1,.row 3 1 (List.map e3 l)),(0,.var 29 (cv29 b))] 2 0)) (c:=l) (fun K_15 hK_15=>?_) ?_
  ·have h:=hx_15
   refine AW.block ?_
   refine AW.whK (fun (⟨rest_,l1⟩:(List Int)×(List Int))=>(sT [(1,.d (q1 bits)),pR 2 0,(5,.d (.sl 1 (List.map e4 r0))),(6,.d (.bool r1)),(7,.d (q1 r0_2)),(8,jI r1_4),(9,.d (q1 r0_4)),(10,jI r1_4_1),(11,.d (q1 rest_)),(12,.own 1 (List.map e3 l1).length)] [(1,.row 3 1 (List.map e3 l1)),(0,.var 29 (cv29 b))] 2 0)) (g12_16 bits) h (Can.kp (by kernel_rfl)) (fun s_16 c_16 h hb_16 K_16 hK_16=>?_)
   obtain ⟨rest_,l1⟩:=s_16
   unfold g12_16 at h
   refine AW.seqK fun K_17 hK_17=>AW.srwK fun Q_18 hQ_18=>?_
   refine Au 1 (sT [(1,.d (q1 bits)),pR 2 0,(5,.d (.sl 1 (List.map e4 r0))),(6,.d (.bool r1)),(7,.d (q1 r0_2)),(8,jI r1_4),(9,.d (q1 r0_4)),(10,jI r1_4_1),(11,.d (q1 rest_)),(12,.own 1 (List.map e3 l1).length),(39,.d (q1 rest_))] [(1,.row 3 1 (List.map e3 l1)),(0,.var 29 (cv29 b))] 2 0) ?_
   refine rL rfl ?_
   refine Au 1 (sT [(1,.d (q1 bits)),pR 2 0,(5,.d (.sl 1 (List.map e4 r0))),(6,.d (.bool r1)),(7,.d (q1 r0_2)),(8,jI r1_4),(9,.d (q1 r0_4)),(10,jI r1_4_1),(11,.d (q1 rest_)),(12,.own 1 (List.map e3 l1).length),(41,.d (.bool (decide (0<(rest_.length:Int)))))] [(1,.row 3 1 (List.map e3 l1)),(0,.var 29 (cv29 b))] 2 0) ?_
   refine RW.nil (hQ_18 _ ?_)
   refine AW.cond rfl (fun hb_19=>?_) (fun hb_19=>?_)
   ·have h:=ifT hb_19 h
    refine AW.skip (hK_17 _ ?_)
    refine AW.block ?_
    refine AW.srwK (fun Q_20 hQ_20=>?_)
    refine Au 2 (sT [(1,.d (q1 bits)),pR 2 0,(5,.d (.sl 1 (List.map e4 r0))),(6,.d (.bool r1)),(7,.d (q1 r0_2)),(8,jI r1_4),(9,.d (q1 r0_4)),(10,jI r1_4_1),(11,.d (q1 rest_)),(12,.own 1 (List.map e3 l1).length),(42,.d (q1 bits)),(43,.own 1 (List.map e3 l1).length)] [(1,.row 3 1 (List.map e3 l1)),(0,.var 29 (cv29 b))] 2 0) ?_
    refine RW.one fokW (r_lenY trivial rfl lenm (r_end ?_))
    obtain ⟨r0_1_1,hx_21,h⟩:=bsome h
    refine rC (k51 bits (l1.length:Int) _ hx_21) ?_
    refine Au 1 (sT [(1,.d (q1 bits)),pR 2 0,(5,.d (.sl 1 (List.map e4 r0))),(6,.d (.bool r1)),(7,.d (q1 r0_2)),(8,jI r1_4),(9,.d (q1 r0_4)),(10,jI r1_4_1),(11,.d (q1 rest_)),(12,.own 1 (List.map e3 l1).length),(45,jI r0_1_1),(46,.d (q1 rest_))] [(1,.row 3 1 (List.map e3 l1)),(0,.var 29 (cv29 b))] 2 0) ?_
    refine rL rfl ?_
    obtain ⟨r0_2_1,hx_22,h⟩:=bsome h
    refine rC (k45 r0_1_1 (rest_.length:Int) _ hx_22) ?_
    refine Au 1 (sT [(1,.d (q1 bits)),pR 2 0,(5,.d (.sl 1 (List.map e4 r0))),(6,.d (.bool r1)),(7,.d (q1 r0_2)),(8,jI r1_4),(9,.d (q1 r0_4)),(10,jI r1_4_1),(11,.d (q1 rest_)),(12,.own 1 (List.map e3 l1).length),(13,jI r0_2_1)] [(1,.row 3 1 (List.map e3 l1)),(0,.var 29 (cv29 b))] 2 0) ?_
    refine RW.nil (hQ_20 _ ?_)
    refine AW.rw ?_
    refine Au 3 (sT [(1,.d (q1 bits)),pR 2 0,(5,.d (.sl 1 (List.map e4 r0))),(6,.d (.bool r1)),(7,.d (q1 r0_2)),(8,jI r1_4),(9,.d (q1 r0_4)),(10,jI r1_4_1),(11,.d (q1 rest_)),(13,jI r0_2_1),(49,.own 1 (List.map e3 l1).length),(50,.d (q1 rest_)),(51,jI r0_2_1)] [(1,.row 3 1 (List.map e3 l1)),(0,.var 29 (cv29 b))] 2 0) ?_
    obtain ⟨p,hv_24,h⟩:=bsome h
    refine RW.one fokW (r_iaD trivial rfl rfl (ixL_ok hv_24).1 (row:=e3 p) (mapget (ixL_ok hv_24).2) (r_end ?_))
    refine Au 2 (sT [(1,.d (q1 bits)),pR 2 0,(5,.d (.sl 1 (List.map e4 r0))),(6,.d (.bool r1)),(7,.d (q1 r0_2)),(8,jI r1_4),(9,.d (q1 r0_4)),(10,jI r1_4_1),(11,.d (q1 rest_)),(13,jI r0_2_1),(49,.own 1 (List.map e3 l1).length),(54,.own 2 (List.map e3 [p]).length)] [(2,.row 3 1 (List.map e3 [p])),(1,.row 3 1 (List.map e3 l1)),(0,.var 29 (cv29 b))] 3 0) ?_
    obtain ⟨l2,hv_25,h⟩:=bsome h
    refine RW.one fokW (r_apO trivial rfl rfl rfl rfl rfl rfl (apz hv_25 e3) (apr hv_25 e3) (r_end ?_))
    refine Au 2 (sT [(1,.d (q1 bits)),pR 2 0,(5,.d (.sl 1 (List.map e4 r0))),(6,.d (.bool r1)),(7,.d (q1 r0_2)),(8,jI r1_4),(9,.d (q1 r0_4)),(10,jI r1_4_1),(55,.own 1 (List.map e3 l2).length),(56,.d (q1 rest_)),(57,jI r0_2_1)] [(1,.row 3 1 (List.map e3 l2)),(0,.var 29 (cv29 b))] 3 0) ?_
    obtain ⟨r0_3,hx_26,h⟩:=bsome h
    refine rC (k52 rest_ r0_2_1 _ hx_26) ?_
    refine Au 2 (sT [(1,.d (q1 bits)),pR 2 0,(5,.d (.sl 1 (List.map e4 r0))),(6,.d (.bool r1)),(7,.d (q1 r0_2)),(8,jI r1_4),(9,.d (q1 r0_4)),(10,jI r1_4_1),(11,.d (q1 r0_3)),(12,.own 1 (List.map e3 l2).length)] [(1,.row 3 1 (List.map e3 l2)),(0,.var 29 (cv29 b))] 3 0) ?_
    refine RW.nil ?_
    obtain rfl:=Option.some.inj h
    exact hK_16 _ _ rfl (Can.kp (by kernel_rfl))
   ·have h:=ifF hb_19 h
    refine AW.exit ?_
    obtain rfl:=Option.some.inj h
    obtain rfl:=hb_16 _ rfl
    exact hK_15 _ (Can.kp (by kernel_rfl))
  ·obtain ⟨c_27,hx_27,hk_27⟩:=bsomeC h
   refine AW.jnK (fun (_:Unit)=>(sT [pR 2 0,(5,.d (.sl 1 (List.map e4 r0))),(7,.d (q1 r0_2)),(12,.own 1 (List.map e3 l).length)] [(1,.row 3 1 (List.map e3 l)),(0,.var 29 (cv29 b))] 2 0)) (c:=c_27) (fun K_27 hK_27=>?_) (fun j_27 hj_27=>?_)
   ·have h:=hx_27
    obtain ⟨v,hx_28,h⟩:=bsome h
    refine AW.jnSK (fun (v:Bool)=>(sT [pR 2 0,(5,.d (.sl 1 (List.map e4 r0))),(7,.d (q1 r0_2)),(12,.own 1 (List.map e3 l).length),(86,.d (.bool v))] [(1,.row 3 1 (List.map e3 l)),(0,.var 29 (cv29 b))] 2 0)) (c:=v) (fun K_28 hK_28=>?_) ?_
    ·have h:=hx_28
     refine AW.drw fokW ?_
     refine aX 3 (sT [pR 2 0,(5,.d (.sl 1 (List.map e4 r0))),(7,.d (q1 r0_2)),(8,jI r1_4),(9,.d (q1 r0_4)),(10,jI r1_4_1),(12,.own 1 (List.map e3 l).length),(61,.d (.bool (!r1)))] [(1,.row 3 1 (List.map e3 l)),(0,.var 29 (cv29 b))] 2 0) ?_
     refine r_split 61 rfl (fun hb_30=>?_) (fun hb_30=>?_)
     ·have h:=ifT hb_30 h
      refine aX 25 (sT [pR 2 0,(5,.d (.sl 1 (List.map e4 r0))),(7,.d (q1 r0_2)),(12,.own 1 (List.map e3 l).length),(86,.d (.bool true))] [(1,.row 3 1 (List.map e3 l)),(0,.var 29 (cv29 b))] 2 0) ?_
      refine Fi (sT [pR 2 0,(5,.d (.sl 1 (List.map e4 r0))),(7,.d (q1 r0_2)),(12,.own 1 (List.map e3 l).length),(86,.d (.bool true))] [(1,.row 3 1 (List.map e3 l)),(0,.var 29 (cv29 b))] 2 0) ?_
      obtain rfl:=Option.some.inj h
      exact hK_28 _ (Can.kp (by kernel_rfl))
     ·have h:=ifF hb_30 h
      refine aX 4 (sT [pR 2 0,(5,.d (.sl 1 (List.map e4 r0))),(7,.d (q1 r0_2)),(9,.d (q1 r0_4)),(10,jI r1_4_1),(12,.own 1 (List.map e3 l).length),(65,.d (.bool (decide (r1_4≠0))))] [(1,.row 3 1 (List.map e3 l)),(0,.var 29 (cv29 b))] 2 0) ?_
      refine r_split 65 rfl (fun hb_31=>?_) (fun hb_31=>?_)
      ·have h:=ifT hb_31 h
       refine aX 21 (sT [pR 2 0,(5,.d (.sl 1 (List.map e4 r0))),(7,.d (q1 r0_2)),(12,.own 1 (List.map e3 l).length),(86,.d (.bool true))] [(1,.row 3 1 (List.map e3 l)),(0,.var 29 (cv29 b))] 2 0) ?_
       refine Fi (sT [pR 2 0,(5,.d (.sl 1 (List.map e4 r0))),(7,.d (q1 r0_2)),(12,.own 1 (List.map e3 l).length),(86,.d (.bool true))] [(1,.row 3 1 (List.map e3 l)),(0,.var 29 (cv29 b))] 2 0) ?_
       obtain rfl:=Option.some.inj h
       exact hK_28 _ (Can.kp (by kernel_rfl))
      ·have h:=ifF hb_31 h
       refine aX 4 (sT [pR 2 0,(5,.d (.sl 1 (List.map e4 r0))),(7,.d (q1 r0_2)),(9,.d (q1 r0_4)),(12,.own 1 (List.map e3 l).length),(69,.d (.bool (decide (r1_4_1≠0))))] [(1,.row 3 1 (List.map e3 l)),(0,.var 29 (cv29 b))] 2 0) ?_
       refine r_split 69 rfl (fun hb_32=>?_) (fun hb_32=>?_)
       ·have h:=ifT hb_32 h
        refine aX 17 (sT [pR 2 0,(5,.d (.sl 1 (List.map e4 r0))),(7,.d (q1 r0_2)),(12,.own 1 (List.map e3 l).length),(86,.d (.bool true))] [(1,.row 3 1 (List.map e3 l)),(0,.var 29 (cv29 b))] 2 0) ?_
        refine Fi (sT [pR 2 0,(5,.d (.sl 1 (List.map e4 r0))),(7,.d (q1 r0_2)),(12,.own 1 (List.map e3 l).length),(86,.d (.bool true))] [(1,.row 3 1 (List.map e3 l)),(0,.var 29 (cv29 b))] 2 0) ?_
        obtain rfl:=Option.some.inj h
        exact hK_28 _ (Can.kp (by kernel_rfl))
       ·have h:=ifF hb_32 h
        refine aX 1 (sT [pR 2 0,(5,.d (.sl 1 (List.map e4 r0))),(7,.d (q1 r0_2)),(9,.d (q1 r0_4)),(12,.own 1 (List.map e3 l).length),(69,.d (.bool false)),(70,.d (q1 r0_2))] [(1,.row 3 1 (List.map e3 l)),(0,.var 29 (cv29 b))] 2 0) ?_
        refine r_lenX rfl rfl lenm ?_
        refine aX 2 (sT [pR 2 0,(5,.d (.sl 1 (List.map e4 r0))),(7,.d (q1 r0_2)),(9,.d (q1 r0_4)),(12,.own 1 (List.map e3 l).length),(69,.d (.bool false)),(71,jI (r0_2.length:Int)),(73,.d (.sl 1 (List.map e30 b.Needs)))] [(1,.row 3 1 (List.map e3 l)),(0,.var 29 (cv29 b))] 2 0) ?_
        refine r_lenX rfl rfl lenm ?_
        refine aX 3 (sT [pR 2 0,(5,.d (.sl 1 (List.map e4 r0))),(7,.d (q1 r0_2)),(9,.d (q1 r0_4)),(12,.own 1 (List.map e3 l).length),(77,.d (.bool (decide ((r0_2.length:Int)≠(b.Needs.length:Int)))))] [(1,.row 3 1 (List.map e3 l)),(0,.var 29 (cv29 b))] 2 0) ?_
        refine r_split 77 rfl (fun hb_33=>?_) (fun hb_33=>?_)
        ·have h:=ifT hb_33 h
         refine aX 9 (sT [pR 2 0,(5,.d (.sl 1 (List.map e4 r0))),(7,.d (q1 r0_2)),(12,.own 1 (List.map e3 l).length),(86,.d (.bool true))] [(1,.row 3 1 (List.map e3 l)),(0,.var 29 (cv29 b))] 2 0) ?_
         refine Fi (sT [pR 2 0,(5,.d (.sl 1 (List.map e4 r0))),(7,.d (q1 r0_2)),(12,.own 1 (List.map e3 l).length),(86,.d (.bool true))] [(1,.row 3 1 (List.map e3 l)),(0,.var 29 (cv29 b))] 2 0) ?_
         obtain rfl:=Option.some.inj h
         exact hK_28 _ (Can.kp (by kernel_rfl))
        ·have h:=ifF hb_33 h
         refine aX 1 (sT [pR 2 0,(5,.d (.sl 1 (List.map e4 r0))),(7,.d (q1 r0_2)),(12,.own 1 (List.map e3 l).length),(77,.d (.bool false)),(78,.d (q1 r0_4))] [(1,.row 3 1 (List.map e3 l)),(0,.var 29 (cv29 b))] 2 0) ?_
         refine r_lenX rfl rfl lenm ?_
         refine aX 3 (sT [pR 2 0,(5,.d (.sl 1 (List.map e4 r0))),(7,.d (q1 r0_2)),(12,.own 1 (List.map e3 l).length),(77,.d (.bool false)),(79,jI (r0_4.length:Int)),(80,.agg (cv29 b)),(81,.d (.sl 1 (List.map e4 r0))),(82,.agg (cv29 b))] [(1,.row 3 1 (List.map e3 l)),(0,.var 29 (cv29 b))] 2 0) ?_
         obtain ⟨r0_6,hx_34,h⟩:=bsome h
         refine r_call rfl rfl (k40 b _ hx_34) rfl rfl ?_
         obtain ⟨r0_1_2,hx_35,h⟩:=bsome h
         refine r_call rfl rfl (k53 b r0 r0_6 _ hx_35) rfl rfl ?_
         refine aX 2 (sT [pR 2 0,(5,.d (.sl 1 (List.map e4 r0))),(7,.d (q1 r0_2)),(12,.own 1 (List.map e3 l).length),(86,.d (.bool (decide ((r0_4.length:Int)≠r0_1_2))))] [(1,.row 3 1 (List.map e3 l)),(0,.var 29 (cv29 b))] 2 0) ?_
         refine Fi (sT [pR 2 0,(5,.d (.sl 1 (List.map e4 r0))),(7,.d (q1 r0_2)),(12,.own 1 (List.map e3 l).length),(86,.d (.bool (decide ((r0_4.length:Int)≠r0_1_2))))] [(1,.row 3 1 (List.map e3 l)),(0,.var 29 (cv29 b))] 2 0) ?_
         obtain rfl:=Option.some.inj h
         exact hK_28 _ (Can.kp (by kernel_rfl))
    ·refine AW.cond rfl (fun hb_36=>?_) (fun hb_36=>?_)
     ·have h:=ifT hb_36 h
      refine Sa (sT [(4,.d (.bool false))] [] 2 0) ?_
      obtain rfl:=Option.some.inj h
      obtain rfl:=Aft.bk hk_27
      exact rT hR_0 (.cons (.tmp rfl) .nil)
     ·have h:=ifF hb_36 h
      refine AW.skip ?_
      obtain rfl:=Option.some.inj h
      exact hK_27 _ _ rfl (Can.kp (by kernel_rfl))
   ·subst hj_27
    have h:=Aft.nx hk_27
    refine AW.seqK (fun K_37 hK_37=>?_)
    refine Sa (sT [pR 2 0,(5,.d (.sl 1 (List.map e4 r0))),(7,.d (q1 r0_2)),(12,.own 1 (List.map e3 l).length),(14,jI 0)] [(1,.row 3 1 (List.map e3 l)),(0,.var 29 (cv29 b))] 2 0) ?_
    refine AW.block ?_
    refine AW.sln (t:=7) rfl (fun hN_38=>?_)
    rw [List.length_map] at hN_38
    obtain ⟨out_38,hx_38,hk_38⟩:=bsomeC h
    refine AW.evCK (fun (i:Int) (_:Unit)=>(sT [pR 2 0,(5,.d (.sl 1 (List.map e4 r0))),(7,.d (q1 r0_2)),(12,.own 1 (List.map e3 l).length),(14,jI i)] [(1,.row 3 1 (List.map e3 l)),(0,.var 29 (cv29 b))] 2 0)) (g12_38 r0_2) hx_38 (Can.kp (by kernel_rfl)) (fun i p1 s_38 hi_38 hl_38 hp_38 c_38 h hb_38 K_38 hK_38=>?_) (fun i s_38 hi_38 hl_38 hout=>?_)
    ·unfold g12_38 at h
     refine AW.seqK fun K_39 hK_39=>AW.srwK fun Q_40 hQ_40=>?_
     refine Au 2 (sT [pR 2 0,(5,.d (.sl 1 (List.map e4 r0))),(7,.d (q1 r0_2)),(12,.own 1 (List.map e3 l).length),(14,jI i),(87,jI i),(88,.d (q1 r0_2))] [(1,.row 3 1 (List.map e3 l)),(0,.var 29 (cv29 b))] 2 0) ?_
     refine rL rfl ?_
     refine Au 1 (sT [pR 2 0,(5,.d (.sl 1 (List.map e4 r0))),(7,.d (q1 r0_2)),(12,.own 1 (List.map e3 l).length),(14,jI i),(90,.d (.bool (decide (i<(r0_2.length:Int)))))] [(1,.row 3 1 (List.map e3 l)),(0,.var 29 (cv29 b))] 2 0) ?_
     refine RW.nil (hQ_40 _ ?_)
     refine AW.cond rfl (fun hb_41=>?_) (fun hb_41=>False.elim (by have:=of_decide_eq_false hb_41;omega))
     refine AW.skip (hK_39 _ ?_)
     refine AW.seqK (fun K_42 hK_42=>?_)
     refine AW.block ?_
     refine AW.srwK (fun Q_43 hQ_43=>?_)
     refine Au 2 (sT [pR 2 0,(5,.d (.sl 1 (List.map e4 r0))),(7,.d (q1 r0_2)),(12,.own 1 (List.map e3 l).length),(14,jI i),(93,.d (q1 r0_2)),(94,jI i)] [(1,.row 3 1 (List.map e3 l)),(0,.var 29 (cv29 b))] 2 0) ?_
     obtain ⟨r0_1_3,hx_44,h⟩:=bsome h
     refine rC (k41 r0_2 i _ hx_44) ?_
     refine Au 1 (sT [pR 2 0,(5,.d (.sl 1 (List.map e4 r0))),(7,.d (q1 r0_2)),(12,.own 1 (List.map e3 l).length),(14,jI i),(96,.d (.bool (decide (r0_1_3<0))))] [(1,.row 3 1 (List.map e3 l)),(0,.var 29 (cv29 b))] 2 0) ?_
     refine RW.nil (hQ_43 _ ?_)
     refine AW.cond rfl (fun hb_45=>?_) (fun hb_45=>?_)
     ·have h:=ifT hb_45 h
      refine Sa (sT [(4,.d (.bool false))] [] 2 0) ?_
      obtain rfl:=Option.some.inj h
      have e_1:=hb_38 _ rfl
      subst e_1
      obtain rfl:=Aft.bk hk_38
      exact rT hR_0 (.cons (.tmp rfl) .nil)
     ·have h:=ifF hb_45 h
      refine AW.skip (hK_42 _ ?_)
      refine Ra (sT [pR 2 0,(5,.d (.sl 1 (List.map e4 r0))),(7,.d (q1 r0_2)),(12,.own 1 (List.map e3 l).length),(14,jI (wr (i+1)))] [(1,.row 3 1 (List.map e3 l)),(0,.var 29 (cv29 b))] 2 0) ?_
      obtain rfl:=Option.some.inj h
      have ew:wr (i+1)=i+1:=inext (N:=(r0_2.length:Int)) (by omega) (by omega) (by omega)
      rw [ew]
      exact hK_38 _ _ rfl (Can.kp (by kernel_rfl))
    ·subst hout
     have h:=Aft.nx hk_38
     refine AW.seqK fun K_46 hK_46=>AW.srwK fun Q_47 hQ_47=>?_
     refine Au 2 (sT [pR 2 0,(5,.d (.sl 1 (List.map e4 r0))),(7,.d (q1 r0_2)),(12,.own 1 (List.map e3 l).length),(14,jI i),(87,jI i),(88,.d (q1 r0_2))] [(1,.row 3 1 (List.map e3 l)),(0,.var 29 (cv29 b))] 2 0) ?_
     refine rL rfl ?_
     refine Au 1 (sT [pR 2 0,(5,.d (.sl 1 (List.map e4 r0))),(7,.d (q1 r0_2)),(12,.own 1 (List.map e3 l).length),(14,jI i),(90,.d (.bool (decide (i<(r0_2.length:Int)))))] [(1,.row 3 1 (List.map e3 l)),(0,.var 29 (cv29 b))] 2 0) ?_
     refine RW.nil (hQ_47 _ ?_)
     refine AW.cond rfl (fun hb_48=>False.elim (by have:=of_decide_eq_true hb_48;omega)) (fun hb_48=>?_)
     refine AW.exit ?_
     refine hK_37 _ ?_
     refine AW.sdrwK fokW (fun Q_49 hQ_49=>?_)
     refine aX 3 (sT [pR 2 0,(5,.d (.sl 1 (List.map e4 r0))),(7,.d (q1 r0_2)),(12,.own 1 (List.map e3 l).length),(97,.agg (cv29 b)),(98,.d (.sl 1 (List.map e4 r0))),(99,.d (q1 r0_2))] [(1,.row 3 1 (List.map e3 l)),(0,.var 29 (cv29 b))] 2 0) ?_
     obtain ⟨r0_1_4,hx_50,h⟩:=bsome h
     refine r_call trivial rfl (k53 b r0 r0_2 _ hx_50) rfl rfl ?_
     refine aX 3 (sT [(7,.d (q1 r0_2)),(12,.own 1 (List.map e3 l).length),(100,jI r0_1_4),(101,.agg (cv29 b)),(102,.d (.sl 1 (List.map e4 r0))),(103,.own 1 (List.map e3 l).length)] [(1,.row 3 1 (List.map e3 l)),(0,.var 29 (cv29 b))] 2 0) ?_
     obtain ⟨r0_1_5,hx_51,h⟩:=bsome h
     refine r_callF (rs:=[(1,.row 3 1 (List.map e3 l))]) trivial rfl (k53 b r0 l _ hx_51) ⟨rfl,trivial⟩ ⟨.refl _,.refl _,(.own rfl rfl),trivial⟩ rfl rfl rfl ?_
     refine aX 2 (sT [(7,.d (q1 r0_2)),(12,.own 1 (List.map e3 l).length),(15,jI r0_1_4),(16,jI r0_1_5)] [(1,.row 3 1 (List.map e3 l)),(0,.var 29 (cv29 b))] 2 0) ?_
     refine Fi (sT [(7,.d (q1 r0_2)),(12,.own 1 (List.map e3 l).length),(15,jI r0_1_4),(16,jI r0_1_5)] [(1,.row 3 1 (List.map e3 l))] 2 0) ?_
     refine hQ_49 _ ?_
     refine AW.srwK (fun Q_52 hQ_52=>?_)
     refine Au 4 (sT [(7,.d (q1 r0_2)),(12,.own 1 (List.map e3 l).length),(15,jI r0_1_4),(16,jI r0_1_5),(108,.d (.bool (decide (r0_1_5<r0_1_4))))] [(1,.row 3 1 (List.map e3 l))] 2 0) ?_
     obtain ⟨v1,hx_53,h⟩:=bsome h
     refine RW.cut fokW 10 ((sT [(118,.d (.bool v1))] [] 2 0)) ?_ ?_
     ·refine r_split 108 rfl (fun hb_56=>?_) (fun hb_56=>?_)
      ·have h:=ifT hb_56 hx_53
       refine aX 10 (sT [(118,.d (.bool true))] [(1,.row 3 1 (List.map e3 l))] 2 0) ?_
       obtain rfl:=Option.some.inj h
       refine RunC.finJ (Can.kp (by kernel_rfl))
      ·have h:=ifF hb_56 hx_53
       refine aX 4 (sT [(7,.d (q1 r0_2)),(12,.own 1 (List.map e3 l).length),(108,.d (.bool false)),(112,.d (.bool (decide (r0_1_4=r0_1_5))))] [(1,.row 3 1 (List.map e3 l))] 2 0) ?_
       refine r_split 112 rfl (fun hb_54=>?_) (fun hb_54=>?_)
       ·have h:=ifT hb_54 h
        refine aX 2 (sT [(108,.d (.bool false)),(112,.d (.bool true)),(113,.own 1 (List.map e3 l).length),(114,.d (q1 r0_2))] [(1,.row 3 1 (List.map e3 l))] 2 0) ?_
        obtain ⟨r0_1_6,hx_55,h⟩:=bsome h
        refine r_callF (rs:=[(1,.row 3 1 (List.map e3 l))]) rfl rfl (k54 l r0_2 _ hx_55) ⟨rfl,trivial⟩ ⟨(.own rfl rfl),.refl _,trivial⟩ rfl rfl rfl ?_
        refine aX 3 (sT [(118,.d (.bool (!r0_1_6)))] [(1,.row 3 1 (List.map e3 l))] 2 0) ?_
        obtain rfl:=Option.some.inj h
        refine RunC.finJ (Can.kp (by kernel_rfl))
       ·have h:=ifF hb_54 h
        refine aX 6 (sT [(118,.d (.bool false))] [(1,.row 3 1 (List.map e3 l))] 2 0) ?_
        obtain rfl:=Option.some.inj h
        refine RunC.finJ (Can.kp (by kernel_rfl))
     ·refine Au 1 (sT [(119,.d (.bool v1))] [] 2 0) ?_
      obtain ⟨v2,hx_57,h⟩:=bsome h
      refine RW.cut fokW 2 ((sT [(121,.d (.bool v2))] [] 2 0)) ?_ ?_
      ·refine r_split 119 rfl (fun hb_59=>?_) (fun hb_59=>?_)
       ·have h:=ifT hb_59 hx_57
        obtain ⟨t2_1,hx_58,h⟩:=bsome h
        refine r_call rfl rfl (k24 _ hx_58) rfl rfl ?_
        refine aX 1 (sT [(121,.d (.bool t2_1))] [] 2 0) ?_
        obtain rfl:=Option.some.inj h
        refine RunC.finJ (Can.kp (by kernel_rfl))
       ·have h:=ifF hb_59 hx_57
        refine aX 2 (sT [(121,.d (.bool false))] [] 2 0) ?_
        obtain rfl:=Option.some.inj h
        refine RunC.finJ (Can.kp (by kernel_rfl))
      ·refine Au 1 (sT [(4,.d (.bool v2))] [] 2 0) ?_
       refine RW.nil (hQ_52 _ ?_)
       obtain rfl:=Option.some.inj h
       exact rT hR_0 (.cons (.tmp rfl) .nil)
end Go.Proofs.Tr
