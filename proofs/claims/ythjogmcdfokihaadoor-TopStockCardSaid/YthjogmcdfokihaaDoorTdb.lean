/- Told functions, and that the program does so, part 2. Conditions: none. -/
import Derived.Test.YthjogmcdfokihaaDoorTda
set_option linter.unusedVariables false
set_option linter.unusedSimpArgs false
namespace Go.Proofs.Tp
open Go Go.Abs Go.Proofs
def g25_4 (o0_K:PlankBook):Int→((List Int)×Bool)→Option ((List Int)×Bool):=fun v (best,found)=>(g29 v).bind fun r0=>(bif (!found) then (some true) else ((g54 r0 best).bind fun r0_1=>some r0_1)).bind fun v1=>(bif v1 then ((g26 v o0_K).bind fun r0_2=>some r0_2) else (some false)).bind fun v2=>bif v2 then (some (r0,true)) else (some (best,found))
def g25 (below:Int) (o0_K:PlankBook):Option ((List Int)×Bool):=(must (decide (0≤below))).bind fun _=>(must (decide ((shl64 1 below)≤9223372036854775807))).bind fun _=>(forS (g25_4 o0_K) ((((shl64 1 below):Int) - 0).toNat) 0 (([],false):(List Int)×Bool)).bind fun (best,found)=>(slcL best 0 (best.length:Int)).bind fun l=>some (l,found)
theorem k25 (g_:Nat) (fr_:Fr) (hW_:FrW g_ WI fr_) (below:Int) (o0_K:PlankBook) (r:(List Int)×Bool) (h:g25 below o0_K=some r):SCall Tryd.prog Gs 25 [.agg [.d (.fn 54)],jI below,.clo 26 [] [.ptr 0 0]] [(0,.var 67 (pbm o0_K (.wmp g_)))] 1 fr_ (match r with | (r0_3,r1)=>.tup [.d (q1 r0_3),.d (.bool r1)]) (match r with | (r0_3,r1)=>[(0,.var 67 (pbm o0_K (.wmp g_)))]) 1 fr_:=by
 unfold g25 at h
 refine SCall.mkK Tryd.func25 c25 rfl rfl (by kernel_rfl) (fun Q_0 hR_0 hN_0=>?_)
 refine Sa ⟨[(1,jI below),(2,.clo 26 [] [.ptr 0 0]),pR 3 1],[(1,.var 71 [.d (.fn 54)]),(0,.var 67 (pbm o0_K (.wmp g_)))],2,fr_,[],1⟩ ?_
 refine Sa ⟨[(1,jI below),(2,.clo 26 [] [.ptr 0 0]),pR 3 1,(8,.d (.nilSl))],[(1,.var 71 [.d (.fn 54)]),(0,.var 67 (pbm o0_K (.wmp g_)))],2,fr_,[],1⟩ ?_
 refine Sa ⟨[(1,jI below),(2,.clo 26 [] [.ptr 0 0]),pR 3 1,(8,.d (.nilSl)),(9,.d (.bool false))],[(1,.var 71 [.d (.fn 54)]),(0,.var 67 (pbm o0_K (.wmp g_)))],2,fr_,[],1⟩ ?_
 refine AW.seqK fun K_1 hK_1=>AW.srwK fun Q_2 hQ_2=>?_
 refine Au 1 ⟨[(2,.clo 26 [] [.ptr 0 0]),pR 3 1,(8,.d (.nilSl)),(9,.d (.bool false)),(12,jI below)],[(1,.var 71 [.d (.fn 54)]),(0,.var 67 (pbm o0_K (.wmp g_)))],2,fr_,[],1⟩ ?_
 obtain ⟨_,hv_3,h⟩:=bsome h
 refine RW.one fokW (r_sh trivial rfl rfl (shl64_ok (of_decide_eq_true (must_ok hv_3))) (r_end ?_))
 refine Au 1 ⟨[(2,.clo 26 [] [.ptr 0 0]),pR 3 1,(8,.d (.nilSl)),(9,.d (.bool false)),(13,jI (shl64 1 below)),(14,jI 0)],[(1,.var 71 [.d (.fn 54)]),(0,.var 67 (pbm o0_K (.wmp g_)))],2,fr_,[],1⟩ ?_
 refine RW.nil (hQ_2 _ ?_)
 refine AW.block ?_
 obtain ⟨_,hN_4,h⟩:=bsome h
 have hN_4:=of_decide_eq_true (must_ok hN_4)
 obtain ⟨out_4,hx_4,h⟩:=bsome h
 refine AW.lpSK (fun (v:Int) (⟨best,found⟩:(List Int)×Bool)=>⟨[(2,.clo 26 [] [.ptr 0 0]),pR 3 1,(8,.d (q1 best)),(9,.d (.bool found)),(13,jI (shl64 1 below)),(14,jI v)],[(1,.var 71 [.d (.fn 54)]),(0,.var 67 (pbm o0_K (.wmp g_)))],2,fr_,[],1⟩) (g25_4 o0_K) ((shl64 1 below)) hx_4 (Can.trans (Can.wkE 8 1 rfl) (Can.kp (by kernel_rfl))) (fun v s_4 hi_4 hl_4 c_4 h K_4 hK_4=>?_) (fun v s_4 hi_4 hl_4 hout=>?_)
 ·obtain ⟨best,found⟩:=s_4
  unfold g25_4 at h
  refine Sa ⟨[(2,.clo 26 [] [.ptr 0 0]),pR 3 1,(8,.d (q1 best)),(9,.d (.bool found)),(13,jI (shl64 1 below)),(14,jI v),(15,.d (.bool (decide (v<(shl64 1 below)))))],[(1,.var 71 [.d (.fn 54)]),(0,.var 67 (pbm o0_K (.wmp g_)))],2,fr_,[],1⟩ ?_
  refine AW.seqK (fun K_5 hK_5=>?_)
  refine AW.cond rfl (fun hb_6=>?_) (fun hb_6=>False.elim (by have:=of_decide_eq_false hb_6;omega))
  refine AW.skip (hK_5 _ ?_)
  refine AW.seqK (fun K_7 hK_7=>?_)
  refine AW.block ?_
  refine Sa ⟨[(2,.clo 26 [] [.ptr 0 0]),pR 3 1,(8,.d (q1 best)),(9,.d (.bool found)),(10,jI v),(13,jI (shl64 1 below)),(14,jI v)],[(1,.var 71 [.d (.fn 54)]),(0,.var 67 (pbm o0_K (.wmp g_)))],2,fr_,[],1⟩ ?_
  refine AW.srwK (fun Q_8 hQ_8=>?_)
  refine Au 1 ⟨[(2,.clo 26 [] [.ptr 0 0]),pR 3 1,(8,.d (q1 best)),(9,.d (.bool found)),(10,jI v),(13,jI (shl64 1 below)),(14,jI v),(17,jI v)],[(1,.var 71 [.d (.fn 54)]),(0,.var 67 (pbm o0_K (.wmp g_)))],2,fr_,[],1⟩ ?_
  obtain ⟨r0,hx_9,h⟩:=bsome h
  refine rC (k29 v _ hx_9) ?_
  refine Au 1 ⟨[(2,.clo 26 [] [.ptr 0 0]),pR 3 1,(8,.d (q1 best)),(9,.d (.bool found)),(10,jI v),(11,.d (q1 r0)),(13,jI (shl64 1 below)),(14,jI v)],[(1,.var 71 [.d (.fn 54)]),(0,.var 67 (pbm o0_K (.wmp g_)))],2,fr_,[],1⟩ ?_
  refine RW.nil (hQ_8 _ ?_)
  refine AW.srwK (fun Q_10 hQ_10=>?_)
  refine Au 3 ⟨[(2,.clo 26 [] [.ptr 0 0]),pR 3 1,(8,.d (q1 best)),(9,.d (.bool found)),(10,jI v),(11,.d (q1 r0)),(13,jI (shl64 1 below)),(14,jI v),(21,.d (.bool (!found)))],[(1,.var 71 [.d (.fn 54)]),(0,.var 67 (pbm o0_K (.wmp g_)))],2,fr_,[],1⟩ ?_
  obtain ⟨v1,hx_11,h⟩:=bsome h
  refine RW.cut fokW 6 (⟨[(2,.clo 26 [] [.ptr 0 0]),pR 3 1,(8,.d (q1 best)),(9,.d (.bool found)),(10,jI v),(11,.d (q1 r0)),(13,jI (shl64 1 below)),(14,jI v),(27,.d (.bool v1))],[(1,.var 71 [.d (.fn 54)]),(0,.var 67 (pbm o0_K (.wmp g_)))],2,fr_,[],1⟩) ?_ ?_
  ·refine r_split 21 rfl (fun hb_13=>?_) (fun hb_13=>?_)
   ·have h:=ifT hb_13 hx_11
    refine aX 6 ⟨[(2,.clo 26 [] [.ptr 0 0]),pR 3 1,(8,.d (q1 best)),(9,.d (.bool found)),(10,jI v),(11,.d (q1 r0)),(13,jI (shl64 1 below)),(14,jI v),(27,.d (.bool true))],[(1,.var 71 [.d (.fn 54)]),(0,.var 67 (pbm o0_K (.wmp g_)))],2,fr_,[],1⟩ ?_
    obtain rfl:=Option.some.inj h
    refine RunC.finJ (Can.kp (by kernel_rfl))
   ·have h:=ifF hb_13 hx_11
    refine aX 4 ⟨[(2,.clo 26 [] [.ptr 0 0]),pR 3 1,(8,.d (q1 best)),(9,.d (.bool found)),(10,jI v),(11,.d (q1 r0)),(13,jI (shl64 1 below)),(14,jI v),(21,.d (.bool false)),(23,.d (.fn 54)),(24,.d (q1 r0)),(25,.d (q1 best))],[(1,.var 71 [.d (.fn 54)]),(0,.var 67 (pbm o0_K (.wmp g_)))],2,fr_,[],1⟩ ?_
    obtain ⟨r0_1,hx_12,h⟩:=bsome h
    refine r_callvZ (zr:=[]) rfl rfl (.fn _) (by kernel_rfl) rfl (k54 r0 best _ hx_12) trivial ⟨.refl _,.refl _,trivial⟩ rfl rfl rfl rfl ?_
    refine aX 1 ⟨[(2,.clo 26 [] [.ptr 0 0]),pR 3 1,(8,.d (q1 best)),(9,.d (.bool found)),(10,jI v),(11,.d (q1 r0)),(13,jI (shl64 1 below)),(14,jI v),(27,.d (.bool r0_1))],[(1,.var 71 [.d (.fn 54)]),(0,.var 67 (pbm o0_K (.wmp g_)))],2,fr_,[],1⟩ ?_
    obtain rfl:=Option.some.inj h
    refine RunC.finJ (Can.kp (by kernel_rfl))
  ·refine Au 1 ⟨[(2,.clo 26 [] [.ptr 0 0]),pR 3 1,(8,.d (q1 best)),(9,.d (.bool found)),(10,jI v),(11,.d (q1 r0)),(13,jI (shl64 1 below)),(14,jI v),(28,.d (.bool v1))],[(1,.var 71 [.d (.fn 54)]),(0,.var 67 (pbm o0_K (.wmp g_)))],2,fr_,[],1⟩ ?_
   obtain ⟨v2,hx_14,h⟩:=bsome h
   refine RW.cut fokW 4 (⟨[(2,.clo 26 [] [.ptr 0 0]),pR 3 1,(8,.d (q1 best)),(9,.d (.bool found)),(11,.d (q1 r0)),(13,jI (shl64 1 below)),(14,jI v),(32,.d (.bool v2))],[(0,.var 67 (pbm o0_K (.wmp g_))),(1,.var 71 [.d (.fn 54)])],2,fr_,[],1⟩) ?_ ?_
   ·refine r_split 28 rfl (fun hb_16=>?_) (fun hb_16=>?_)
    ·have h:=ifT hb_16 hx_14
     refine aX 2 ⟨[(2,.clo 26 [] [.ptr 0 0]),pR 3 1,(8,.d (q1 best)),(9,.d (.bool found)),(11,.d (q1 r0)),(13,jI (shl64 1 below)),(14,jI v),(28,.d (.bool true)),(29,.clo 26 [] [.ptr 0 0]),(30,jI v)],[(1,.var 71 [.d (.fn 54)]),(0,.var 67 (pbm o0_K (.wmp g_)))],2,fr_,[],1⟩ ?_
     obtain ⟨r0_2,hx_15,h⟩:=bsome h
     refine r_callvS (zr:=[]) [0] rfl rfl (.clo _ _ _) (by kernel_rfl) rfl (k26 g_ fr_ hW_ v o0_K _ hx_15) ⟨rfl,trivial⟩ rfl rfl ⟨.refl _,.refl _,trivial⟩ rfl rfl rfl ?_
     refine aX 1 ⟨[(2,.clo 26 [] [.ptr 0 0]),pR 3 1,(8,.d (q1 best)),(9,.d (.bool found)),(11,.d (q1 r0)),(13,jI (shl64 1 below)),(14,jI v),(32,.d (.bool r0_2))],[(0,.var 67 (pbm o0_K (.wmp g_))),(1,.var 71 [.d (.fn 54)])],2,fr_,[],1⟩ ?_
     obtain rfl:=Option.some.inj h
     refine RunC.finJ (Can.kp (by kernel_rfl))
    ·have h:=ifF hb_16 hx_14
     refine aX 4 ⟨[(2,.clo 26 [] [.ptr 0 0]),pR 3 1,(8,.d (q1 best)),(9,.d (.bool found)),(11,.d (q1 r0)),(13,jI (shl64 1 below)),(14,jI v),(32,.d (.bool false))],[(1,.var 71 [.d (.fn 54)]),(0,.var 67 (pbm o0_K (.wmp g_)))],2,fr_,[],1⟩ ?_
     obtain rfl:=Option.some.inj h
     refine RunC.finJ (Can.kp (by kernel_rfl))
   ·refine RW.nil (hQ_10 _ ?_)
    refine AW.cond rfl (fun hb_17=>?_) (fun hb_17=>?_)
    ·have h:=ifT hb_17 h
     refine Ra ⟨[(2,.clo 26 [] [.ptr 0 0]),pR 3 1,(8,.d (q1 r0)),(9,.d (.bool true)),(13,jI (shl64 1 below)),(14,jI v)],[(0,.var 67 (pbm o0_K (.wmp g_))),(1,.var 71 [.d (.fn 54)])],2,fr_,[],1⟩ ?_
     refine hK_7 _ ?_
     refine Ra ⟨[(2,.clo 26 [] [.ptr 0 0]),pR 3 1,(8,.d (q1 r0)),(9,.d (.bool true)),(13,jI (shl64 1 below)),(14,jI (wr (v+1)))],[(0,.var 67 (pbm o0_K (.wmp g_))),(1,.var 71 [.d (.fn 54)])],2,fr_,[],1⟩ ?_
     obtain rfl:=Option.some.inj h
     have ew:wr (v+1)=v+1:=inext (N:=(shl64 1 below)) (by omega) (by omega) (by omega)
     rw [ew]
     exact hK_4 _ (Can.kp (by kernel_rfl))
    ·have h:=ifF hb_17 h
     refine AW.skip (hK_7 _ ?_)
     refine Ra ⟨[(2,.clo 26 [] [.ptr 0 0]),pR 3 1,(8,.d (q1 best)),(9,.d (.bool found)),(13,jI (shl64 1 below)),(14,jI (wr (v+1)))],[(0,.var 67 (pbm o0_K (.wmp g_))),(1,.var 71 [.d (.fn 54)])],2,fr_,[],1⟩ ?_
     obtain rfl:=Option.some.inj h
     have ew:wr (v+1)=v+1:=inext (N:=(shl64 1 below)) (by omega) (by omega) (by omega)
     rw [ew]
     exact hK_4 _ (Can.kp (by kernel_rfl))
 ·obtain ⟨best,found⟩:=s_4
  subst hout
  refine Sa ⟨[(2,.clo 26 [] [.ptr 0 0]),pR 3 1,(8,.d (q1 best)),(9,.d (.bool found)),(13,jI (shl64 1 below)),(14,jI v),(15,.d (.bool (decide (v<(shl64 1 below)))))],[(1,.var 71 [.d (.fn 54)]),(0,.var 67 (pbm o0_K (.wmp g_)))],2,fr_,[],1⟩ ?_
  refine AW.seqK (fun K_18 hK_18=>?_)
  refine AW.cond rfl (fun hb_19=>False.elim (by have:=of_decide_eq_true hb_19;omega)) (fun hb_19=>?_)
  refine AW.exit ?_
  refine hK_1 _ ?_
  refine AW.srwK (fun Q_20 hQ_20=>?_)
  refine Au 2 ⟨[(8,.d (q1 best)),(9,.d (.bool found)),(35,.d (q1 best)),(36,.d (q1 best))],[(0,.var 67 (pbm o0_K (.wmp g_)))],2,fr_,[],1⟩ ?_
  refine rL rfl ?_
  refine Au 1 ⟨[(9,.d (.bool found)),(35,.d (q1 best)),(37,jI (best.length:Int)),(38,.d (q1 best))],[(0,.var 67 (pbm o0_K (.wmp g_)))],2,fr_,[],1⟩ ?_
  refine rL rfl ?_
  obtain ⟨l,hv_21,h⟩:=bsome h
  refine RW.one fokW (r_slN trivial rfl rfl rfl DSl.d (slcL_ok hv_21).2.1 (by rw [List.length_map];exact (slcL_ok hv_21).2.2.1) rfl (slz hv_21 e3) (r_end ?_))
  refine Au 3 ⟨[(6,.fsl 1 (List.map e3 l)),(7,.d (.bool found))],[(0,.var 67 (pbm o0_K (.wmp g_)))],2,fr_,[],1⟩ ?_
  refine RW.nil (hQ_20 _ ?_)
  obtain rfl:=Option.some.inj h
  exact AW.ret (hR_0 _ (retX (.cons (.tmp rfl) (.cons (.tmp rfl) .nil)) (Frz.tup_of ⟨.fsl _ _,.refl _,trivial⟩) rfl (by kernel_rfl) (by kernel_rfl)))
def g10 (x:PlankBook):Option ((List Int)×Int):=(g18 x).bind fun r0_4=>bif (decide (r0_4≠0)) then (some ([],r0_4)) else ((g23 x).bind fun (r0_K,m2)=>(must (wimB m2)).bind fun _=>(g24).bind fun _=>(g25 (x.Planks.length:Int) r0_K).bind fun (r0_3,r1)=>bif (!r1) then (some ([],4)) else (some (r0_3,0)))
theorem k10 (x:PlankBook) (r:(List Int)×Int) (h:g10 x=some r):SCall Tryd.prog Gs 10 [.agg (pbv x)] [] 0 Fr.emp (match r with | (r0_2,r1_3)=>.tup [.d (q1 r0_2),jI r1_3]) [] 0 Fr.emp:=by
 unfold g10 at h
 refine SCall.mkK Tryd.func10 c10 rfl rfl (by kernel_rfl) (fun Q_0 hR_0 hN_0=>?_)
 refine Sa (sT [pR 1 0] [(0,.var 25 (pbv x))] 1 0) ?_
 refine AW.seqK fun K_1 hK_1=>AW.srwK fun Q_2 hQ_2=>?_
 refine Au 1 (sT [pR 1 0,(8,.agg (pbv x))] [(0,.var 25 (pbv x))] 1 0) ?_
 obtain ⟨r0_4,hx_3,h⟩:=bsome h
 refine rC (k18 x _ hx_3) ?_
 refine Au 1 (sT [pR 1 0,(4,jI r0_4)] [(0,.var 25 (pbv x))] 1 0) ?_
 refine RW.nil (hQ_2 _ ?_)
 refine Sa (sT [pR 1 0,(4,jI r0_4),(11,.d (.bool (decide (r0_4≠0))))] [(0,.var 25 (pbv x))] 1 0) ?_
 refine AW.cond rfl (fun hb_4=>?_) (fun hb_4=>?_)
 ·have h:=ifT hb_4 h
  refine Sa (sT [(2,.d (.nilSl)),(3,jI r0_4)] [] 1 0) ?_
  obtain rfl:=Option.some.inj h
  exact AW.ret (hR_0 _ (retX (.cons (.tmp rfl) (.cons (.tmp rfl) .nil)) (Frz.tup_of ⟨.nil 1,.refl _,trivial⟩) rfl (by kernel_rfl) (by kernel_rfl)))
 ·have h:=ifF hb_4 h
  refine AW.skip (hK_1 _ ?_)
  refine AW.srwK (fun Q_5 hQ_5=>?_)
  refine Au 1 (sT [pR 1 0,(13,.agg (pbv x))] [(0,.var 25 (pbv x))] 1 0) ?_
  obtain ⟨⟨r0_K,m2⟩,hx_6,h⟩:=bsome h
  refine RW.one fokW (r_callS (zr:=[]) [] trivial rfl (k23 x _ hx_6) trivial rfl rfl ⟨.refl _,trivial⟩ rfl rfl rfl (r_end ?_))
  refine Au 2 (sT [pR 1 0,pR 5 4] [(4,.var 67 (pbm r0_K (.map 3))),(3,.mp (List.map m104_3 m2)),(0,.var 25 (pbv x))] 5 0) ?_
  refine RW.nil (hQ_5 _ ?_)
  obtain ⟨_,hv_7,h⟩:=bsome h
  refine AW.kp (sT [pR 1 0,pR 5 4] [(4,.var 67 (pbm r0_K (.map 3))),(3,.mp (List.map m104_3 m2)),(0,.var 25 (pbv x))] 5 0) (by kernel_rfl) ?_
  refine AW.hide 3 WIm_pl (WIm_of (must_ok hv_7)) rfl rfl (by kernel_rfl) (σ':=fun g_=>⟨[pR 1 0,pR 5 4],[(4,.var 67 (pbm r0_K (.wmp g_))),(0,.var 25 (pbv x))],5,(FrTop g_ WI),[],0⟩) (fun g_=>by kernel_rfl) (fun g_=>?_)
  refine AW.sdrwK fokW (fun Q_8 hQ_8=>?_)
  obtain ⟨⟨⟩,hx_9,h⟩:=bsome h
  refine r_call trivial rfl (k24 _ hx_9) rfl rfl ?_
  refine aX 2 ⟨[pR 5 4,(16,.agg [.d (.fn 54)]),(18,.d (.sl 2 (List.map e32 x.Planks)))],[(4,.var 67 (pbm r0_K (.wmp g_))),(0,.var 25 (pbv x))],5,(FrTop g_ WI),[],0⟩ ?_
  refine r_lenX trivial rfl lenm ?_
  refine aX 1 ⟨[(16,.agg [.d (.fn 54)]),(19,jI (x.Planks.length:Int)),(20,.clo 26 [] [.ptr 4 0])],[(4,.var 67 (pbm r0_K (.wmp g_))),(0,.var 25 (pbv x))],5,(FrTop g_ WI),[],0⟩ ?_
  obtain ⟨⟨r0_3,r1⟩,hx_10,h⟩:=bsome h
  refine r_callSW (zr:=[]) [4] trivial rfl (k25 g_ (FrTop g_ WI) (FrTop.ok g_ WI) (x.Planks.length:Int) r0_K _ hx_10) ⟨rfl,trivial⟩ rfl rfl ⟨.refl _,.refl _,.refl _,trivial⟩ rfl rfl rfl ?_
  refine aX 5 ⟨[(6,.d (q1 r0_3)),(7,.d (.bool r1))],[(4,.var 67 (pbm r0_K (.wmp g_))),(0,.var 25 (pbv x))],5,(FrTop g_ WI),[],0⟩ ?_
  refine Fi ⟨[(6,.d (q1 r0_3)),(7,.d (.bool r1))],[],5,(FrTop g_ WI),[],0⟩ ?_
  refine hQ_8 _ ?_
  refine AW.can (σ1:=(sT [(6,.d (q1 r0_3)),(7,.d (.bool r1))] [] 5 0)) (Can.unhide (by kernel_rfl)) ?_
  refine AW.seqK (fun K_11 hK_11=>?_)
  refine Sa (sT [(6,.d (q1 r0_3)),(25,.d (.bool (!r1)))] [] 5 0) ?_
  refine AW.cond rfl (fun hb_12=>?_) (fun hb_12=>?_)
  ·have h:=ifT hb_12 h
   refine Sa (sT [(2,.d (.nilSl)),(3,jI 4)] [] 5 0) ?_
   obtain rfl:=Option.some.inj h
   exact AW.ret (hR_0 _ (retX (.cons (.tmp rfl) (.cons (.tmp rfl) .nil)) (Frz.tup_of ⟨.nil 1,.refl _,trivial⟩) rfl (by kernel_rfl) (by kernel_rfl)))
  ·have h:=ifF hb_12 h
   refine AW.skip (hK_11 _ ?_)
   refine Sa (sT [(2,.d (q1 r0_3)),(3,jI 0)] [] 5 0) ?_
   obtain rfl:=Option.some.inj h
   exact rT hR_0 (.cons (.tmp rfl) (.cons (.tmp rfl) .nil))
def g14 (n:Int):Option Span:=some (Span.mk n n)
theorem k14 (n:Int) (r:Span) (h:g14 n=some r):SCall Tryd.prog Gs 14 [jI n] [] 0 Fr.emp (.agg [jI r.Low,jI r.High]) [] 0 Fr.emp:=by
 unfold g14 at h
 refine SCall.mkK Tryd.func14 c14 rfl rfl (by kernel_rfl) (fun Q_0 hR_0 hN_0=>?_)
 refine Sa (sT [(0,jI n),pR 2 0] [(0,.var 47 [jI 0,jI 0])] 1 0) ?_
 refine Sa (sT [pR 2 0] [(0,.var 47 [jI n,jI n])] 1 0) ?_
 obtain rfl:=Option.some.inj h
 exact rT hR_0 (.cons (.agg rfl rfl (Nat.le_of_ble_eq_true rfl)) .nil)
def g9_15 (b:PlankBook):(Int×(List HairHorse))→Option (Ctl (Int×(List HairHorse)) (List HairHorse)):=fun  (i1,l4)=>bif (decide ((wr (i1+1))<(b.Parts.length:Int))) then ((ixL b.Parts i1).bind fun p1=>(ixL b.Parts (wr (i1+1))).bind fun p2=>(appL 24 l4 [(HairHorse.mk p1.Long p2.Long 0)]).bind fun l5=>some (.next ((wr (i1+2)),l5))) else (some (.brk l4))
def g9_2:Int→PlankWood→(List HairHank)→Option (List HairHank):=fun i p l=>(g14 p.Long).bind fun r0=>(appL 32 l [(HairHank.mk r0 (Span.mk 0 0))]).bind fun l1=>some l1
def g9 (b:PlankBook):Option HairBook:=(eachS g9_2 b.Planks 0 ([]:List HairHank)).bind fun l=>((whileC (g9_15 b) 1000 ((0,[]):Int×(List HairHorse))).bind fun l3=>some l3).bind fun l2=>some (HairBook.mk l l2 0 0 0)
def y9 (b:PlankBook):List (Nat×Blk):=[(2,.var 39 [.d (.nilSl),.d (.nilSl),jI 0,jI 0,jI 0]),(1,.var 39 [.d (.nilSl),.d (.nilSl),jI 0,jI 0,jI 0]),(0,.var 25 (pbv b))]
def y10 (l:List HairHank) (b:PlankBook):List (Nat×Blk):=[(2,.var 39 [.own 3 (List.map e62 l).length,.d (.nilSl),jI 0,jI 0,jI 0]),(3,.row 62 4 (List.map e62 l)),(1,.var 39 [.d (.nilSl),.d (.nilSl),jI 0,jI 0,jI 0]),(0,.var 25 (pbv b))]
def y11 (l1:List HairHank) (b:PlankBook):List (Nat×Blk):=[(2,.var 39 [.own 3 (List.map e62 l1).length,.d (.nilSl),jI 0,jI 0,jI 0]),(3,.row 62 4 (List.map e62 l1)),(1,.var 39 [.d (.nilSl),.d (.nilSl),jI 0,jI 0,jI 0]),(0,.var 25 (pbv b))]
def y12 (l:List HairHank) (l4:List HairHorse) (b:PlankBook):List (Nat×Blk):=[(2,.var 39 [.own 3 (List.map e62 l).length,.own 4 (List.map e64 l4).length,jI 0,jI 0,jI 0]),(4,.row 64 3 (List.map e64 l4)),(3,.row 62 4 (List.map e62 l)),(1,.var 39 [.d (.nilSl),.d (.nilSl),jI 0,jI 0,jI 0]),(0,.var 25 (pbv b))]
def y13 (l:List HairHank) (l5:List HairHorse) (b:PlankBook):List (Nat×Blk):=[(2,.var 39 [.own 3 (List.map e62 l).length,.own 4 (List.map e64 l5).length,jI 0,jI 0,jI 0]),(4,.row 64 3 (List.map e64 l5)),(3,.row 62 4 (List.map e62 l)),(1,.var 39 [.d (.nilSl),.d (.nilSl),jI 0,jI 0,jI 0]),(0,.var 25 (pbv b))]
theorem k9 (b:PlankBook) (r:HairBook) (h:g9 b=some r):SCall Tryd.prog Gs 9 [.agg (pbv b)] [] 0 Fr.emp (.agg (cv39 r)) [] 0 Fr.emp:=by
 unfold g9 at h
 refine SCall.mkK Tryd.func9 c9 rfl rfl (by kernel_rfl) (fun Q_0 hR_0 hN_0=>?_)
 refine Sa (sT [pR 1 0,pR 2 1] [(1,.var 39 [.d (.nilSl),.d (.nilSl),jI 0,jI 0,jI 0]),(0,.var 25 (pbv b))] 2 0) ?_
 refine Sa (sT [pR 1 0,pR 2 1,pR 3 2] (y9 b) 3 0) ?_
 refine AW.seqK (fun K_1 hK_1=>?_)
 refine Sa (sT [pR 1 0,pR 2 1,pR 3 2,(4,jI 0)] (y9 b) 3 0) ?_
 refine AW.block ?_
 refine AW.slh (r:=0) (off:=0) rfl rfl (fun hN_2=>?_)
 rw [List.length_map] at hN_2
 obtain ⟨out_2,hx_2,h⟩:=bsome h
 refine AW.evSK (fun (i:Int) (l:List HairHank)=>(sT [pR 1 0,pR 2 1,pR 3 2,(4,jI i)] (y10 l b) 4 0)) g9_2 hx_2 (Can.trans (Can.thawH 2 0 39 62 4 rfl rfl rfl) (Can.kp (by kernel_rfl))) (fun i p l hi_2 hl_2 hp_2 c_2 h K_2 hK_2=>?_) (fun i l hi_2 hl_2 hout=>?_)
 ·unfold g9_2 at h
  refine AW.seqK fun K_3 hK_3=>AW.srwK fun Q_4 hQ_4=>?_
  refine Au 3 (sT [pR 1 0,pR 2 1,pR 3 2,(4,jI i),(7,jI i),(9,.d (.sl 2 (List.map e32 b.Planks)))] (y10 l b) 4 0) ?_
  refine rL rfl ?_
  refine Au 1 (sT [pR 1 0,pR 2 1,pR 3 2,(4,jI i),(11,.d (.bool (decide (i<(b.Planks.length:Int)))))] (y10 l b) 4 0) ?_
  refine RW.nil (hQ_4 _ ?_)
  refine AW.cond rfl (fun hb_5=>?_) (fun hb_5=>False.elim (by have:=of_decide_eq_false hb_5;omega))
  refine AW.skip (hK_3 _ ?_)
  refine AW.seqK (fun K_6 hK_6=>?_)
  refine AW.block ?_
  refine AW.drw fokW ?_
  refine aX 5 (sT [pR 1 0,pR 2 1,pR 3 2,(4,jI i),(15,.own 3 (List.map e62 l).length),(17,.d (.sl 2 (List.map e32 b.Planks))),(18,jI i)] (y10 l b) 4 0) ?_
  refine r_iaD trivial rfl rfl hi_2 (row:=e32 p) (mapget hp_2) ?_
  refine aX 2 (sT [pR 1 0,pR 2 1,pR 3 2,(4,jI i),(15,.own 3 (List.map e62 l).length),(21,jI p.Long)] (y10 l b) 4 0) ?_
  obtain ⟨r0,hx_8,h⟩:=bsome h
  refine r_call trivial rfl (k14 p.Long _ hx_8) rfl rfl ?_
  refine aX 2 (sT [pR 1 0,pR 2 1,pR 3 2,(4,jI i),(15,.own 3 (List.map e62 l).length),(24,.own 4 (List.map e62 [(HairHank.mk r0 (Span.mk 0 0))]).length)] [(4,.row 62 4 (List.map e62 [(HairHank.mk r0 (Span.mk 0 0))])),(2,.var 39 [.own 3 (List.map e62 l).length,.d (.nilSl),jI 0,jI 0,jI 0]),(3,.row 62 4 (List.map e62 l)),(1,.var 39 [.d (.nilSl),.d (.nilSl),jI 0,jI 0,jI 0]),(0,.var 25 (pbv b))] 5 0) ?_
  obtain ⟨l1,hv_9,h⟩:=bsome h
  refine r_apO trivial rfl rfl rfl rfl rfl rfl (apz hv_9 e62) (apr hv_9 e62) ?_
  refine aX 2 (sT [pR 1 0,pR 2 1,pR 3 2,(4,jI i)] [(2,.var 39 [.own 3 (List.map e62 l1).length,.d (.nilSl),jI 0,jI 0,jI 0]),(3,.row 62 4 (List.map e62 l1)),(4,.row 62 4 (List.map e62 [(HairHank.mk r0 (Span.mk 0 0))])),(1,.var 39 [.d (.nilSl),.d (.nilSl),jI 0,jI 0,jI 0]),(0,.var 25 (pbv b))] 5 0) ?_
  refine Fi (sT [pR 1 0,pR 2 1,pR 3 2,(4,jI i)] (y11 l1 b) 5 0) ?_
  refine hK_6 _ ?_
  refine Ra (sT [pR 1 0,pR 2 1,pR 3 2,(4,jI (wr (i+1)))] (y11 l1 b) 5 0) ?_
  obtain rfl:=Option.some.inj h
  have ew:wr (i+1)=i+1:=inext (N:=(b.Planks.length:Int)) (by omega) (by omega) (by omega)
  rw [ew]
  exact hK_2 _ (Can.kp (by kernel_rfl))
 ·subst hout
  refine AW.seqK fun K_10 hK_10=>AW.srwK fun Q_11 hQ_11=>?_
  refine Au 3 (sT [pR 1 0,pR 2 1,pR 3 2,(4,jI i),(7,jI i),(9,.d (.sl 2 (List.map e32 b.Planks)))] (y10 l b) 4 0) ?_
  refine rL rfl ?_
  refine Au 1 (sT [pR 1 0,pR 2 1,pR 3 2,(4,jI i),(11,.d (.bool (decide (i<(b.Planks.length:Int)))))] (y10 l b) 4 0) ?_
  refine RW.nil (hQ_11 _ ?_)
  refine AW.cond rfl (fun hb_12=>False.elim (by have:=of_decide_eq_true hb_12;omega)) (fun hb_12=>?_)
  refine AW.exit ?_
  refine hK_1 _ ?_
  obtain ⟨l2,hx_13,h⟩:=bsome h
  refine AW.jnSK (fun (l2:List HairHorse)=>(sT [pR 2 1,pR 3 2] [(2,.var 39 [.own 3 (List.map e62 l).length,.own 4 (List.map e64 l2).length,jI 0,jI 0,jI 0]),(4,.row 64 3 (List.map e64 l2)),(3,.row 62 4 (List.map e62 l)),(1,.var 39 [.d (.nilSl),.d (.nilSl),jI 0,jI 0,jI 0])] 5 0)) (c:=l2) (fun K_13 hK_13=>?_) ?_
  ·have h:=hx_13
   refine Sa (sT [pR 1 0,pR 2 1,pR 3 2,(5,jI 0)] (y10 l b) 4 0) ?_
   obtain ⟨l3,hx_14,h⟩:=bsome h
   refine AW.jqSK (fun (l3:List HairHorse)=>(sT [pR 2 1,pR 3 2] [(2,.var 39 [.own 3 (List.map e62 l).length,.own 4 (List.map e64 l3).length,jI 0,jI 0,jI 0]),(4,.row 64 3 (List.map e64 l3)),(3,.row 62 4 (List.map e62 l)),(1,.var 39 [.d (.nilSl),.d (.nilSl),jI 0,jI 0,jI 0])] 5 0)) (c:=l3) (fun K_14 hK_14=>?_) ?_
   ·have h:=hx_14
    refine AW.block ?_
    refine AW.whK (fun (⟨i1,l4⟩:Int×(List HairHorse))=>(sT [pR 1 0,pR 2 1,pR 3 2,(5,jI i1)] (y12 l l4 b) 5 0)) (g9_15 b) h (Can.trans (Can.thawH 2 1 39 64 3 rfl rfl rfl) (Can.kp (by kernel_rfl))) (fun s_15 c_15 h hb_15 K_15 hK_15=>?_)
    obtain ⟨i1,l4⟩:=s_15
    unfold g9_15 at h
    refine AW.seqK fun K_16 hK_16=>AW.srwK fun Q_17 hQ_17=>?_
    refine Au 4 (sT [pR 1 0,pR 2 1,pR 3 2,(5,jI i1),(28,jI (wr (i1+1))),(30,.d (.sl 3 (List.map e35 b.Parts)))] (y12 l l4 b) 5 0) ?_
    refine rL rfl ?_
    refine Au 1 (sT [pR 1 0,pR 2 1,pR 3 2,(5,jI i1),(32,.d (.bool (decide ((wr (i1+1))<(b.Parts.length:Int)))))] (y12 l l4 b) 5 0) ?_
    refine RW.nil (hQ_17 _ ?_)
    refine AW.cond rfl (fun hb_18=>?_) (fun hb_18=>?_)
    ·have h:=ifT hb_18 h
     refine AW.skip (hK_16 _ ?_)
     refine AW.seqK (fun K_19 hK_19=>?_)
     refine AW.block ?_
     refine AW.drw fokW ?_
     refine aX 5 (sT [pR 1 0,pR 2 1,pR 3 2,(5,jI i1),(36,.own 4 (List.map e64 l4).length),(38,.d (.sl 3 (List.map e35 b.Parts))),(39,jI i1)] (y12 l l4 b) 5 0) ?_
     obtain ⟨p1,hv_21,h⟩:=bsome h
     refine r_iaD trivial rfl rfl (ixL_ok hv_21).1 (row:=e35 p1) (mapget (ixL_ok hv_21).2) ?_
     refine aX 6 (sT [pR 1 0,pR 2 1,pR 3 2,(5,jI i1),(36,.own 4 (List.map e64 l4).length),(42,jI p1.Long),(44,.d (.sl 3 (List.map e35 b.Parts))),(46,jI (wr (i1+1)))] (y12 l l4 b) 5 0) ?_
     obtain ⟨p2,hv_22,h⟩:=bsome h
     refine r_iaD trivial rfl rfl (ixL_ok hv_22).1 (row:=e35 p2) (mapget (ixL_ok hv_22).2) ?_
     refine aX 4 (sT [pR 1 0,pR 2 1,pR 3 2,(5,jI i1),(36,.own 4 (List.map e64 l4).length),(51,.own 5 (List.map e64 [(HairHorse.mk p1.Long p2.Long 0)]).length)] [(5,.row 64 3 (List.map e64 [(HairHorse.mk p1.Long p2.Long 0)])),(2,.var 39 [.own 3 (List.map e62 l).length,.own 4 (List.map e64 l4).length,jI 0,jI 0,jI 0]),(4,.row 64 3 (List.map e64 l4)),(3,.row 62 4 (List.map e62 l)),(1,.var 39 [.d (.nilSl),.d (.nilSl),jI 0,jI 0,jI 0]),(0,.var 25 (pbv b))] 6 0) ?_
     obtain ⟨l5,hv_23,h⟩:=bsome h
     refine r_apO trivial rfl rfl rfl rfl rfl rfl (apz hv_23 e64) (apr hv_23 e64) ?_
     refine aX 2 (sT [pR 1 0,pR 2 1,pR 3 2,(5,jI i1)] [(2,.var 39 [.own 3 (List.map e62 l).length,.own 4 (List.map e64 l5).length,jI 0,jI 0,jI 0]),(4,.row 64 3 (List.map e64 l5)),(5,.row 64 3 (List.map e64 [(HairHorse.mk p1.Long p2.Long 0)])),(3,.row 62 4 (List.map e62 l)),(1,.var 39 [.d (.nilSl),.d (.nilSl),jI 0,jI 0,jI 0]),(0,.var 25 (pbv b))] 6 0) ?_
     refine Fi (sT [pR 1 0,pR 2 1,pR 3 2,(5,jI i1)] (y13 l l5 b) 6 0) ?_
     refine hK_19 _ ?_
     refine Ra (sT [pR 1 0,pR 2 1,pR 3 2,(5,jI (wr (i1+2)))] (y13 l l5 b) 6 0) ?_
     obtain rfl:=Option.some.inj h
     exact hK_15 _ _ rfl (Can.kp (by kernel_rfl))
    ·have h:=ifF hb_18 h
     refine AW.exit ?_
     obtain rfl:=Option.some.inj h
     obtain rfl:=hb_15 _ rfl
     exact hK_14 _ (Can.kp (by kernel_rfl))
   ·obtain rfl:=Option.some.inj h
    exact hK_13 _ (Can.kp (by kernel_rfl))
  ·refine Sa (sT [pR 2 1] [(1,.var 39 [.own 3 (List.map e62 l).length,.own 4 (List.map e64 l2).length,jI 0,jI 0,jI 0]),(4,.row 64 3 (List.map e64 l2)),(3,.row 62 4 (List.map e62 l))] 5 0) ?_
   obtain rfl:=Option.some.inj h
   exact AW.ret (hR_0 _ (retX (.cons (.agg rfl rfl (Nat.le_of_ble_eq_true rfl)) .nil) (Frz.agg_of ⟨(.own rfl rfl),(.own rfl rfl),.refl _,.refl _,.refl _,trivial⟩) rfl (by kernel_rfl) (by kernel_rfl)))
def g47 (n:Int) (low:Int) (high:Int):Option Bool:=some ((decide (low≤n))&&(decide (n≤high)))
theorem k47 (n:Int) (low:Int) (high:Int) (r:Bool) (h:g47 n low high=some r):SCall Tryd.prog Gs 47 [jI n,jI low,jI high] [] 0 Fr.emp (.d (.bool r)) [] 0 Fr.emp:=by
 unfold g47 at h
 refine SCall.mkK Tryd.func47 c47 rfl rfl (by kernel_rfl) (fun Q_0 hR_0 hN_0=>?_)
 refine Sa (sT [(0,jI n),(1,jI low),(2,jI high)] [] 0 0) ?_
 refine AW.sa fokW [10] (sT [(6,.d (.bool ((decide (low≤n))&&(decide (n≤high)))))] [] 0 0) (by kernel_rfl) ?_
 obtain rfl:=Option.some.inj h
 exact rT hR_0 (.cons (.tmp rfl) .nil)
def g55 (s:Span) (low:Int) (high:Int) (wide:Int):Option Bool:=some ((((decide (low≤s.Low))&&(decide (s.Low≤s.High)))&&(decide (s.High≤high)))&&(decide ((wr (s.High - s.Low))≤wide)))
theorem k55 (s:Span) (low:Int) (high:Int) (wide:Int) (r:Bool) (h:g55 s low high wide=some r):SCall Tryd.prog Gs 55 [.agg [jI s.Low,jI s.High],jI low,jI high,jI wide] [] 0 Fr.emp (.d (.bool r)) [] 0 Fr.emp:=by
 unfold g55 at h
 refine SCall.mkK Tryd.func55 c55 rfl rfl (by kernel_rfl) (fun Q_0 hR_0 hN_0=>?_)
 refine Sa (sT [(1,jI low),(2,jI high),(3,jI wide),pR 4 0] [(0,.var 47 [jI s.Low,jI s.High])] 1 0) ?_
 refine AW.sa fokW [13,20,26] (sT [(8,.d (.bool ((((decide (low≤s.Low))&&(decide (s.Low≤s.High)))&&(decide (s.High≤high)))&&(decide ((wr (s.High - s.Low))≤wide)))))] [] 1 0) (by kernel_rfl) ?_
 obtain rfl:=Option.some.inj h
 exact rT hR_0 (.cons (.tmp rfl) .nil)
def g30_31:Int→HairHorse→Bool→Option Bool:=fun v7 p1 ok1=>(bif ok1 then ((g47 p1.Mane 1 30).bind fun r0_5=>some r0_5) else (some false)).bind fun v8=>(bif v8 then ((g47 p1.Tail 1 30).bind fun r0_6=>some r0_6) else (some false)).bind fun v9=>(bif v9 then ((g47 p1.Shade 0 25).bind fun r0_7=>some r0_7) else (some false)).bind fun v10=>some v10
def g30_15:Int→HairHank→Bool→Option Bool:=fun v4 p ok=>(bif ok then ((g55 p.Weight 1 60 4).bind fun r0_3=>some r0_3) else (some false)).bind fun v5=>(bif v5 then ((g55 p.Shade 0 20 2).bind fun r0_4=>some r0_4) else (some false)).bind fun v6=>some v6
def g30 (b:HairBook):Option Int:=(bif (decide ((b.Hanks.length:Int)≤4)) then (some (decide ((b.Horses.length:Int)≤3))) else (some false)).bind fun v=>(bif v then ((g47 b.Dark 0 4).bind fun r0=>some r0) else (some false)).bind fun v1=>(bif v1 then ((g47 b.Near 0 3).bind fun r0_1=>some r0_1) else (some false)).bind fun v2=>(bif v2 then ((g47 b.Match 0 3).bind fun r0_2=>some r0_2) else (some false)).bind fun v3=>(eachS g30_15 b.Hanks 0 v3).bind fun ok=>(eachS g30_31 b.Horses 0 ok).bind fun ok1=>bif (!ok1) then (some 60) else (some 0)
theorem k30 (b:HairBook) (r:Int) (h:g30 b=some r):SCall Tryd.prog Gs 30 [.agg (cv39 b)] [] 0 Fr.emp (jI r) [] 0 Fr.emp:=by
 unfold g30 at h
 refine SCall.mkK Tryd.func30 c30 rfl rfl (by kernel_rfl) (fun Q_0 hR_0 hN_0=>?_)
 refine Sa (sT [pR 1 0] [(0,.var 39 (cv39 b))] 1 0) ?_
 refine AW.srwK (fun Q_1 hQ_1=>?_)
 refine Au 2 (sT [pR 1 0,(9,.d (.sl 4 (List.map e62 b.Hanks)))] [(0,.var 39 (cv39 b))] 1 0) ?_
 refine rL rfl ?_
 refine Au 2 (sT [pR 1 0,(12,.d (.bool (decide ((b.Hanks.length:Int)≤4))))] [(0,.var 39 (cv39 b))] 1 0) ?_
 obtain ⟨v,hx_2,h⟩:=bsome h
 refine RW.cut fokW 5 ((sT [pR 1 0,(17,.d (.bool v))] [(0,.var 39 (cv39 b))] 1 0)) ?_ ?_
 ·refine r_split 12 rfl (fun hb_3=>?_) (fun hb_3=>?_)
  ·have h:=ifT hb_3 hx_2
   refine aX 2 (sT [pR 1 0,(12,.d (.bool true)),(14,.d (.sl 3 (List.map e64 b.Horses)))] [(0,.var 39 (cv39 b))] 1 0) ?_
   refine r_lenX rfl rfl lenm ?_
   refine aX 2 (sT [pR 1 0,(17,.d (.bool (decide ((b.Horses.length:Int)≤3))))] [(0,.var 39 (cv39 b))] 1 0) ?_
   obtain rfl:=Option.some.inj h
   refine RunC.finJ (Can.kp (by kernel_rfl))
  ·have h:=ifF hb_3 hx_2
   refine aX 5 (sT [pR 1 0,(17,.d (.bool false))] [(0,.var 39 (cv39 b))] 1 0) ?_
   obtain rfl:=Option.some.inj h
   refine RunC.finJ (Can.kp (by kernel_rfl))
 ·refine Au 1 (sT [pR 1 0,(18,.d (.bool v))] [(0,.var 39 (cv39 b))] 1 0) ?_
  obtain ⟨v1,hx_4,h⟩:=bsome h
  refine RW.cut fokW 4 ((sT [pR 1 0,(22,.d (.bool v1))] [(0,.var 39 (cv39 b))] 1 0)) ?_ ?_
  ·refine r_split 18 rfl (fun hb_6=>?_) (fun hb_6=>?_)
   ·have h:=ifT hb_6 hx_4
    refine aX 2 (sT [pR 1 0,(18,.d (.bool true)),(20,jI b.Dark)] [(0,.var 39 (cv39 b))] 1 0) ?_
    obtain ⟨r0,hx_5,h⟩:=bsome h
    refine r_call rfl rfl (k47 b.Dark 0 4 _ hx_5) rfl rfl ?_
    refine aX 1 (sT [pR 1 0,(22,.d (.bool r0))] [(0,.var 39 (cv39 b))] 1 0) ?_
    obtain rfl:=Option.some.inj h
    refine RunC.finJ (Can.kp (by kernel_rfl))
   ·have h:=ifF hb_6 hx_4
    refine aX 4 (sT [pR 1 0,(22,.d (.bool false))] [(0,.var 39 (cv39 b))] 1 0) ?_
    obtain rfl:=Option.some.inj h
    refine RunC.finJ (Can.kp (by kernel_rfl))
  ·refine Au 1 (sT [pR 1 0,(23,.d (.bool v1))] [(0,.var 39 (cv39 b))] 1 0) ?_
   obtain ⟨v2,hx_7,h⟩:=bsome h
   refine RW.cut fokW 4 ((sT [pR 1 0,(27,.d (.bool v2))] [(0,.var 39 (cv39 b))] 1 0)) ?_ ?_
   ·refine r_split 23 rfl (fun hb_9=>?_) (fun hb_9=>?_)
    ·have h:=ifT hb_9 hx_7
     refine aX 2 (sT [pR 1 0,(23,.d (.bool true)),(25,jI b.Near)] [(0,.var 39 (cv39 b))] 1 0) ?_
     obtain ⟨r0_1,hx_8,h⟩:=bsome h
     refine r_call rfl rfl (k47 b.Near 0 3 _ hx_8) rfl rfl ?_
     refine aX 1 (sT [pR 1 0,(27,.d (.bool r0_1))] [(0,.var 39 (cv39 b))] 1 0) ?_
     obtain rfl:=Option.some.inj h
     refine RunC.finJ (Can.kp (by kernel_rfl))
    ·have h:=ifF hb_9 hx_7
     refine aX 4 (sT [pR 1 0,(27,.d (.bool false))] [(0,.var 39 (cv39 b))] 1 0) ?_
     obtain rfl:=Option.some.inj h
     refine RunC.finJ (Can.kp (by kernel_rfl))
   ·refine Au 1 (sT [pR 1 0,(28,.d (.bool v2))] [(0,.var 39 (cv39 b))] 1 0) ?_
    obtain ⟨v3,hx_10,h⟩:=bsome h
    refine RW.cut fokW 4 ((sT [pR 1 0,(32,.d (.bool v3))] [(0,.var 39 (cv39 b))] 1 0)) ?_ ?_
    ·refine r_split 28 rfl (fun hb_12=>?_) (fun hb_12=>?_)
     ·have h:=ifT hb_12 hx_10
      refine aX 2 (sT [pR 1 0,(28,.d (.bool true)),(30,jI b.Match)] [(0,.var 39 (cv39 b))] 1 0) ?_
      obtain ⟨r0_2,hx_11,h⟩:=bsome h
      refine r_call rfl rfl (k47 b.Match 0 3 _ hx_11) rfl rfl ?_
      refine aX 1 (sT [pR 1 0,(32,.d (.bool r0_2))] [(0,.var 39 (cv39 b))] 1 0) ?_
      obtain rfl:=Option.some.inj h
      refine RunC.finJ (Can.kp (by kernel_rfl))
     ·have h:=ifF hb_12 hx_10
      refine aX 4 (sT [pR 1 0,(32,.d (.bool false))] [(0,.var 39 (cv39 b))] 1 0) ?_
      obtain rfl:=Option.some.inj h
      refine RunC.finJ (Can.kp (by kernel_rfl))
    ·refine Au 1 (sT [pR 1 0,(3,.d (.bool v3))] [(0,.var 39 (cv39 b))] 1 0) ?_
     refine RW.nil (hQ_1 _ ?_)
     refine AW.seqK fun K_13 hK_13=>AW.srwK fun Q_14 hQ_14=>?_
     refine Au 2 (sT [pR 1 0,(3,.d (.bool v3)),(34,.d (.sl 4 (List.map e62 b.Hanks)))] [(0,.var 39 (cv39 b))] 1 0) ?_
     refine rL rfl ?_
     refine Au 1 (sT [pR 1 0,(3,.d (.bool v3)),(34,.d (.sl 4 (List.map e62 b.Hanks))),(35,jI (b.Hanks.length:Int)),(36,jI 0)] [(0,.var 39 (cv39 b))] 1 0) ?_
     refine RW.nil (hQ_14 _ ?_)
     refine AW.block ?_
     refine AW.sln (t:=34) rfl (fun hN_15=>?_)
     rw [List.length_map] at hN_15
     obtain ⟨out_15,hx_15,h⟩:=bsome h
     refine AW.evSK (fun (v4:Int) (ok:Bool)=>(sT [pR 1 0,(3,.d (.bool ok)),(34,.d (.sl 4 (List.map e62 b.Hanks))),(35,jI (b.Hanks.length:Int)),(36,jI v4)] [(0,.var 39 (cv39 b))] 1 0)) g30_15 hx_15 (Can.kp (by kernel_rfl)) (fun v4 p ok hi_15 hl_15 hp_15 c_15 h K_15 hK_15=>?_) (fun v4 ok hi_15 hl_15 hout=>?_)
     ·unfold g30_15 at h
      refine Sa (sT [pR 1 0,(3,.d (.bool ok)),(34,.d (.sl 4 (List.map e62 b.Hanks))),(35,jI (b.Hanks.length:Int)),(36,jI v4),(37,.d (.bool (decide (v4<(b.Hanks.length:Int)))))] [(0,.var 39 (cv39 b))] 1 0) ?_
      refine AW.seqK (fun K_16 hK_16=>?_)
      refine AW.cond rfl (fun hb_17=>?_) (fun hb_17=>False.elim (by have:=of_decide_eq_false hb_17;omega))
      refine AW.skip (hK_16 _ ?_)
      refine AW.seqK (fun K_18 hK_18=>?_)
      refine AW.block ?_
      refine AW.srwK (fun Q_19 hQ_19=>?_)
      refine RW.one fokW (r_iaD trivial rfl rfl hi_15 (row:=e62 p) (mapget hp_15) (r_end ?_))
      refine Au 3 (sT [pR 1 0,(3,.d (.bool ok)),pR 5 1,(34,.d (.sl 4 (List.map e62 b.Hanks))),(35,jI (b.Hanks.length:Int)),(36,jI v4)] [(1,.var 62 (cv62 p)),(0,.var 39 (cv39 b))] 2 0) ?_
      refine RW.nil (hQ_19 _ ?_)
      refine AW.rw ?_
      refine Au 2 (sT [pR 1 0,pR 5 1,(34,.d (.sl 4 (List.map e62 b.Hanks))),(35,jI (b.Hanks.length:Int)),(36,jI v4),(41,.d (.bool ok))] [(1,.var 62 (cv62 p)),(0,.var 39 (cv39 b))] 2 0) ?_
      obtain ⟨v5,hx_21,h⟩:=bsome h
      refine RW.cut fokW 4 ((sT [pR 1 0,pR 5 1,(34,.d (.sl 4 (List.map e62 b.Hanks))),(35,jI (b.Hanks.length:Int)),(36,jI v4),(45,.d (.bool v5))] [(1,.var 62 (cv62 p)),(0,.var 39 (cv39 b))] 2 0)) ?_ ?_
      ·refine r_split 41 rfl (fun hb_23=>?_) (fun hb_23=>?_)
       ·have h:=ifT hb_23 hx_21
        refine aX 2 (sT [pR 1 0,pR 5 1,(34,.d (.sl 4 (List.map e62 b.Hanks))),(35,jI (b.Hanks.length:Int)),(36,jI v4),(41,.d (.bool true)),(43,.agg [jI p.Weight.Low,jI p.Weight.High])] [(1,.var 62 (cv62 p)),(0,.var 39 (cv39 b))] 2 0) ?_
        obtain ⟨r0_3,hx_22,h⟩:=bsome h
        refine r_call rfl rfl (k55 p.Weight 1 60 4 _ hx_22) rfl rfl ?_
        refine aX 1 (sT [pR 1 0,pR 5 1,(34,.d (.sl 4 (List.map e62 b.Hanks))),(35,jI (b.Hanks.length:Int)),(36,jI v4),(45,.d (.bool r0_3))] [(1,.var 62 (cv62 p)),(0,.var 39 (cv39 b))] 2 0) ?_
        obtain rfl:=Option.some.inj h
        refine RunC.finJ (Can.kp (by kernel_rfl))
       ·have h:=ifF hb_23 hx_21
        refine aX 4 (sT [pR 1 0,pR 5 1,(34,.d (.sl 4 (List.map e62 b.Hanks))),(35,jI (b.Hanks.length:Int)),(36,jI v4),(45,.d (.bool false))] [(1,.var 62 (cv62 p)),(0,.var 39 (cv39 b))] 2 0) ?_
        obtain rfl:=Option.some.inj h
        refine RunC.finJ (Can.kp (by kernel_rfl))
      ·refine Au 1 (sT [pR 1 0,pR 5 1,(34,.d (.sl 4 (List.map e62 b.Hanks))),(35,jI (b.Hanks.length:Int)),(36,jI v4),(46,.d (.bool v5))] [(1,.var 62 (cv62 p)),(0,.var 39 (cv39 b))] 2 0) ?_
       obtain ⟨v6,hx_24,h⟩:=bsome h
       refine RW.cut fokW 4 ((sT [pR 1 0,(34,.d (.sl 4 (List.map e62 b.Hanks))),(35,jI (b.Hanks.length:Int)),(36,jI v4),(50,.d (.bool v6))] [(0,.var 39 (cv39 b))] 2 0)) ?_ ?_
       ·refine r_split 46 rfl (fun hb_26=>?_) (fun hb_26=>?_)
        ·have h:=ifT hb_26 hx_24
         refine aX 2 (sT [pR 1 0,(34,.d (.sl 4 (List.map e62 b.Hanks))),(35,jI (b.Hanks.length:Int)),(36,jI v4),(46,.d (.bool true)),(48,.agg [jI p.Shade.Low,jI p.Shade.High])] [(1,.var 62 (cv62 p)),(0,.var 39 (cv39 b))] 2 0) ?_
         obtain ⟨r0_4,hx_25,h⟩:=bsome h
         refine r_call rfl rfl (k55 p.Shade 0 20 2 _ hx_25) rfl rfl ?_
         refine aX 1 (sT [pR 1 0,(34,.d (.sl 4 (List.map e62 b.Hanks))),(35,jI (b.Hanks.length:Int)),(36,jI v4),(50,.d (.bool r0_4))] [(1,.var 62 (cv62 p)),(0,.var 39 (cv39 b))] 2 0) ?_
         obtain rfl:=Option.some.inj h
         refine RunC.finJ (Can.kp (by kernel_rfl))
        ·have h:=ifF hb_26 hx_24
         refine aX 4 (sT [pR 1 0,(34,.d (.sl 4 (List.map e62 b.Hanks))),(35,jI (b.Hanks.length:Int)),(36,jI v4),(50,.d (.bool false))] [(1,.var 62 (cv62 p)),(0,.var 39 (cv39 b))] 2 0) ?_
         obtain rfl:=Option.some.inj h
         refine RunC.finJ (Can.kp (by kernel_rfl))
       ·refine Au 1 (sT [pR 1 0,(3,.d (.bool v6)),(34,.d (.sl 4 (List.map e62 b.Hanks))),(35,jI (b.Hanks.length:Int)),(36,jI v4)] [(0,.var 39 (cv39 b))] 2 0) ?_
        refine RW.nil ?_
        refine hK_18 _ ?_
        refine Ra (sT [pR 1 0,(3,.d (.bool v6)),(34,.d (.sl 4 (List.map e62 b.Hanks))),(35,jI (b.Hanks.length:Int)),(36,jI (wr (v4+1)))] [(0,.var 39 (cv39 b))] 2 0) ?_
        obtain rfl:=Option.some.inj h
        have ew:wr (v4+1)=v4+1:=inext (N:=(b.Hanks.length:Int)) (by omega) (by omega) (by omega)
        rw [ew]
        exact hK_15 _ (Can.kp (by kernel_rfl))
     ·subst hout
      refine Sa (sT [pR 1 0,(3,.d (.bool ok)),(34,.d (.sl 4 (List.map e62 b.Hanks))),(35,jI (b.Hanks.length:Int)),(36,jI v4),(37,.d (.bool (decide (v4<(b.Hanks.length:Int)))))] [(0,.var 39 (cv39 b))] 1 0) ?_
      refine AW.seqK (fun K_27 hK_27=>?_)
      refine AW.cond rfl (fun hb_28=>False.elim (by have:=of_decide_eq_true hb_28;omega)) (fun hb_28=>?_)
      refine AW.exit ?_
      refine hK_13 _ ?_
      refine AW.seqK fun K_29 hK_29=>AW.srwK fun Q_30 hQ_30=>?_
      refine Au 2 (sT [(3,.d (.bool ok)),(53,.d (.sl 3 (List.map e64 b.Horses)))] [] 1 0) ?_
      refine rL rfl ?_
      refine Au 1 (sT [(3,.d (.bool ok)),(53,.d (.sl 3 (List.map e64 b.Horses))),(54,jI (b.Horses.length:Int)),(55,jI 0)] [] 1 0) ?_
      refine RW.nil (hQ_30 _ ?_)
      refine AW.block ?_
      refine AW.sln (t:=53) rfl (fun hN_31=>?_)
      rw [List.length_map] at hN_31
      obtain ⟨out_31,hx_31,h⟩:=bsome h
      refine AW.evSK (fun (v7:Int) (ok1:Bool)=>(sT [(3,.d (.bool ok1)),(53,.d (.sl 3 (List.map e64 b.Horses))),(54,jI (b.Horses.length:Int)),(55,jI v7)] [] 1 0)) g30_31 hx_31 (Can.kp (by kernel_rfl)) (fun v7 p1 ok1 hi_31 hl_31 hp_31 c_31 h K_31 hK_31=>?_) (fun v7 ok1 hi_31 hl_31 hout=>?_)
      ·unfold g30_31 at h
       refine Sa (sT [(3,.d (.bool ok1)),(53,.d (.sl 3 (List.map e64 b.Horses))),(54,jI (b.Horses.length:Int)),(55,jI v7),(56,.d (.bool (decide (v7<(b.Horses.length:Int)))))] [] 1 0) ?_
       refine AW.seqK (fun K_32 hK_32=>?_)
       refine AW.cond rfl (fun hb_33=>?_) (fun hb_33=>False.elim (by have:=of_decide_eq_false hb_33;omega))
       refine AW.skip (hK_32 _ ?_)
       refine AW.seqK (fun K_34 hK_34=>?_)
       refine AW.block ?_
       refine AW.srwK (fun Q_35 hQ_35=>?_)
       refine RW.one fokW (r_iaD trivial rfl rfl hi_31 (row:=e64 p1) (mapget hp_31) (r_end ?_))
       refine Au 3 (sT [(3,.d (.bool ok1)),pR 7 1,(53,.d (.sl 3 (List.map e64 b.Horses))),(54,jI (b.Horses.length:Int)),(55,jI v7)] [(1,.var 64 [jI p1.Mane,jI p1.Tail,jI p1.Shade])] 2 0) ?_
       refine RW.nil (hQ_35 _ ?_)
       refine AW.rw ?_
       refine Au 2 (sT [pR 7 1,(53,.d (.sl 3 (List.map e64 b.Horses))),(54,jI (b.Horses.length:Int)),(55,jI v7),(60,.d (.bool ok1))] [(1,.var 64 [jI p1.Mane,jI p1.Tail,jI p1.Shade])] 2 0) ?_
       obtain ⟨v8,hx_37,h⟩:=bsome h
       refine RW.cut fokW 4 ((sT [pR 7 1,(53,.d (.sl 3 (List.map e64 b.Horses))),(54,jI (b.Horses.length:Int)),(55,jI v7),(64,.d (.bool v8))] [(1,.var 64 [jI p1.Mane,jI p1.Tail,jI p1.Shade])] 2 0)) ?_ ?_
       ·refine r_split 60 rfl (fun hb_39=>?_) (fun hb_39=>?_)
        ·have h:=ifT hb_39 hx_37
         refine aX 2 (sT [pR 7 1,(53,.d (.sl 3 (List.map e64 b.Horses))),(54,jI (b.Horses.length:Int)),(55,jI v7),(60,.d (.bool true)),(62,jI p1.Mane)] [(1,.var 64 [jI p1.Mane,jI p1.Tail,jI p1.Shade])] 2 0) ?_
         obtain ⟨r0_5,hx_38,h⟩:=bsome h
         refine r_call rfl rfl (k47 p1.Mane 1 30 _ hx_38) rfl rfl ?_
         refine aX 1 (sT [pR 7 1,(53,.d (.sl 3 (List.map e64 b.Horses))),(54,jI (b.Horses.length:Int)),(55,jI v7),(64,.d (.bool r0_5))] [(1,.var 64 [jI p1.Mane,jI p1.Tail,jI p1.Shade])] 2 0) ?_
         obtain rfl:=Option.some.inj h
         refine RunC.finJ (Can.kp (by kernel_rfl))
        ·have h:=ifF hb_39 hx_37
         refine aX 4 (sT [pR 7 1,(53,.d (.sl 3 (List.map e64 b.Horses))),(54,jI (b.Horses.length:Int)),(55,jI v7),(64,.d (.bool false))] [(1,.var 64 [jI p1.Mane,jI p1.Tail,jI p1.Shade])] 2 0) ?_
         obtain rfl:=Option.some.inj h
         refine RunC.finJ (Can.kp (by kernel_rfl))
       ·refine Au 1 (sT [pR 7 1,(53,.d (.sl 3 (List.map e64 b.Horses))),(54,jI (b.Horses.length:Int)),(55,jI v7),(65,.d (.bool v8))] [(1,.var 64 [jI p1.Mane,jI p1.Tail,jI p1.Shade])] 2 0) ?_
        obtain ⟨v9,hx_40,h⟩:=bsome h
        refine RW.cut fokW 4 ((sT [pR 7 1,(53,.d (.sl 3 (List.map e64 b.Horses))),(54,jI (b.Horses.length:Int)),(55,jI v7),(69,.d (.bool v9))] [(1,.var 64 [jI p1.Mane,jI p1.Tail,jI p1.Shade])] 2 0)) ?_ ?_
        ·refine r_split 65 rfl (fun hb_42=>?_) (fun hb_42=>?_)
         ·have h:=ifT hb_42 hx_40
          refine aX 2 (sT [pR 7 1,(53,.d (.sl 3 (List.map e64 b.Horses))),(54,jI (b.Horses.length:Int)),(55,jI v7),(65,.d (.bool true)),(67,jI p1.Tail)] [(1,.var 64 [jI p1.Mane,jI p1.Tail,jI p1.Shade])] 2 0) ?_
          obtain ⟨r0_6,hx_41,h⟩:=bsome h
          refine r_call rfl rfl (k47 p1.Tail 1 30 _ hx_41) rfl rfl ?_
          refine aX 1 (sT [pR 7 1,(53,.d (.sl 3 (List.map e64 b.Horses))),(54,jI (b.Horses.length:Int)),(55,jI v7),(69,.d (.bool r0_6))] [(1,.var 64 [jI p1.Mane,jI p1.Tail,jI p1.Shade])] 2 0) ?_
          obtain rfl:=Option.some.inj h
          refine RunC.finJ (Can.kp (by kernel_rfl))
         ·have h:=ifF hb_42 hx_40
          refine aX 4 (sT [pR 7 1,(53,.d (.sl 3 (List.map e64 b.Horses))),(54,jI (b.Horses.length:Int)),(55,jI v7),(69,.d (.bool false))] [(1,.var 64 [jI p1.Mane,jI p1.Tail,jI p1.Shade])] 2 0) ?_
          obtain rfl:=Option.some.inj h
          refine RunC.finJ (Can.kp (by kernel_rfl))
        ·refine Au 1 (sT [pR 7 1,(53,.d (.sl 3 (List.map e64 b.Horses))),(54,jI (b.Horses.length:Int)),(55,jI v7),(70,.d (.bool v9))] [(1,.var 64 [jI p1.Mane,jI p1.Tail,jI p1.Shade])] 2 0) ?_
         obtain ⟨v10,hx_43,h⟩:=bsome h
         refine RW.cut fokW 4 ((sT [(53,.d (.sl 3 (List.map e64 b.Horses))),(54,jI (b.Horses.length:Int)),(55,jI v7),(74,.d (.bool v10))] [] 2 0)) ?_ ?_
         ·refine r_split 70 rfl (fun hb_45=>?_) (fun hb_45=>?_)
          ·have h:=ifT hb_45 hx_43
           refine aX 2 (sT [(53,.d (.sl 3 (List.map e64 b.Horses))),(54,jI (b.Horses.length:Int)),(55,jI v7),(70,.d (.bool true)),(72,jI p1.Shade)] [(1,.var 64 [jI p1.Mane,jI p1.Tail,jI p1.Shade])] 2 0) ?_
           obtain ⟨r0_7,hx_44,h⟩:=bsome h
           refine r_call rfl rfl (k47 p1.Shade 0 25 _ hx_44) rfl rfl ?_
           refine aX 1 (sT [(53,.d (.sl 3 (List.map e64 b.Horses))),(54,jI (b.Horses.length:Int)),(55,jI v7),(74,.d (.bool r0_7))] [(1,.var 64 [jI p1.Mane,jI p1.Tail,jI p1.Shade])] 2 0) ?_
           obtain rfl:=Option.some.inj h
           refine RunC.finJ (Can.kp (by kernel_rfl))
          ·have h:=ifF hb_45 hx_43
           refine aX 4 (sT [(53,.d (.sl 3 (List.map e64 b.Horses))),(54,jI (b.Horses.length:Int)),(55,jI v7),(74,.d (.bool false))] [(1,.var 64 [jI p1.Mane,jI p1.Tail,jI p1.Shade])] 2 0) ?_
           obtain rfl:=Option.some.inj h
           refine RunC.finJ (Can.kp (by kernel_rfl))
         ·refine Au 1 (sT [(3,.d (.bool v10)),(53,.d (.sl 3 (List.map e64 b.Horses))),(54,jI (b.Horses.length:Int)),(55,jI v7)] [] 2 0) ?_
          refine RW.nil ?_
          refine hK_34 _ ?_
          refine Ra (sT [(3,.d (.bool v10)),(53,.d (.sl 3 (List.map e64 b.Horses))),(54,jI (b.Horses.length:Int)),(55,jI (wr (v7+1)))] [] 2 0) ?_
          obtain rfl:=Option.some.inj h
          have ew:wr (v7+1)=v7+1:=inext (N:=(b.Horses.length:Int)) (by omega) (by omega) (by omega)
          rw [ew]
          exact hK_31 _ (Can.kp (by kernel_rfl))
      ·subst hout
       refine Sa (sT [(3,.d (.bool ok1)),(53,.d (.sl 3 (List.map e64 b.Horses))),(54,jI (b.Horses.length:Int)),(55,jI v7),(56,.d (.bool (decide (v7<(b.Horses.length:Int)))))] [] 1 0) ?_
       refine AW.seqK (fun K_46 hK_46=>?_)
       refine AW.cond rfl (fun hb_47=>False.elim (by have:=of_decide_eq_true hb_47;omega)) (fun hb_47=>?_)
       refine AW.exit ?_
       refine hK_29 _ ?_
       refine AW.seqK (fun K_48 hK_48=>?_)
       refine Sa (sT [(77,.d (.bool (!ok1)))] [] 1 0) ?_
       refine AW.cond rfl (fun hb_49=>?_) (fun hb_49=>?_)
       ·have h:=ifT hb_49 h
        refine Sa (sT [(2,jI 60)] [] 1 0) ?_
        obtain rfl:=Option.some.inj h
        exact rT hR_0 (.cons (.tmp rfl) .nil)
       ·have h:=ifF hb_49 h
        refine AW.skip (hK_48 _ ?_)
        refine Sa (sT [(2,jI 0)] [] 1 0) ?_
        obtain rfl:=Option.some.inj h
        exact rT hR_0 (.cons (.tmp rfl) .nil)
def g31_8 (v:Int) (p:HairHank):Int→(List (Hair_dye×Span))→Option (List (Hair_dye×Span)):=fun v1 m1=>(mput q107 m1 (Hair_dye.mk v v1) (Span.mk (wr (p.Shade.Low+v1)) (wr (p.Shade.High+v1)))).bind fun m2=>some m2
def g31_3 (x:HairBook):Int→HairHank→(List (Hair_dye×Span))→Option (List (Hair_dye×Span)):=fun v p m=>(forS (g31_8 v p) ((((wr (x.Dark+1)):Int) - 0).toNat) 0 m).bind fun m1=>some m1
def g31 (x:HairBook):Option (HairBook×(List (Hair_dye×Span))):=(eachS (g31_3 x) x.Hanks 0 ([]:List (Hair_dye×Span))).bind fun m=>some (x,m)
def y14 (x:HairBook):List (Nat×Blk):=[(3,.var 81 (catV (cv39 x) [.map 2])),(2,.mp (List.map m107_47 [])),(1,.var 81 [.d (.nilSl),.d (.nilSl),jI 0,jI 0,jI 0,.d (.nilMap)]),(0,.var 39 (cv39 x))]
def y15 (x:HairBook) (m:List (Hair_dye×Span)):List (Nat×Blk):=[(3,.var 81 (catV (cv39 x) [.map 2])),(2,.mp (List.map m107_47 m)),(1,.var 81 [.d (.nilSl),.d (.nilSl),jI 0,jI 0,jI 0,.d (.nilMap)]),(0,.var 39 (cv39 x))]
theorem k31 (x:HairBook) (r:HairBook×(List (Hair_dye×Span))) (h:g31 x=some r):SCall Tryd.prog Gs 31 [.agg (cv39 x)] [] 0 Fr.emp (match r with | (r0_B,mf)=>.agg (hbm r0_B mf)) [] 0 Fr.emp:=by
 unfold g31 at h
 refine SCall.mkK Tryd.func31 c31 rfl rfl (by kernel_rfl) (fun Q_0 hR_0 hN_0=>?_)
 refine Sa (sT [pR 1 0,pR 2 1] [(1,.var 81 [.d (.nilSl),.d (.nilSl),jI 0,jI 0,jI 0,.d (.nilMap)]),(0,.var 39 (cv39 x))] 2 0) ?_
 refine Sa (sT [pR 1 0,pR 2 1,pR 3 3] (y14 x) 4 0) ?_
 refine AW.seqK fun K_1 hK_1=>AW.srwK fun Q_2 hQ_2=>?_
 refine Au 2 (sT [pR 1 0,pR 2 1,pR 3 3,(11,.d (.sl 4 (List.map e62 x.Hanks)))] (y14 x) 4 0) ?_
 refine rL rfl ?_
 refine Au 1 (sT [pR 1 0,pR 2 1,pR 3 3,(11,.d (.sl 4 (List.map e62 x.Hanks))),(12,jI (x.Hanks.length:Int)),(13,jI 0)] (y14 x) 4 0) ?_
 refine RW.nil (hQ_2 _ ?_)
 refine AW.block ?_
 refine AW.sln (t:=11) rfl (fun hN_3=>?_)
 rw [List.length_map] at hN_3
 obtain ⟨out_3,hx_3,h⟩:=bsome h
 refine AW.evSK (fun (v:Int) (m:List (Hair_dye×Span))=>(sT [pR 1 0,pR 2 1,pR 3 3,(11,.d (.sl 4 (List.map e62 x.Hanks))),(12,jI (x.Hanks.length:Int)),(13,jI v)] (y15 x m) 4 0)) (g31_3 x) hx_3 (Can.kp (by kernel_rfl)) (fun v p m hi_3 hl_3 hp_3 c_3 h K_3 hK_3=>?_) (fun v m hi_3 hl_3 hout=>?_)
 ·unfold g31_3 at h
  refine Sa (sT [pR 1 0,pR 2 1,pR 3 3,(11,.d (.sl 4 (List.map e62 x.Hanks))),(12,jI (x.Hanks.length:Int)),(13,jI v),(14,.d (.bool (decide (v<(x.Hanks.length:Int)))))] (y15 x m) 4 0) ?_
  refine AW.seqK (fun K_4 hK_4=>?_)
  refine AW.cond rfl (fun hb_5=>?_) (fun hb_5=>False.elim (by have:=of_decide_eq_false hb_5;omega))
  refine AW.skip (hK_4 _ ?_)
  refine AW.seqK (fun K_6 hK_6=>?_)
  refine AW.block ?_
  refine AW.srwK (fun Q_7 hQ_7=>?_)
  refine Au 1 (sT [pR 1 0,pR 2 1,pR 3 3,(11,.d (.sl 4 (List.map e62 x.Hanks))),(12,jI (x.Hanks.length:Int)),(13,jI v),(15,jI v)] (y15 x m) 4 0) ?_
  refine RW.one fokW (r_iaD trivial rfl rfl hi_3 (row:=e62 p) (mapget hp_3) (r_end ?_))
  refine Au 4 (sT [pR 1 0,pR 2 1,pR 3 3,(4,jI v),pR 5 4,(11,.d (.sl 4 (List.map e62 x.Hanks))),(12,jI (x.Hanks.length:Int)),(13,jI v)] [(4,.var 62 (cv62 p)),(3,.var 81 (catV (cv39 x) [.map 2])),(2,.mp (List.map m107_47 m)),(1,.var 81 [.d (.nilSl),.d (.nilSl),jI 0,jI 0,jI 0,.d (.nilMap)]),(0,.var 39 (cv39 x))] 5 0) ?_
  refine RW.nil (hQ_7 _ ?_)
  refine Sa (sT [pR 1 0,pR 2 1,pR 3 3,(4,jI v),pR 5 4,(11,.d (.sl 4 (List.map e62 x.Hanks))),(12,jI (x.Hanks.length:Int)),(13,jI v),(20,jI (wr (x.Dark+1))),(21,jI 0)] [(4,.var 62 (cv62 p)),(3,.var 81 (catV (cv39 x) [.map 2])),(2,.mp (List.map m107_47 m)),(1,.var 81 [.d (.nilSl),.d (.nilSl),jI 0,jI 0,jI 0,.d (.nilMap)]),(0,.var 39 (cv39 x))] 5 0) ?_
  refine AW.block ?_
  have hN_8:(wr (x.Dark+1))≤9223372036854775807:=(wr_range _).2
  obtain ⟨out_8,hx_8,h⟩:=bsome h
  refine AW.lpSK (fun (v1:Int) (m1:List (Hair_dye×Span))=>(sT [pR 1 0,pR 2 1,pR 3 3,(4,jI v),pR 5 4,(11,.d (.sl 4 (List.map e62 x.Hanks))),(12,jI (x.Hanks.length:Int)),(13,jI v),(20,jI (wr (x.Dark+1))),(21,jI v1)] [(4,.var 62 (cv62 p)),(3,.var 81 (catV (cv39 x) [.map 2])),(2,.mp (List.map m107_47 m1)),(1,.var 81 [.d (.nilSl),.d (.nilSl),jI 0,jI 0,jI 0,.d (.nilMap)]),(0,.var 39 (cv39 x))] 5 0)) (g31_8 v p) ((wr (x.Dark+1))) hx_8 (Can.kp (by kernel_rfl)) (fun v1 m1 hi_8 hl_8 c_8 h K_8 hK_8=>?_) (fun v1 m1 hi_8 hl_8 hout=>?_)
  ·unfold g31_8 at h
   refine Sa (sT [pR 1 0,pR 2 1,pR 3 3,(4,jI v),pR 5 4,(11,.d (.sl 4 (List.map e62 x.Hanks))),(12,jI (x.Hanks.length:Int)),(13,jI v),(20,jI (wr (x.Dark+1))),(21,jI v1),(22,.d (.bool (decide (v1<(wr (x.Dark+1))))))] [(4,.var 62 (cv62 p)),(3,.var 81 (catV (cv39 x) [.map 2])),(2,.mp (List.map m107_47 m1)),(1,.var 81 [.d (.nilSl),.d (.nilSl),jI 0,jI 0,jI 0,.d (.nilMap)]),(0,.var 39 (cv39 x))] 5 0) ?_
   refine AW.seqK (fun K_9 hK_9=>?_)
   refine AW.cond rfl (fun hb_10=>?_) (fun hb_10=>False.elim (by have:=of_decide_eq_false hb_10;omega))
   refine AW.skip (hK_9 _ ?_)
   refine AW.seqK (fun K_11 hK_11=>?_)
   refine AW.block ?_
   refine Sa (sT [pR 1 0,pR 2 1,pR 3 3,(4,jI v),pR 5 4,(6,jI v1),(11,.d (.sl 4 (List.map e62 x.Hanks))),(12,jI (x.Hanks.length:Int)),(13,jI v),(20,jI (wr (x.Dark+1))),(21,jI v1)] [(4,.var 62 (cv62 p)),(3,.var 81 (catV (cv39 x) [.map 2])),(2,.mp (List.map m107_47 m1)),(1,.var 81 [.d (.nilSl),.d (.nilSl),jI 0,jI 0,jI 0,.d (.nilMap)]),(0,.var 39 (cv39 x))] 5 0) ?_
   refine AW.rw ?_
   refine Au 16 (sT [pR 1 0,pR 2 1,pR 3 3,(4,jI v),pR 5 4,(11,.d (.sl 4 (List.map e62 x.Hanks))),(12,jI (x.Hanks.length:Int)),(13,jI v),(20,jI (wr (x.Dark+1))),(21,jI v1),(25,.map 2),(28,.agg [jI v,jI v1]),(39,.agg [jI (wr (p.Shade.Low+v1)),jI (wr (p.Shade.High+v1))])] [(4,.var 62 (cv62 p)),(3,.var 81 (catV (cv39 x) [.map 2])),(2,.mp (List.map m107_47 m1)),(1,.var 81 [.d (.nilSl),.d (.nilSl),jI 0,jI 0,jI 0,.d (.nilMap)]),(0,.var 39 (cv39 x))] 5 0) ?_
   obtain ⟨m2,hv_13,h⟩:=bsome h
   refine RW.one fokW (r_mput q107 e107 (fun x=>DV.a (e47 x)) trivial rfl rfl rfl rfl ft107 q107_ok (fun _=>rfl) rfl hv_13 (r_end ?_))
   refine RW.nil ?_
   refine hK_11 _ ?_
   refine Ra (sT [pR 1 0,pR 2 1,pR 3 3,(4,jI v),pR 5 4,(11,.d (.sl 4 (List.map e62 x.Hanks))),(12,jI (x.Hanks.length:Int)),(13,jI v),(20,jI (wr (x.Dark+1))),(21,jI (wr (v1+1)))] [(2,.mp (List.map m107_47 m2)),(4,.var 62 (cv62 p)),(3,.var 81 (catV (cv39 x) [.map 2])),(1,.var 81 [.d (.nilSl),.d (.nilSl),jI 0,jI 0,jI 0,.d (.nilMap)]),(0,.var 39 (cv39 x))] 5 0) ?_
   obtain rfl:=Option.some.inj h
   have ew:wr (v1+1)=v1+1:=inext (N:=(wr (x.Dark+1))) (by omega) (by omega) (by omega)
   rw [ew]
   exact hK_8 _ (Can.kp (by kernel_rfl))
  ·subst hout
   refine Sa (sT [pR 1 0,pR 2 1,pR 3 3,(4,jI v),pR 5 4,(11,.d (.sl 4 (List.map e62 x.Hanks))),(12,jI (x.Hanks.length:Int)),(13,jI v),(20,jI (wr (x.Dark+1))),(21,jI v1),(22,.d (.bool (decide (v1<(wr (x.Dark+1))))))] [(4,.var 62 (cv62 p)),(3,.var 81 (catV (cv39 x) [.map 2])),(2,.mp (List.map m107_47 m1)),(1,.var 81 [.d (.nilSl),.d (.nilSl),jI 0,jI 0,jI 0,.d (.nilMap)]),(0,.var 39 (cv39 x))] 5 0) ?_
   refine AW.seqK (fun K_14 hK_14=>?_)
   refine AW.cond rfl (fun hb_15=>False.elim (by have:=of_decide_eq_true hb_15;omega)) (fun hb_15=>?_)
   refine AW.exit ?_
   refine hK_6 _ ?_
   refine Ra (sT [pR 1 0,pR 2 1,pR 3 3,(11,.d (.sl 4 (List.map e62 x.Hanks))),(12,jI (x.Hanks.length:Int)),(13,jI (wr (v+1)))] [(3,.var 81 (catV (cv39 x) [.map 2])),(2,.mp (List.map m107_47 m1)),(1,.var 81 [.d (.nilSl),.d (.nilSl),jI 0,jI 0,jI 0,.d (.nilMap)]),(0,.var 39 (cv39 x))] 5 0) ?_
   obtain rfl:=Option.some.inj h
   have ew:wr (v+1)=v+1:=inext (N:=(x.Hanks.length:Int)) (by omega) (by omega) (by omega)
   rw [ew]
   exact hK_3 _ (Can.kp (by kernel_rfl))
 ·subst hout
  refine Sa (sT [pR 1 0,pR 2 1,pR 3 3,(11,.d (.sl 4 (List.map e62 x.Hanks))),(12,jI (x.Hanks.length:Int)),(13,jI v),(14,.d (.bool (decide (v<(x.Hanks.length:Int)))))] (y15 x m) 4 0) ?_
  refine AW.seqK (fun K_16 hK_16=>?_)
  refine AW.cond rfl (fun hb_17=>False.elim (by have:=of_decide_eq_true hb_17;omega)) (fun hb_17=>?_)
  refine AW.exit ?_
  refine hK_1 _ ?_
  refine Sa (sT [pR 2 1] [(1,.var 81 (catV (cv39 x) [.map 2])),(2,.mp (List.map m107_47 m))] 4 0) ?_
  obtain rfl:=Option.some.inj h
  exact AW.ret (hR_0 _ (retXM (.cons (.agg rfl rfl (Nat.le_of_ble_eq_true rfl)) .nil) (FrzR.agg_of ⟨.of (.refl _),.of (.refl _),.of (.refl _),.of (.refl _),.of (.refl _),.mp rfl,trivial⟩) rfl (by kernel_rfl) (by kernel_rfl)))
def g39 :Option Unit:=some ()
theorem k39  (r:Unit) (h:g39=some r):SCall Tryd.prog Gs 39 [] [] 0 Fr.emp (.agg [.d (.fn 60)]) [] 0 Fr.emp:=by
 unfold g39 at h
 refine SCall.mkK Tryd.func39 c39 rfl rfl (by kernel_rfl) (fun Q_0 hR_0 hN_0=>?_)
 refine Sa (sT [pR 0 0] [(0,.var 94 [.d (.nilFn)])] 1 0) ?_
 refine Sa (sT [pR 0 0] [(0,.var 94 [.d (.fn 60)])] 1 0) ?_
 obtain rfl:=Option.some.inj h
 exact rT hR_0 (.cons (.agg rfl rfl (Nat.le_of_ble_eq_true rfl)) .nil)
def g44 (b_B:HairBook) (mf:List (Hair_dye×Span)) (m0_B:HairBook) (mf_1:List (Hair_dye×Span)):Option (HairBook×(List (Hair_dye×Span))):=some (b_B,mf)
theorem k44 (b_B:HairBook) (mf:List (Hair_dye×Span)) (m0_B:HairBook) (mf_1:List (Hair_dye×Span)) (r:HairBook×(List (Hair_dye×Span))) (h:g44 b_B mf m0_B mf_1=some r):SCall Tryd.prog Gs 44 [.agg (hbm b_B mf),.agg [.d (.fn 60)],.clo 45 [.agg (hbm m0_B mf_1)] []] [] 0 Fr.emp (match r with | (o0_B,mf1)=>.clo 63 [] [.ptr 0 0,.ptr 1 0,.ptr 2 0]) (match r with | (o0_B,mf1)=>[(0,.var 81 (hbm o0_B mf1)),(1,.var 94 [.d (.fn 60)]),(2,.var 57 [.clo 45 [.agg (hbm m0_B mf_1)] []])]) 3 Fr.emp:=by
 unfold g44 at h
 refine SCall.mkK Tryd.func44 c44 rfl rfl (by kernel_rfl) (fun Q_0 hR_0 hN_0=>?_)
 refine Sa (sT [pR 3 0,pR 4 1,pR 5 2] [(2,.var 57 [.clo 45 [.agg (hbm m0_B mf_1)] []]),(1,.var 94 [.d (.fn 60)]),(0,.var 81 (hbm b_B mf))] 3 0) ?_
 refine Sa (sT [(6,.clo 63 [] [.ptr 0 0,.ptr 1 0,.ptr 2 0])] [(2,.var 57 [.clo 45 [.agg (hbm m0_B mf_1)] []]),(1,.var 94 [.d (.fn 60)]),(0,.var 81 (hbm b_B mf))] 3 0) ?_
 obtain rfl:=Option.some.inj h
 exact rT hR_0 (.cons (.tmp rfl) .nil)
def g59 :Option (Nat→Int):=some (arrL [0,0,0,0,0])
theorem k59  (r:(Nat→Int)) (h:g59=some r):SCall Tryd.prog Gs 59 [] [] 0 Fr.emp (.agg (cfv r)) [] 0 Fr.emp:=by
 unfold g59 at h
 refine SCall.mkK Tryd.func59 c59 rfl rfl (by kernel_rfl) (fun Q_0 hR_0 hN_0=>?_)
 refine Sa (sT [pR 0 0] [(0,.var 89 [jI 0,jI 0,jI 0,jI 0,jI 0])] 1 0) ?_
 refine Sa (sT [pR 0 0,pR 1 1] [(1,.var 89 [jI 0,jI 0,jI 0,jI 0,jI 0]),(0,.var 89 [jI 0,jI 0,jI 0,jI 0,jI 0])] 2 0) ?_
 refine Sa (sT [pR 0 0] [(0,.var 89 [jI 0,jI 0,jI 0,jI 0,jI 0])] 2 0) ?_
 obtain rfl:=Option.some.inj h
 exact rT hR_0 (.cons (.agg rfl rfl (Nat.le_of_ble_eq_true rfl)) .nil)
def g95 (h_:HairHorse):Option Int:=some h_.Mane
theorem k95 (h_:HairHorse) (r:Int) (h:g95 h_=some r):SCall Tryd.prog Gs 95 [.agg [jI h_.Mane,jI h_.Tail,jI h_.Shade]] [] 0 Fr.emp (jI r) [] 0 Fr.emp:=by
 unfold g95 at h
 refine SCall.mkK Tryd.func95 c95 rfl rfl (by kernel_rfl) (fun Q_0 hR_0 hN_0=>?_)
 refine Sa (sT [pR 1 0] [(0,.var 112 [jI h_.Mane,jI h_.Tail,jI h_.Shade])] 1 0) ?_
 refine Sa (sT [(2,jI h_.Mane)] [] 1 0) ?_
 obtain rfl:=Option.some.inj h
 exact rT hR_0 (.cons (.tmp rfl) .nil)
def g98 (h_:HairHorse):Option Int:=some h_.Tail
theorem k98 (h_:HairHorse) (r:Int) (h:g98 h_=some r):SCall Tryd.prog Gs 98 [.agg [jI h_.Mane,jI h_.Tail,jI h_.Shade]] [] 0 Fr.emp (jI r) [] 0 Fr.emp:=by
 unfold g98 at h
 refine SCall.mkK Tryd.func98 c98 rfl rfl (by kernel_rfl) (fun Q_0 hR_0 hN_0=>?_)
 refine Sa (sT [pR 1 0] [(0,.var 112 [jI h_.Mane,jI h_.Tail,jI h_.Shade])] 1 0) ?_
 refine Sa (sT [(2,jI h_.Tail)] [] 1 0) ?_
 obtain rfl:=Option.some.inj h
 exact rT hR_0 (.cons (.tmp rfl) .nil)
def g60 (s:Span):Option Int:=some s.Low
theorem k60 (s:Span) (r:Int) (h:g60 s=some r):SCall Tryd.prog Gs 60 [.agg [jI s.Low,jI s.High]] [] 0 Fr.emp (jI r) [] 0 Fr.emp:=by
 unfold g60 at h
 refine SCall.mkK Tryd.func60 c60 rfl rfl (by kernel_rfl) (fun Q_0 hR_0 hN_0=>?_)
 refine Sa (sT [pR 1 0] [(0,.var 47 [jI s.Low,jI s.High])] 1 0) ?_
 refine Sa (sT [(2,jI s.Low)] [] 1 0) ?_
 obtain rfl:=Option.some.inj h
 exact rT hR_0 (.cons (.tmp rfl) .nil)
def g77_3:Int→Int→Int→Option Int:=fun v p first1=>some (max first1 p)
def g77 (first:Int) (l:(List Int)):Option Int:=(eachS g77_3 l 0 first).bind fun first1=>some first1
theorem k77 (first:Int) (l:(List Int)) (r:Int) (h:g77 first l=some r):SCall Tryd.prog Gs 77 [jI first,.d (q1 l)] [] 0 Fr.emp (jI r) [] 0 Fr.emp:=by
 unfold g77 at h
 refine SCall.mkK Tryd.func77 c77 rfl rfl (by kernel_rfl) (fun Q_0 hR_0 hN_0=>?_)
 refine Sa (sT [(0,jI first),(1,.d (q1 l))] [] 0 0) ?_
 refine AW.seqK fun K_1 hK_1=>AW.srwK fun Q_2 hQ_2=>?_
 refine Au 1 (sT [(0,jI first),(7,.d (q1 l))] [] 0 0) ?_
 refine rL rfl ?_
 refine Au 1 (sT [(0,jI first),(7,.d (q1 l)),(8,jI (l.length:Int)),(9,jI 0)] [] 0 0) ?_
 refine RW.nil (hQ_2 _ ?_)
 refine AW.block ?_
 refine AW.sln (t:=7) rfl (fun hN_3=>?_)
 rw [List.length_map] at hN_3
 obtain ⟨out_3,hx_3,h⟩:=bsome h
 refine AW.evSK (fun (v:Int) (first1:Int)=>(sT [(0,jI first1),(7,.d (q1 l)),(8,jI (l.length:Int)),(9,jI v)] [] 0 0)) g77_3 hx_3 (Can.kp (by kernel_rfl)) (fun v p first1 hi_3 hl_3 hp_3 c_3 h K_3 hK_3=>?_) (fun v first1 hi_3 hl_3 hout=>?_)
 ·unfold g77_3 at h
  refine Sa (sT [(0,jI first1),(7,.d (q1 l)),(8,jI (l.length:Int)),(9,jI v),(10,.d (.bool (decide (v<(l.length:Int)))))] [] 0 0) ?_
  refine AW.seqK (fun K_4 hK_4=>?_)
  refine AW.cond rfl (fun hb_5=>?_) (fun hb_5=>False.elim (by have:=of_decide_eq_false hb_5;omega))
  refine AW.skip (hK_4 _ ?_)
  refine AW.seqK (fun K_6 hK_6=>?_)
  refine AW.block ?_
  refine AW.srwK (fun Q_7 hQ_7=>?_)
  refine RW.one fokW (r_iaD trivial rfl rfl hi_3 (row:=e3 p) (mapget hp_3) (r_end ?_))
  refine Au 2 (sT [(0,jI first1),(6,jI p),(7,.d (q1 l)),(8,jI (l.length:Int)),(9,jI v)] [] 0 0) ?_
  refine RW.nil (hQ_7 _ ?_)
  refine Ra (sT [(0,jI (max first1 p)),(7,.d (q1 l)),(8,jI (l.length:Int)),(9,jI v)] [] 0 0) ?_
  refine hK_6 _ ?_
  refine Ra (sT [(0,jI (max first1 p)),(7,.d (q1 l)),(8,jI (l.length:Int)),(9,jI (wr (v+1)))] [] 0 0) ?_
  obtain rfl:=Option.some.inj h
  have ew:wr (v+1)=v+1:=inext (N:=(l.length:Int)) (by omega) (by omega) (by omega)
  rw [ew]
  exact hK_3 _ (Can.kp (by kernel_rfl))
 ·subst hout
  refine Sa (sT [(0,jI first1),(7,.d (q1 l)),(8,jI (l.length:Int)),(9,jI v),(10,.d (.bool (decide (v<(l.length:Int)))))] [] 0 0) ?_
  refine AW.seqK (fun K_8 hK_8=>?_)
  refine AW.cond rfl (fun hb_9=>False.elim (by have:=of_decide_eq_true hb_9;omega)) (fun hb_9=>?_)
  refine AW.exit ?_
  refine hK_1 _ ?_
  refine Sa (sT [(4,jI first1)] [] 0 0) ?_
  obtain rfl:=Option.some.inj h
  exact rT hR_0 (.cons (.tmp rfl) .nil)
def g72 (b_B:HairBook) (mf:List (Hair_dye×Span)) (horse:Int) (mane:Hair_dye) (tail:Hair_dye):Option Bool:=(ixL b_B.Horses horse).bind fun p=>(g77 (wr ((((mget q107 mf mane).getD (Span.mk 0 0)).High) - p.Shade)) [(wr (p.Shade - (((mget q107 mf mane).getD (Span.mk 0 0)).Low))),(wr ((((mget q107 mf tail).getD (Span.mk 0 0)).High) - p.Shade)),(wr (p.Shade - (((mget q107 mf tail).getD (Span.mk 0 0)).Low)))]).bind fun r0=>bif (decide (b_B.Near<r0)) then (some false) else (bif (decide (mane.hank=tail.hank)) then ((bif (false != ((mane.hank==tail.hank)&&((mane.steps==tail.steps)&&true))) then (some true) else ((g47 (wr (mane.steps - tail.steps)) (wr (-b_B.Match)) b_B.Match).bind fun r0_1=>some r0_1)).bind fun v=>some v) else ((g77 (wr ((((mget q107 mf mane).getD (Span.mk 0 0)).High) - (((mget q107 mf tail).getD (Span.mk 0 0)).Low))) [(wr ((((mget q107 mf tail).getD (Span.mk 0 0)).High) - (((mget q107 mf mane).getD (Span.mk 0 0)).Low)))]).bind fun r0_2=>some (decide (r0_2≤b_B.Match))))
def y16 (tail:Hair_dye) (mane:Hair_dye) (b_B:HairBook) (mf:List (Hair_dye×Span)):List (Nat×Blk):=[(2,.var 107 [jI tail.hank,jI tail.steps]),(1,.var 107 [jI mane.hank,jI mane.steps]),(0,.var 81 (hbm b_B mf))]
theorem k72 (b_B:HairBook) (mf:List (Hair_dye×Span)) (horse:Int) (mane:Hair_dye) (tail:Hair_dye) (r:Bool) (h:g72 b_B mf horse mane tail=some r):SCall Tryd.prog Gs 72 [.agg (hbm b_B mf),jI horse,.agg [jI mane.hank,jI mane.steps],.agg [jI tail.hank,jI tail.steps]] [] 0 Fr.emp (.d (.bool r)) [] 0 Fr.emp:=by
 unfold g72 at h
 refine SCall.mkK Tryd.func72 c72 rfl rfl (by kernel_rfl) (fun Q_0 hR_0 hN_0=>?_)
 refine Sa (sT [(1,jI horse),pR 4 0,pR 6 1,pR 7 2] (y16 tail mane b_B mf) 3 0) ?_
 refine AW.srwK (fun Q_1 hQ_1=>?_)
 refine Au 4 (sT [pR 4 0,pR 6 1,pR 7 2,(14,.d (.sl 3 (List.map e64 b_B.Horses))),(15,jI horse)] (y16 tail mane b_B mf) 3 0) ?_
 obtain ⟨p,hv_2,h⟩:=bsome h
 refine RW.one fokW (r_iaD trivial rfl rfl (ixL_ok hv_2).1 (row:=e64 p) (mapget (ixL_ok hv_2).2) (r_end ?_))
 refine Au 3 (sT [pR 4 0,pR 6 1,pR 7 2,(9,jI p.Shade)] (y16 tail mane b_B mf) 3 0) ?_
 refine RW.nil (hQ_1 _ ?_)
 refine AW.sdrwK fokW (fun Q_3 hQ_3=>?_)
 refine aX 3 (sT [pR 4 0,pR 6 1,pR 7 2,(9,jI p.Shade),(20,.fmp (List.map m107_47 mf)),(21,.agg [jI mane.hank,jI mane.steps])] (y16 tail mane b_B mf) 3 0) ?_
 refine r_lookFA q107 e107 e47 mf mane (Span.mk 0 0) trivial rfl rfl ft107 q107_ok (fun _=>rfl) rfl ?_
 refine aX 3 (sT [pR 4 0,pR 6 1,pR 7 2,(9,jI p.Shade),(22,.agg [jI (((mget q107 mf mane).getD (Span.mk 0 0)).Low),jI (((mget q107 mf mane).getD (Span.mk 0 0)).High)]),(24,.fmp (List.map m107_47 mf)),(25,.agg [jI tail.hank,jI tail.steps])] (y16 tail mane b_B mf) 3 0) ?_
 refine r_lookFA q107 e107 e47 mf tail (Span.mk 0 0) trivial rfl rfl ft107 q107_ok (fun _=>rfl) rfl ?_
 refine aX 4 (sT [pR 4 0,pR 6 1,pR 7 2,(9,jI p.Shade),pR 10 3,pR 11 4] [(4,.var 47 [jI (((mget q107 mf tail).getD (Span.mk 0 0)).Low),jI (((mget q107 mf tail).getD (Span.mk 0 0)).High)]),(3,.var 47 [jI (((mget q107 mf mane).getD (Span.mk 0 0)).Low),jI (((mget q107 mf mane).getD (Span.mk 0 0)).High)]),(2,.var 107 [jI tail.hank,jI tail.steps]),(1,.var 107 [jI mane.hank,jI mane.steps]),(0,.var 81 (hbm b_B mf))] 5 0) ?_
 refine Fi (sT [pR 4 0,pR 6 1,pR 7 2,(9,jI p.Shade),pR 10 3,pR 11 4] [(4,.var 47 [jI (((mget q107 mf tail).getD (Span.mk 0 0)).Low),jI (((mget q107 mf tail).getD (Span.mk 0 0)).High)]),(3,.var 47 [jI (((mget q107 mf mane).getD (Span.mk 0 0)).Low),jI (((mget q107 mf mane).getD (Span.mk 0 0)).High)]),(2,.var 107 [jI tail.hank,jI tail.steps]),(1,.var 107 [jI mane.hank,jI mane.steps]),(0,.var 81 (hbm b_B mf))] 5 0) ?_
 refine hQ_3 _ ?_
 refine AW.seqK (fun K_4 hK_4=>?_)
 refine AW.sdrwK fokW (fun Q_5 hQ_5=>?_)
 refine aX 17 (sT [pR 4 0,pR 6 1,pR 7 2,pR 10 3,pR 11 4,(30,jI (wr ((((mget q107 mf mane).getD (Span.mk 0 0)).High) - p.Shade))),(43,.own 5 (List.map e3 [(wr (p.Shade - (((mget q107 mf mane).getD (Span.mk 0 0)).Low))),(wr ((((mget q107 mf tail).getD (Span.mk 0 0)).High) - p.Shade)),(wr (p.Shade - (((mget q107 mf tail).getD (Span.mk 0 0)).Low)))]).length)] [(5,.row 3 1 (List.map e3 [(wr (p.Shade - (((mget q107 mf mane).getD (Span.mk 0 0)).Low))),(wr ((((mget q107 mf tail).getD (Span.mk 0 0)).High) - p.Shade)),(wr (p.Shade - (((mget q107 mf tail).getD (Span.mk 0 0)).Low)))])),(4,.var 47 [jI (((mget q107 mf tail).getD (Span.mk 0 0)).Low),jI (((mget q107 mf tail).getD (Span.mk 0 0)).High)]),(3,.var 47 [jI (((mget q107 mf mane).getD (Span.mk 0 0)).Low),jI (((mget q107 mf mane).getD (Span.mk 0 0)).High)]),(2,.var 107 [jI tail.hank,jI tail.steps]),(1,.var 107 [jI mane.hank,jI mane.steps]),(0,.var 81 (hbm b_B mf))] 6 0) ?_
 obtain ⟨r0,hx_6,h⟩:=bsome h
 refine r_callF (rs:=[(5,.row 3 1 (List.map e3 [(wr (p.Shade - (((mget q107 mf mane).getD (Span.mk 0 0)).Low))),(wr ((((mget q107 mf tail).getD (Span.mk 0 0)).High) - p.Shade)),(wr (p.Shade - (((mget q107 mf tail).getD (Span.mk 0 0)).Low)))]))]) trivial rfl (k77 (wr ((((mget q107 mf mane).getD (Span.mk 0 0)).High) - p.Shade)) [(wr (p.Shade - (((mget q107 mf mane).getD (Span.mk 0 0)).Low))),(wr ((((mget q107 mf tail).getD (Span.mk 0 0)).High) - p.Shade)),(wr (p.Shade - (((mget q107 mf tail).getD (Span.mk 0 0)).Low)))] _ hx_6) ⟨rfl,trivial⟩ ⟨.refl _,(.own rfl rfl),trivial⟩ rfl rfl rfl ?_
 refine aX 4 (sT [pR 4 0,pR 6 1,pR 7 2,pR 10 3,pR 11 4,(48,.d (.bool (decide (b_B.Near<r0))))] [(5,.row 3 1 (List.map e3 [(wr (p.Shade - (((mget q107 mf mane).getD (Span.mk 0 0)).Low))),(wr ((((mget q107 mf tail).getD (Span.mk 0 0)).High) - p.Shade)),(wr (p.Shade - (((mget q107 mf tail).getD (Span.mk 0 0)).Low)))])),(4,.var 47 [jI (((mget q107 mf tail).getD (Span.mk 0 0)).Low),jI (((mget q107 mf tail).getD (Span.mk 0 0)).High)]),(3,.var 47 [jI (((mget q107 mf mane).getD (Span.mk 0 0)).Low),jI (((mget q107 mf mane).getD (Span.mk 0 0)).High)]),(2,.var 107 [jI tail.hank,jI tail.steps]),(1,.var 107 [jI mane.hank,jI mane.steps]),(0,.var 81 (hbm b_B mf))] 6 0) ?_
 refine Fi (sT [pR 4 0,pR 6 1,pR 7 2,pR 10 3,pR 11 4,(48,.d (.bool (decide (b_B.Near<r0))))] [(4,.var 47 [jI (((mget q107 mf tail).getD (Span.mk 0 0)).Low),jI (((mget q107 mf tail).getD (Span.mk 0 0)).High)]),(3,.var 47 [jI (((mget q107 mf mane).getD (Span.mk 0 0)).Low),jI (((mget q107 mf mane).getD (Span.mk 0 0)).High)]),(2,.var 107 [jI tail.hank,jI tail.steps]),(1,.var 107 [jI mane.hank,jI mane.steps]),(0,.var 81 (hbm b_B mf))] 6 0) ?_
 refine hQ_5 _ ?_
 refine AW.cond rfl (fun hb_7=>?_) (fun hb_7=>?_)
 ·have h:=ifT hb_7 h
  refine Sa (sT [(8,.d (.bool false))] [] 6 0) ?_
  obtain rfl:=Option.some.inj h
  exact rT hR_0 (.cons (.tmp rfl) .nil)
 ·have h:=ifF hb_7 h
  refine AW.skip (hK_4 _ ?_)
  refine AW.seqK (fun K_8 hK_8=>?_)
  refine Sa (sT [pR 4 0,pR 6 1,pR 7 2,pR 10 3,pR 11 4,(53,.d (.bool (decide (mane.hank=tail.hank))))] [(4,.var 47 [jI (((mget q107 mf tail).getD (Span.mk 0 0)).Low),jI (((mget q107 mf tail).getD (Span.mk 0 0)).High)]),(3,.var 47 [jI (((mget q107 mf mane).getD (Span.mk 0 0)).Low),jI (((mget q107 mf mane).getD (Span.mk 0 0)).High)]),(2,.var 107 [jI tail.hank,jI tail.steps]),(1,.var 107 [jI mane.hank,jI mane.steps]),(0,.var 81 (hbm b_B mf))] 6 0) ?_
  refine AW.cond rfl (fun hb_9=>?_) (fun hb_9=>?_)
  ·have h:=ifT hb_9 h
   refine AW.srwK (fun Q_10 hQ_10=>?_)
   refine Au 2 (sT [pR 4 0,pR 6 1,pR 7 2,(54,.agg [jI mane.hank,jI mane.steps]),(55,.agg [jI tail.hank,jI tail.steps])] (y16 tail mane b_B mf) 6 0) ?_
   refine RW.one fokW (r_aeq trivial rfl rfl rfl rfl ft107 rfl rfl rfl (r_end ?_))
   refine Au 1 (sT [pR 4 0,pR 6 1,pR 7 2,(57,.d (.bool (false != ((mane.hank==tail.hank)&&((mane.steps==tail.steps)&&true)))))] (y16 tail mane b_B mf) 6 0) ?_
   obtain ⟨v,hx_11,h⟩:=bsome h
   refine RW.cut fokW 14 ((sT [(71,.d (.bool v))] [] 6 0)) ?_ ?_
   ·refine r_split 57 rfl (fun hb_13=>?_) (fun hb_13=>?_)
    ·have h:=ifT hb_13 hx_11
     refine aX 14 (sT [(71,.d (.bool true))] (y16 tail mane b_B mf) 6 0) ?_
     obtain rfl:=Option.some.inj h
     refine RunC.finJ (Can.kp (by kernel_rfl))
    ·have h:=ifF hb_13 hx_11
     refine aX 12 (sT [(57,.d (.bool false)),(62,jI (wr (mane.steps - tail.steps))),(66,jI (wr (-b_B.Match))),(69,jI b_B.Match)] (y16 tail mane b_B mf) 6 0) ?_
     obtain ⟨r0_1,hx_12,h⟩:=bsome h
     refine r_call rfl rfl (k47 (wr (mane.steps - tail.steps)) (wr (-b_B.Match)) b_B.Match _ hx_12) rfl rfl ?_
     refine aX 1 (sT [(71,.d (.bool r0_1))] (y16 tail mane b_B mf) 6 0) ?_
     obtain rfl:=Option.some.inj h
     refine RunC.finJ (Can.kp (by kernel_rfl))
   ·refine Au 1 (sT [(8,.d (.bool v))] [] 6 0) ?_
    refine RW.nil (hQ_10 _ ?_)
    obtain rfl:=Option.some.inj h
    exact rT hR_0 (.cons (.tmp rfl) .nil)
  ·have h:=ifF hb_9 h
   refine AW.skip (hK_8 _ ?_)
   refine AW.sdrwK fokW (fun Q_14 hQ_14=>?_)
   refine aX 11 (sT [pR 4 0,(76,jI (wr ((((mget q107 mf mane).getD (Span.mk 0 0)).High) - (((mget q107 mf tail).getD (Span.mk 0 0)).Low)))),(82,.own 6 (List.map e3 [(wr ((((mget q107 mf tail).getD (Span.mk 0 0)).High) - (((mget q107 mf mane).getD (Span.mk 0 0)).Low)))]).length)] [(6,.row 3 1 (List.map e3 [(wr ((((mget q107 mf tail).getD (Span.mk 0 0)).High) - (((mget q107 mf mane).getD (Span.mk 0 0)).Low)))])),(4,.var 47 [jI (((mget q107 mf tail).getD (Span.mk 0 0)).Low),jI (((mget q107 mf tail).getD (Span.mk 0 0)).High)]),(3,.var 47 [jI (((mget q107 mf mane).getD (Span.mk 0 0)).Low),jI (((mget q107 mf mane).getD (Span.mk 0 0)).High)]),(2,.var 107 [jI tail.hank,jI tail.steps]),(1,.var 107 [jI mane.hank,jI mane.steps]),(0,.var 81 (hbm b_B mf))] 7 0) ?_
   obtain ⟨r0_2,hx_15,h⟩:=bsome h
   refine r_callF (rs:=[(6,.row 3 1 (List.map e3 [(wr ((((mget q107 mf tail).getD (Span.mk 0 0)).High) - (((mget q107 mf mane).getD (Span.mk 0 0)).Low)))]))]) trivial rfl (k77 (wr ((((mget q107 mf mane).getD (Span.mk 0 0)).High) - (((mget q107 mf tail).getD (Span.mk 0 0)).Low))) [(wr ((((mget q107 mf tail).getD (Span.mk 0 0)).High) - (((mget q107 mf mane).getD (Span.mk 0 0)).Low)))] _ hx_15) ⟨rfl,trivial⟩ ⟨.refl _,(.own rfl rfl),trivial⟩ rfl rfl rfl ?_
   refine aX 5 (sT [(8,.d (.bool (decide (r0_2≤b_B.Match))))] [(6,.row 3 1 (List.map e3 [(wr ((((mget q107 mf tail).getD (Span.mk 0 0)).High) - (((mget q107 mf mane).getD (Span.mk 0 0)).Low)))])),(4,.var 47 [jI (((mget q107 mf tail).getD (Span.mk 0 0)).Low),jI (((mget q107 mf tail).getD (Span.mk 0 0)).High)]),(3,.var 47 [jI (((mget q107 mf mane).getD (Span.mk 0 0)).Low),jI (((mget q107 mf mane).getD (Span.mk 0 0)).High)]),(2,.var 107 [jI tail.hank,jI tail.steps]),(1,.var 107 [jI mane.hank,jI mane.steps]),(0,.var 81 (hbm b_B mf))] 7 0) ?_
   refine Fi (sT [(8,.d (.bool (decide (r0_2≤b_B.Match))))] [] 7 0) ?_
   refine hQ_14 _ ?_
   obtain rfl:=Option.some.inj h
   exact rT hR_0 (.cons (.tmp rfl) .nil)
def g65_6 (b_B:HairBook) (mf:List (Hair_dye×Span)) (horse:Int) (mane:Int) (tail:Int) (v:Int):Int→Unit→Option (Ctl (Unit) (Ctl (Unit) (Hair_dye×Hair_dye×Bool))):=fun v1 _=>(g72 b_B mf horse (Hair_dye.mk mane v) (Hair_dye.mk tail v1)).bind fun r0_5=>bif r0_5 then (some (.brk (.brk ((Hair_dye.mk mane v),(Hair_dye.mk tail v1),true)))) else (some (.next ()))
def g65_2 (b_B:HairBook) (mf:List (Hair_dye×Span)) (horse:Int) (mane:Int) (tail:Int):Int→Unit→Option (Ctl (Unit) (Hair_dye×Hair_dye×Bool)):=fun v _=>bindC (forC (g65_6 b_B mf horse mane tail v) ((((wr (b_B.Dark+1)):Int) - 0).toNat) 0 ()) fun _=>some (.next ())
def g65 (b_B:HairBook) (mf:List (Hair_dye×Span)) (horse:Int) (mane:Int) (tail:Int):Option (Hair_dye×Hair_dye×Bool):=bindC (forC (g65_2 b_B mf horse mane tail) ((((wr (b_B.Dark+1)):Int) - 0).toNat) 0 ()) fun _=>some ((Hair_dye.mk 0 0),(Hair_dye.mk 0 0),false)
def y17 (b_B:HairBook) (mf:List (Hair_dye×Span)):List (Nat×Blk):=[(2,.var 107 [jI 0,jI 0]),(1,.var 107 [jI 0,jI 0]),(0,.var 81 (hbm b_B mf))]
theorem k65 (b_B:HairBook) (mf:List (Hair_dye×Span)) (horse:Int) (mane:Int) (tail:Int) (r:Hair_dye×Hair_dye×Bool) (h:g65 b_B mf horse mane tail=some r):SCall Tryd.prog Gs 65 [.agg (hbm b_B mf),jI horse,jI mane,jI tail] [] 0 Fr.emp (match r with | (r0_1,r1_1,r2_1)=>.tup [.agg [jI r0_1.hank,jI r0_1.steps],.agg [jI r1_1.hank,jI r1_1.steps],.d (.bool r2_1)]) [] 0 Fr.emp:=by
 unfold g65 at h
 refine SCall.mkK Tryd.func65 c65 rfl rfl (by kernel_rfl) (fun Q_0 hR_0 hN_0=>?_)
 refine Sa (sT [(1,jI horse),(2,jI mane),(3,jI tail),pR 4 0,pR 8 1,pR 9 2] (y17 b_B mf) 3 0) ?_
 refine Sa (sT [(1,jI horse),(2,jI mane),(3,jI tail),pR 4 0,pR 8 1,pR 9 2,(11,.clo 72 [.agg (hbm b_B mf)] [])] (y17 b_B mf) 3 0) ?_
 refine AW.seqK (fun K_1 hK_1=>?_)
 refine Sa (sT [(1,jI horse),(2,jI mane),(3,jI tail),pR 4 0,pR 8 1,pR 9 2,(11,.clo 72 [.agg (hbm b_B mf)] []),(19,jI (wr (b_B.Dark+1))),(20,jI 0)] (y17 b_B mf) 3 0) ?_
 refine AW.block ?_
 have hN_2:(wr (b_B.Dark+1))≤9223372036854775807:=(wr_range _).2
 obtain ⟨out_2,hx_2,hk_2⟩:=bsomeC h
 refine AW.lpCK (fun (v:Int) (_:Unit)=>(sT [(1,jI horse),(2,jI mane),(3,jI tail),pR 4 0,pR 8 1,pR 9 2,(11,.clo 72 [.agg (hbm b_B mf)] []),(19,jI (wr (b_B.Dark+1))),(20,jI v)] (y17 b_B mf) 3 0)) (g65_2 b_B mf horse mane tail) ((wr (b_B.Dark+1))) hx_2 (Can.kp (by kernel_rfl)) (fun v s_2 hi_2 hl_2 c_2 h hb_2 K_2 hK_2=>?_) (fun v s_2 hi_2 hl_2 hout=>?_)
 ·unfold g65_2 at h
  refine Sa (sT [(1,jI horse),(2,jI mane),(3,jI tail),pR 4 0,pR 8 1,pR 9 2,(11,.clo 72 [.agg (hbm b_B mf)] []),(19,jI (wr (b_B.Dark+1))),(20,jI v),(21,.d (.bool (decide (v<(wr (b_B.Dark+1))))))] (y17 b_B mf) 3 0) ?_
  refine AW.seqK (fun K_3 hK_3=>?_)
  refine AW.cond rfl (fun hb_4=>?_) (fun hb_4=>False.elim (by have:=of_decide_eq_false hb_4;omega))
  refine AW.skip (hK_3 _ ?_)
  refine AW.seqK (fun K_5 hK_5=>?_)
  refine AW.block ?_
  refine Sa (sT [(1,jI horse),(2,jI mane),(3,jI tail),pR 4 0,pR 8 1,pR 9 2,(11,.clo 72 [.agg (hbm b_B mf)] []),(12,jI v),(19,jI (wr (b_B.Dark+1))),(20,jI v)] (y17 b_B mf) 3 0) ?_
  refine Sa (sT [(1,jI horse),(2,jI mane),(3,jI tail),pR 4 0,pR 8 1,pR 9 2,(11,.clo 72 [.agg (hbm b_B mf)] []),(12,jI v),(19,jI (wr (b_B.Dark+1))),(20,jI v),(26,jI (wr (b_B.Dark+1))),(27,jI 0)] (y17 b_B mf) 3 0) ?_
  refine AW.block ?_
  have hN_6:(wr (b_B.Dark+1))≤9223372036854775807:=(wr_range _).2
  obtain ⟨out_6,hx_6,hk_6⟩:=bsomeC h
  refine AW.lpCK (fun (v1:Int) (_:Unit)=>(sT [(1,jI horse),(2,jI mane),(3,jI tail),pR 4 0,pR 8 1,pR 9 2,(11,.clo 72 [.agg (hbm b_B mf)] []),(12,jI v),(19,jI (wr (b_B.Dark+1))),(20,jI v),(26,jI (wr (b_B.Dark+1))),(27,jI v1)] (y17 b_B mf) 3 0)) (g65_6 b_B mf horse mane tail v) ((wr (b_B.Dark+1))) hx_6 (Can.kp (by kernel_rfl)) (fun v1 s_6 hi_6 hl_6 c_6 h hb_6 K_6 hK_6=>?_) (fun v1 s_6 hi_6 hl_6 hout=>?_)
  ·unfold g65_6 at h
   refine Sa (sT [(1,jI horse),(2,jI mane),(3,jI tail),pR 4 0,pR 8 1,pR 9 2,(11,.clo 72 [.agg (hbm b_B mf)] []),(12,jI v),(19,jI (wr (b_B.Dark+1))),(20,jI v),(26,jI (wr (b_B.Dark+1))),(27,jI v1),(28,.d (.bool (decide (v1<(wr (b_B.Dark+1))))))] (y17 b_B mf) 3 0) ?_
   refine AW.seqK (fun K_7 hK_7=>?_)
   refine AW.cond rfl (fun hb_8=>?_) (fun hb_8=>False.elim (by have:=of_decide_eq_false hb_8;omega))
   refine AW.skip (hK_7 _ ?_)
   refine AW.seqK (fun K_9 hK_9=>?_)
   refine AW.block ?_
   refine Sa (sT [(1,jI horse),(2,jI mane),(3,jI tail),pR 4 0,pR 8 1,pR 9 2,(11,.clo 72 [.agg (hbm b_B mf)] []),(12,jI v),(13,jI v1),(19,jI (wr (b_B.Dark+1))),(20,jI v),(26,jI (wr (b_B.Dark+1))),(27,jI v1)] (y17 b_B mf) 3 0) ?_
   refine AW.srwK (fun Q_10 hQ_10=>?_)
   refine Au 8 (sT [(1,jI horse),(2,jI mane),(3,jI tail),pR 4 0,pR 8 1,pR 9 2,(11,.clo 72 [.agg (hbm b_B mf)] []),(12,jI v),(13,jI v1),(19,jI (wr (b_B.Dark+1))),(20,jI v),(26,jI (wr (b_B.Dark+1))),(27,jI v1),(30,.clo 72 [.agg (hbm b_B mf)] []),(31,jI horse),(34,.agg [jI mane,jI v]),(37,.agg [jI tail,jI v1])] (y17 b_B mf) 3 0) ?_
   obtain ⟨r0_5,hx_11,h⟩:=bsome h
   refine RW.one fokW (r_callvZ (zr:=[]) trivial rfl (.clo _ _ _) (by kernel_rfl) rfl (k72 b_B mf horse (Hair_dye.mk mane v) (Hair_dye.mk tail v1) _ hx_11) trivial ⟨.refl _,.refl _,.refl _,.refl _,trivial⟩ rfl rfl rfl rfl (r_end ?_))
   refine RW.nil (hQ_10 _ ?_)
   refine AW.cond rfl (fun hb_12=>?_) (fun hb_12=>?_)
   ·have h:=ifT hb_12 h
    refine Sa (sT [pR 8 1,pR 9 2,(10,.d (.bool true))] [(2,.var 107 [jI tail,jI v1]),(1,.var 107 [jI mane,jI v])] 3 0) ?_
    obtain rfl:=Option.some.inj h
    have e_2:=hb_6 _ rfl
    subst e_2
    obtain rfl:=Aft.bk hk_6
    have e_1:=hb_2 _ rfl
    subst e_1
    obtain rfl:=Aft.bk hk_2
    exact rT hR_0 (.cons (.agg rfl rfl (Nat.le_of_ble_eq_true rfl)) (.cons (.agg rfl rfl (Nat.le_of_ble_eq_true rfl)) (.cons (.tmp rfl) .nil)))
   ·have h:=ifF hb_12 h
    refine AW.skip (hK_9 _ ?_)
    refine Ra (sT [(1,jI horse),(2,jI mane),(3,jI tail),pR 4 0,pR 8 1,pR 9 2,(11,.clo 72 [.agg (hbm b_B mf)] []),(12,jI v),(19,jI (wr (b_B.Dark+1))),(20,jI v),(26,jI (wr (b_B.Dark+1))),(27,jI (wr (v1+1)))] (y17 b_B mf) 3 0) ?_
    obtain rfl:=Option.some.inj h
    have ew:wr (v1+1)=v1+1:=inext (N:=(wr (b_B.Dark+1))) (by omega) (by omega) (by omega)
    rw [ew]
    exact hK_6 _ _ rfl (Can.kp (by kernel_rfl))
  ·subst hout
   have h:=Aft.nx hk_6
   refine Sa (sT [(1,jI horse),(2,jI mane),(3,jI tail),pR 4 0,pR 8 1,pR 9 2,(11,.clo 72 [.agg (hbm b_B mf)] []),(12,jI v),(19,jI (wr (b_B.Dark+1))),(20,jI v),(26,jI (wr (b_B.Dark+1))),(27,jI v1),(28,.d (.bool (decide (v1<(wr (b_B.Dark+1))))))] (y17 b_B mf) 3 0) ?_
   refine AW.seqK (fun K_13 hK_13=>?_)
   refine AW.cond rfl (fun hb_14=>False.elim (by have:=of_decide_eq_true hb_14;omega)) (fun hb_14=>?_)
   refine AW.exit ?_
   refine hK_5 _ ?_
   refine Ra (sT [(1,jI horse),(2,jI mane),(3,jI tail),pR 4 0,pR 8 1,pR 9 2,(11,.clo 72 [.agg (hbm b_B mf)] []),(19,jI (wr (b_B.Dark+1))),(20,jI (wr (v+1)))] (y17 b_B mf) 3 0) ?_
   obtain rfl:=Option.some.inj h
   have ew:wr (v+1)=v+1:=inext (N:=(wr (b_B.Dark+1))) (by omega) (by omega) (by omega)
   rw [ew]
   exact hK_2 _ _ rfl (Can.kp (by kernel_rfl))
 ·subst hout
  have h:=Aft.nx hk_2
  refine Sa (sT [(1,jI horse),(2,jI mane),(3,jI tail),pR 4 0,pR 8 1,pR 9 2,(11,.clo 72 [.agg (hbm b_B mf)] []),(19,jI (wr (b_B.Dark+1))),(20,jI v),(21,.d (.bool (decide (v<(wr (b_B.Dark+1))))))] (y17 b_B mf) 3 0) ?_
  refine AW.seqK (fun K_15 hK_15=>?_)
  refine AW.cond rfl (fun hb_16=>False.elim (by have:=of_decide_eq_true hb_16;omega)) (fun hb_16=>?_)
  refine AW.exit ?_
  refine hK_1 _ ?_
  refine Sa (sT [pR 8 1,pR 9 2,(10,.d (.bool false))] [(2,.var 107 [jI 0,jI 0]),(1,.var 107 [jI 0,jI 0])] 3 0) ?_
  obtain rfl:=Option.some.inj h
  exact rT hR_0 (.cons (.agg rfl rfl (Nat.le_of_ble_eq_true rfl)) (.cons (.agg rfl rfl (Nat.le_of_ble_eq_true rfl)) (.cons (.tmp rfl) .nil)))
def g45 (b_B:HairBook) (mf:List (Hair_dye×Span)) (horse:Int) (mane:Int) (tail:Int):Option Bool:=(g65 b_B mf horse mane tail).bind fun (r0_1,r1_1,r2_1)=>some r2_1
theorem k45 (b_B:HairBook) (mf:List (Hair_dye×Span)) (horse:Int) (mane:Int) (tail:Int) (r:Bool) (h:g45 b_B mf horse mane tail=some r):SCall Tryd.prog Gs 45 [.agg (hbm b_B mf),jI horse,jI mane,jI tail] [] 0 Fr.emp (.d (.bool r)) [] 0 Fr.emp:=by
 unfold g45 at h
 refine SCall.mkK Tryd.func45 c45 rfl rfl (by kernel_rfl) (fun Q_0 hR_0 hN_0=>?_)
 refine Sa (sT [(1,jI horse),(2,jI mane),(3,jI tail),pR 4 0] [(0,.var 81 (hbm b_B mf))] 1 0) ?_
 refine AW.srwK (fun Q_1 hQ_1=>?_)
 refine Au 4 (sT [(13,.agg (hbm b_B mf)),(14,jI horse),(15,jI mane),(16,jI tail)] [] 1 0) ?_
 obtain ⟨⟨r0_1,r1_1,r2_1⟩,hx_2,h⟩:=bsome h
 refine rC (k65 b_B mf horse mane tail _ hx_2) ?_
 refine Au 9 (sT [(11,.d (.bool r2_1))] [] 3 0) ?_
 refine RW.nil (hQ_1 _ ?_)
 refine Sa (sT [(8,.d (.bool r2_1))] [] 3 0) ?_
 obtain rfl:=Option.some.inj h
 exact rT hR_0 (.cons (.tmp rfl) .nil)
end Go.Proofs.Tp
namespace Go.Proofs.Tp
open Go Go.Abs Go.Proofs
def g64_16 {S_:Type} (rec_:(List Int)→(Nat→Int)→HairBook→(List (Hair_dye×Span))→HairBook→(List (Hair_dye×Span))→S_→Option (Bool×S_)) (plan:(List Int)) (cut:(Nat→Int)) (o0_B:HairBook) (mf:List (Hair_dye×Span)) (m0_B:HairBook) (mf_1:List (Hair_dye×Span)) (need:Int):Int→HairHank→S_→Option (Ctl (S_) (Bool×S_)):=fun v p2 s_2=>bindC ((ixN 5 v).bind fun j1=>(g60 p2.Weight).bind fun r0_2=>bif (decide (r0_2<(wr ((cut j1)+need)))) then (some (.brk (.next s_2))) else (bif (decide (((plan.length:Int).tmod 2)=1)) then ((ixL plan (wr ((plan.length:Int) - 1))).bind fun p3=>(g45 m0_B mf_1 (wr ((plan.length:Int).tdiv 2)) p3 v).bind fun r0_3=>bif (!r0_3) then (some (.brk (.next s_2))) else (some (.next ()))) else (some (.next ()))):Option (Ctl (Unit) (Ctl (S_) (Bool×S_)))) fun _=>(ixN 5 v).bind fun j2=>(ixN 5 v).bind fun j3=>(slcL plan 0 (plan.length:Int)).bind fun l=>(appL 8 l [v]).bind fun l1=>(rec_ l1 (aset cut j3 (wr ((cut j2)+need))) o0_B mf m0_B mf_1 s_2).bind fun (r0_7_1,s_5_1)=>bif (!r0_7_1) then (some (.brk (false,s_5_1))) else (some (.next s_5_1))
def g64 {S_:Type} (c_:(List Int)→(Nat→Int)→S_→Option (S_×Bool)):Nat→(List Int)→(Nat→Int)→HairBook→(List (Hair_dye×Span))→HairBook→(List (Hair_dye×Span))→S_→Option (Bool×S_)
 | 0,_,_,_,_,_,_,_=>none
 | n_+1,plan,cut,o0_B,mf,m0_B,mf_1,s_=>bif (decide ((plan.length:Int)=(wr (2*(o0_B.Horses.length:Int))))) then ((c_ plan cut s_).bind fun (s_1,go)=>some (go,s_1)) else (((ixN 2 ((plan.length:Int).tmod 2)).bind fun j=>match j with | 0=>(ixL o0_B.Horses (wr ((plan.length:Int).tdiv 2))).bind fun p=>(g95 p).bind fun r0=>some r0 | 1=>(ixL o0_B.Horses (wr ((plan.length:Int).tdiv 2))).bind fun p1=>(g98 p1).bind fun r0_1=>some r0_1 | _=>none).bind fun need=>bindC (eachC (g64_16 (g64 c_ n_) plan cut o0_B mf m0_B mf_1 need) o0_B.Hanks 0 s_) fun s_2=>some (true,s_2))
def y18 (cut:(Nat→Int)) (o0_B:HairBook) (mf:List (Hair_dye×Span)) (m0_B:HairBook) (mf_1:List (Hair_dye×Span)):List (Nat×Blk):=[(5,.var 89 (cfv cut)),(0,.var 81 (hbm o0_B mf)),(1,.var 113 [.yld]),(2,.var 94 [.d (.fn 60)]),(3,.var 57 [.clo 45 [.agg (hbm m0_B mf_1)] []]),(4,.var 113 [.clo 64 [] [.ptr 0 0,.ptr 1 0,.ptr 2 0,.ptr 3 0,.ptr 4 0]])]
def y19 (o0_B:HairBook) (mf:List (Hair_dye×Span)) (m0_B:HairBook) (mf_1:List (Hair_dye×Span)):List (Nat×Blk):=[(0,.var 81 (hbm o0_B mf)),(1,.var 113 [.yld]),(2,.var 94 [.d (.fn 60)]),(3,.var 57 [.clo 45 [.agg (hbm m0_B mf_1)] []]),(4,.var 113 [.clo 64 [] [.ptr 0 0,.ptr 1 0,.ptr 2 0,.ptr 3 0,.ptr 4 0]])]
def y20 (cut:(Nat→Int)) (o0_B:HairBook) (mf:List (Hair_dye×Span)) (m0_B:HairBook) (mf_1:List (Hair_dye×Span)):List (Nat×Blk):=[(7,.var 89 (cfv cut)),(5,.var 89 (cfv cut)),(0,.var 81 (hbm o0_B mf)),(1,.var 113 [.yld]),(2,.var 94 [.d (.fn 60)]),(3,.var 57 [.clo 45 [.agg (hbm m0_B mf_1)] []]),(4,.var 113 [.clo 64 [] [.ptr 0 0,.ptr 1 0,.ptr 2 0,.ptr 3 0,.ptr 4 0]])]
def y21 (o0_B:HairBook) (mf:List (Hair_dye×Span)) (m0_B:HairBook) (mf_1:List (Hair_dye×Span)) (cut:(Nat→Int)):List (Nat×Blk):=[(0,.var 81 (hbm o0_B mf)),(1,.var 113 [.yld]),(2,.var 94 [.d (.fn 60)]),(3,.var 57 [.clo 45 [.agg (hbm m0_B mf_1)] []]),(4,.var 113 [.clo 64 [] [.ptr 0 0,.ptr 1 0,.ptr 2 0,.ptr 3 0,.ptr 4 0]]),(5,.var 89 (cfv cut))]
theorem k64 {S_:Type} (fr_:S_→Fr) (c_:(List Int)→(Nat→Int)→S_→Option (S_×Bool)) (hc_:∀ (a0:(List Int)) (a1:(Nat→Int)) s s2 b,c_ a0 a1 s=some (s2,b)→YCall Tryd.prog Gs (fr_ s) [.d (q1 a0),.agg (cfv a1)] (.d (.bool b)) (fr_ s2)):∀ (n_:Nat) (plan:(List Int)) (cut:(Nat→Int)) (o0_B:HairBook) (mf:List (Hair_dye×Span)) (m0_B:HairBook) (mf_1:List (Hair_dye×Span)) (s_:S_) (r:Bool×S_) (h:g64 c_ n_ plan cut o0_B mf m0_B mf_1 s_=some r),SCall Tryd.prog Gs 64 [.d (q1 plan),.agg (cfv cut),.ptr 0 0,.ptr 1 0,.ptr 2 0,.ptr 3 0,.ptr 4 0] [(0,.var 81 (hbm o0_B mf)),(1,.var 113 [.yld]),(2,.var 94 [.d (.fn 60)]),(3,.var 57 [.clo 45 [.agg (hbm m0_B mf_1)] []]),(4,.var 113 [.clo 64 [] [.ptr 0 0,.ptr 1 0,.ptr 2 0,.ptr 3 0,.ptr 4 0]])] 5 (fr_ s_) (match r with | (r0_7,s_5)=>.d (.bool r0_7)) (match r with | (r0_7,s_5)=>[(0,.var 81 (hbm o0_B mf)),(1,.var 113 [.yld]),(2,.var 94 [.d (.fn 60)]),(3,.var 57 [.clo 45 [.agg (hbm m0_B mf_1)] []]),(4,.var 113 [.clo 64 [] [.ptr 0 0,.ptr 1 0,.ptr 2 0,.ptr 3 0,.ptr 4 0]])]) 5 (fr_ (match r with | (r0_7,s_5)=>s_5)):=by
 intro n_
 induction n_ with
 | zero=>intro plan cut o0_B mf m0_B mf_1 s_ r h;cases h
 | succ n_ ih=>
  intro plan cut o0_B mf m0_B mf_1 s_ r h
  rw [g64] at h
  refine SCall.mkK Tryd.func64 c64 rfl rfl (by kernel_rfl) (fun Q_0 hR_0 hN_0=>?_)
  refine Sa ⟨[(0,.d (q1 plan)),pR 2 0,pR 3 1,pR 4 2,pR 5 3,pR 6 4,pR 8 5],(y18 cut o0_B mf m0_B mf_1),6,(fr_ s_),[],5⟩ ?_
  refine AW.scope ?_
  refine AW.srwK (fun Q_1 hQ_1=>?_)
  refine Au 1 ⟨[(0,.d (q1 plan)),pR 2 0,pR 3 1,pR 4 2,pR 5 3,pR 6 4,pR 8 5,(15,.d (q1 plan))],(y18 cut o0_B mf m0_B mf_1),6,(fr_ s_),[],5⟩ ?_
  refine rL rfl ?_
  refine Au 1 ⟨[(0,.d (q1 plan)),pR 2 0,pR 3 1,pR 4 2,pR 5 3,pR 6 4,pR 8 5,(10,jI (plan.length:Int))],(y18 cut o0_B mf m0_B mf_1),6,(fr_ s_),[],5⟩ ?_
  refine RW.nil (hQ_1 _ ?_)
  refine AW.seqK fun K_2 hK_2=>AW.srwK fun Q_3 hQ_3=>?_
  refine Au 4 ⟨[(0,.d (q1 plan)),pR 2 0,pR 3 1,pR 4 2,pR 5 3,pR 6 4,pR 8 5,(10,jI (plan.length:Int)),(17,jI (plan.length:Int)),(20,.d (.sl 3 (List.map e64 o0_B.Horses)))],(y18 cut o0_B mf m0_B mf_1),6,(fr_ s_),[],5⟩ ?_
  refine rL rfl ?_
  refine Au 2 ⟨[(0,.d (q1 plan)),pR 2 0,pR 3 1,pR 4 2,pR 5 3,pR 6 4,pR 8 5,(10,jI (plan.length:Int)),(23,.d (.bool (decide ((plan.length:Int)=(wr (2*(o0_B.Horses.length:Int)))))))],(y18 cut o0_B mf m0_B mf_1),6,(fr_ s_),[],5⟩ ?_
  refine RW.nil (hQ_3 _ ?_)
  refine AW.cond rfl (fun hb_4=>?_) (fun hb_4=>?_)
  ·have h:=ifT hb_4 h
   refine AW.srwK (fun Q_5 hQ_5=>?_)
   refine Au 3 ⟨[(24,.yld),(25,.d (q1 plan)),(26,.agg (cfv cut))],(y19 o0_B mf m0_B mf_1),6,(fr_ s_),[],5⟩ ?_
   obtain ⟨⟨s_1,go⟩,hx_6,h⟩:=bsome h
   refine RW.one fokW (r_yield (zr:=[]) trivial rfl rfl (hc_ plan cut _ _ _ hx_6) trivial ⟨.refl _,.refl _,trivial⟩ rfl rfl rfl rfl (r_end ?_))
   refine Au 1 ⟨[(9,.d (.bool go))],(y19 o0_B mf m0_B mf_1),6,(fr_ s_1),[],5⟩ ?_
   refine RW.nil (hQ_5 _ ?_)
   obtain rfl:=Option.some.inj h
   exact rT hR_0 (.cons (.tmp rfl) .nil)
  ·have h:=ifF hb_4 h
   refine AW.skip (hK_2 _ ?_)
   obtain ⟨need,hx_7,h⟩:=bsome h
   refine AW.jnSK (fun (need:Int)=>⟨[(0,.d (q1 plan)),pR 2 0,pR 4 2,pR 5 3,pR 6 4,pR 8 5,(10,jI (plan.length:Int)),(11,jI need)],(y18 cut o0_B mf m0_B mf_1),6,(fr_ s_),[],5⟩) (c:=need) (fun K_7 hK_7=>?_) ?_
   ·have h:=hx_7
    refine AW.drw fokW ?_
    refine aX 2 ⟨[(0,.d (q1 plan)),pR 2 0,pR 4 2,pR 5 3,pR 6 4,pR 8 5,(10,jI (plan.length:Int)),(29,jI ((plan.length:Int).tmod 2))],(y18 cut o0_B mf m0_B mf_1),6,(fr_ s_),[],5⟩ ?_
    obtain ⟨j,hv_9,h⟩:=bsome h
    rcases j with _ | _ | j
    ·refine r_iaF trivial rfl rfl (ixN_ok hv_9).1 (ixN_ok hv_9).2.1 ?_
     refine r_loadF trivial rfl (u:=.fn 95) (by rw [(ixN_ok hv_9).2.2];rfl) ?_
     refine aX 5 ⟨[(0,.d (q1 plan)),pR 2 0,pR 4 2,pR 5 3,pR 6 4,pR 8 5,(10,jI (plan.length:Int)),(31,.d (.fn 95)),(34,.d (.sl 3 (List.map e64 o0_B.Horses))),(36,jI (wr ((plan.length:Int).tdiv 2)))],(y18 cut o0_B mf m0_B mf_1),6,(fr_ s_),[],5⟩ ?_
     obtain ⟨p,hv_10,h⟩:=bsome h
     refine r_iaD trivial rfl rfl (ixL_ok hv_10).1 (row:=e64 p) (mapget (ixL_ok hv_10).2) ?_
     refine aX 1 ⟨[(0,.d (q1 plan)),pR 2 0,pR 4 2,pR 5 3,pR 6 4,pR 8 5,(10,jI (plan.length:Int)),(31,.d (.fn 95)),(38,.agg [jI p.Mane,jI p.Tail,jI p.Shade])],(y18 cut o0_B mf m0_B mf_1),6,(fr_ s_),[],5⟩ ?_
     obtain ⟨r0,hx_11,h⟩:=bsome h
     refine r_callvZ (zr:=[]) trivial rfl (.fn _) (by kernel_rfl) rfl (k95 p _ hx_11) trivial ⟨.refl _,trivial⟩ rfl rfl rfl rfl ?_
     refine aX 1 ⟨[(0,.d (q1 plan)),pR 2 0,pR 4 2,pR 5 3,pR 6 4,pR 8 5,(10,jI (plan.length:Int)),(11,jI r0)],(y18 cut o0_B mf m0_B mf_1),6,(fr_ s_),[],5⟩ ?_
     refine Fi ⟨[(0,.d (q1 plan)),pR 2 0,pR 4 2,pR 5 3,pR 6 4,pR 8 5,(10,jI (plan.length:Int)),(11,jI r0)],(y18 cut o0_B mf m0_B mf_1),6,(fr_ s_),[],5⟩ ?_
     obtain rfl:=Option.some.inj h
     exact hK_7 _ (Can.kp (by kernel_rfl))
    ·refine r_iaF trivial rfl rfl (ixN_ok hv_9).1 (ixN_ok hv_9).2.1 ?_
     refine r_loadF trivial rfl (u:=.fn 98) (by rw [(ixN_ok hv_9).2.2];rfl) ?_
     refine aX 5 ⟨[(0,.d (q1 plan)),pR 2 0,pR 4 2,pR 5 3,pR 6 4,pR 8 5,(10,jI (plan.length:Int)),(31,.d (.fn 98)),(34,.d (.sl 3 (List.map e64 o0_B.Horses))),(36,jI (wr ((plan.length:Int).tdiv 2)))],(y18 cut o0_B mf m0_B mf_1),6,(fr_ s_),[],5⟩ ?_
     obtain ⟨p1,hv_12,h⟩:=bsome h
     refine r_iaD trivial rfl rfl (ixL_ok hv_12).1 (row:=e64 p1) (mapget (ixL_ok hv_12).2) ?_
     refine aX 1 ⟨[(0,.d (q1 plan)),pR 2 0,pR 4 2,pR 5 3,pR 6 4,pR 8 5,(10,jI (plan.length:Int)),(31,.d (.fn 98)),(38,.agg [jI p1.Mane,jI p1.Tail,jI p1.Shade])],(y18 cut o0_B mf m0_B mf_1),6,(fr_ s_),[],5⟩ ?_
     obtain ⟨r0_1,hx_13,h⟩:=bsome h
     refine r_callvZ (zr:=[]) trivial rfl (.fn _) (by kernel_rfl) rfl (k98 p1 _ hx_13) trivial ⟨.refl _,trivial⟩ rfl rfl rfl rfl ?_
     refine aX 1 ⟨[(0,.d (q1 plan)),pR 2 0,pR 4 2,pR 5 3,pR 6 4,pR 8 5,(10,jI (plan.length:Int)),(11,jI r0_1)],(y18 cut o0_B mf m0_B mf_1),6,(fr_ s_),[],5⟩ ?_
     refine Fi ⟨[(0,.d (q1 plan)),pR 2 0,pR 4 2,pR 5 3,pR 6 4,pR 8 5,(10,jI (plan.length:Int)),(11,jI r0_1)],(y18 cut o0_B mf m0_B mf_1),6,(fr_ s_),[],5⟩ ?_
     obtain rfl:=Option.some.inj h
     exact hK_7 _ (Can.kp (by kernel_rfl))
    ·cases h
   ·refine AW.seq (AW.skip ?_)
    refine AW.seqK fun K_14 hK_14=>AW.srwK fun Q_15 hQ_15=>?_
    refine Au 3 ⟨[(0,.d (q1 plan)),pR 4 2,pR 5 3,pR 6 4,pR 8 5,(10,jI (plan.length:Int)),(11,jI need),(42,.d (.sl 4 (List.map e62 o0_B.Hanks)))],(y18 cut o0_B mf m0_B mf_1),6,(fr_ s_),[],5⟩ ?_
    refine rL rfl ?_
    refine Au 1 ⟨[(0,.d (q1 plan)),pR 4 2,pR 5 3,pR 6 4,pR 8 5,(10,jI (plan.length:Int)),(11,jI need),(42,.d (.sl 4 (List.map e62 o0_B.Hanks))),(43,jI (o0_B.Hanks.length:Int)),(44,jI 0)],(y18 cut o0_B mf m0_B mf_1),6,(fr_ s_),[],5⟩ ?_
    refine RW.nil (hQ_15 _ ?_)
    refine AW.block ?_
    refine AW.sln (t:=42) rfl (fun hN_16=>?_)
    rw [List.length_map] at hN_16
    obtain ⟨out_16,hx_16,hk_16⟩:=bsomeC h
    refine AW.evCK (fun (v:Int) (s_2:S_)=>⟨[(0,.d (q1 plan)),pR 4 2,pR 5 3,pR 6 4,pR 8 5,(10,jI (plan.length:Int)),(11,jI need),(42,.d (.sl 4 (List.map e62 o0_B.Hanks))),(43,jI (o0_B.Hanks.length:Int)),(44,jI v)],(y18 cut o0_B mf m0_B mf_1),6,(fr_ s_2),[],5⟩) (g64_16 (g64 c_ n_) plan cut o0_B mf m0_B mf_1 need) hx_16 (Can.kp (by kernel_rfl)) (fun v p2 s_2 hi_16 hl_16 hp_16 c_16 h hb_16 K_16 hK_16=>?_) (fun v s_2 hi_16 hl_16 hout=>?_)
    ·unfold g64_16 at h
     refine Sa ⟨[(0,.d (q1 plan)),pR 4 2,pR 5 3,pR 6 4,pR 8 5,(10,jI (plan.length:Int)),(11,jI need),(42,.d (.sl 4 (List.map e62 o0_B.Hanks))),(43,jI (o0_B.Hanks.length:Int)),(44,jI v),(45,.d (.bool (decide (v<(o0_B.Hanks.length:Int)))))],(y18 cut o0_B mf m0_B mf_1),6,(fr_ s_2),[],5⟩ ?_
     refine AW.seqK (fun K_17 hK_17=>?_)
     refine AW.cond rfl (fun hb_18=>?_) (fun hb_18=>False.elim (by have:=of_decide_eq_false hb_18;omega))
     refine AW.skip (hK_17 _ ?_)
     refine AW.seqK (fun K_19 hK_19=>?_)
     refine AW.block ?_
     refine AW.srwK (fun Q_20 hQ_20=>?_)
     refine Au 1 ⟨[(0,.d (q1 plan)),pR 4 2,pR 5 3,pR 6 4,pR 8 5,(10,jI (plan.length:Int)),(11,jI need),(42,.d (.sl 4 (List.map e62 o0_B.Hanks))),(43,jI (o0_B.Hanks.length:Int)),(44,jI v),(46,jI v)],(y18 cut o0_B mf m0_B mf_1),6,(fr_ s_2),[],5⟩ ?_
     refine RW.one fokW (r_iaD trivial rfl rfl hi_16 (row:=e62 p2) (mapget hp_16) (r_end ?_))
     refine Au 4 ⟨[(0,.d (q1 plan)),pR 4 2,pR 5 3,pR 6 4,pR 8 5,(10,jI (plan.length:Int)),(11,jI need),(12,jI v),pR 13 6,(42,.d (.sl 4 (List.map e62 o0_B.Hanks))),(43,jI (o0_B.Hanks.length:Int)),(44,jI v)],[(6,.var 62 (cv62 p2)),(5,.var 89 (cfv cut)),(0,.var 81 (hbm o0_B mf)),(1,.var 113 [.yld]),(2,.var 94 [.d (.fn 60)]),(3,.var 57 [.clo 45 [.agg (hbm m0_B mf_1)] []]),(4,.var 113 [.clo 64 [] [.ptr 0 0,.ptr 1 0,.ptr 2 0,.ptr 3 0,.ptr 4 0]])],7,(fr_ s_2),[],5⟩ ?_
     refine RW.nil (hQ_20 _ ?_)
     obtain ⟨c_21,hx_21,hk_21⟩:=bsomeC h
     refine AW.jnK (fun (_:Unit)=>⟨[(0,.d (q1 plan)),pR 4 2,pR 5 3,pR 6 4,pR 8 5,(10,jI (plan.length:Int)),(11,jI need),(12,jI v),(42,.d (.sl 4 (List.map e62 o0_B.Hanks))),(43,jI (o0_B.Hanks.length:Int)),(44,jI v)],(y18 cut o0_B mf m0_B mf_1),7,(fr_ s_2),[],5⟩) (c:=c_21) (fun K_21 hK_21=>?_) (fun j_21 hj_21=>?_)
     ·have h:=hx_21
      refine AW.sdrwK fokW (fun Q_22 hQ_22=>?_)
      refine aX 1 ⟨[(0,.d (q1 plan)),pR 4 2,pR 5 3,pR 6 4,pR 8 5,(10,jI (plan.length:Int)),(11,jI need),(12,jI v),pR 13 6,(42,.d (.sl 4 (List.map e62 o0_B.Hanks))),(43,jI (o0_B.Hanks.length:Int)),(44,jI v),(49,jI v)],[(6,.var 62 (cv62 p2)),(5,.var 89 (cfv cut)),(0,.var 81 (hbm o0_B mf)),(1,.var 113 [.yld]),(2,.var 94 [.d (.fn 60)]),(3,.var 57 [.clo 45 [.agg (hbm m0_B mf_1)] []]),(4,.var 113 [.clo 64 [] [.ptr 0 0,.ptr 1 0,.ptr 2 0,.ptr 3 0,.ptr 4 0]])],7,(fr_ s_2),[],5⟩ ?_
      obtain ⟨j1,hv_23,h⟩:=bsome h
      refine r_iaV trivial rfl rfl rfl (ixN_ok hv_23).1 (ixN_ok hv_23).2.1 ?_
      refine r_loadV trivial rfl rfl (u:=jI (cut j1)) (agt (f:=fun k=>jI (cut k)) hv_23) ?_
      refine aX 6 ⟨[(0,.d (q1 plan)),pR 4 2,pR 5 3,pR 6 4,pR 8 5,(10,jI (plan.length:Int)),(11,jI need),(12,jI v),(42,.d (.sl 4 (List.map e62 o0_B.Hanks))),(43,jI (o0_B.Hanks.length:Int)),(44,jI v),(53,jI (wr ((cut j1)+need))),(55,.d (.fn 60)),(57,.agg [jI p2.Weight.Low,jI p2.Weight.High])],[(6,.var 62 (cv62 p2)),(5,.var 89 (cfv cut)),(0,.var 81 (hbm o0_B mf)),(1,.var 113 [.yld]),(2,.var 94 [.d (.fn 60)]),(3,.var 57 [.clo 45 [.agg (hbm m0_B mf_1)] []]),(4,.var 113 [.clo 64 [] [.ptr 0 0,.ptr 1 0,.ptr 2 0,.ptr 3 0,.ptr 4 0]])],7,(fr_ s_2),[],5⟩ ?_
      obtain ⟨r0_2,hx_24,h⟩:=bsome h
      refine r_callvZ (zr:=[]) trivial rfl (.fn _) (by kernel_rfl) rfl (k60 p2.Weight _ hx_24) trivial ⟨.refl _,trivial⟩ rfl rfl rfl rfl ?_
      refine aX 2 ⟨[(0,.d (q1 plan)),pR 4 2,pR 5 3,pR 6 4,pR 8 5,(10,jI (plan.length:Int)),(11,jI need),(12,jI v),(42,.d (.sl 4 (List.map e62 o0_B.Hanks))),(43,jI (o0_B.Hanks.length:Int)),(44,jI v),(60,.d (.bool (decide (r0_2<(wr ((cut j1)+need))))))],[(6,.var 62 (cv62 p2)),(5,.var 89 (cfv cut)),(0,.var 81 (hbm o0_B mf)),(1,.var 113 [.yld]),(2,.var 94 [.d (.fn 60)]),(3,.var 57 [.clo 45 [.agg (hbm m0_B mf_1)] []]),(4,.var 113 [.clo 64 [] [.ptr 0 0,.ptr 1 0,.ptr 2 0,.ptr 3 0,.ptr 4 0]])],7,(fr_ s_2),[],5⟩ ?_
      refine r_split 60 rfl (fun hb_25=>?_) (fun hb_25=>?_)
      ·have h:=ifT hb_25 h
       refine aX 17 ⟨[(0,.d (q1 plan)),pR 4 2,pR 5 3,pR 6 4,pR 8 5,(10,jI (plan.length:Int)),(11,jI need),(12,jI v),(42,.d (.sl 4 (List.map e62 o0_B.Hanks))),(43,jI (o0_B.Hanks.length:Int)),(44,jI v),(77,.d (.bool true))],[(6,.var 62 (cv62 p2)),(5,.var 89 (cfv cut)),(0,.var 81 (hbm o0_B mf)),(1,.var 113 [.yld]),(2,.var 94 [.d (.fn 60)]),(3,.var 57 [.clo 45 [.agg (hbm m0_B mf_1)] []]),(4,.var 113 [.clo 64 [] [.ptr 0 0,.ptr 1 0,.ptr 2 0,.ptr 3 0,.ptr 4 0]])],7,(fr_ s_2),[],5⟩ ?_
       refine Fi ⟨[(0,.d (q1 plan)),pR 4 2,pR 5 3,pR 6 4,pR 8 5,(10,jI (plan.length:Int)),(11,jI need),(12,jI v),(42,.d (.sl 4 (List.map e62 o0_B.Hanks))),(43,jI (o0_B.Hanks.length:Int)),(44,jI v),(77,.d (.bool true))],(y18 cut o0_B mf m0_B mf_1),7,(fr_ s_2),[],5⟩ ?_
       refine hQ_22 _ ?_
       refine AW.condT rfl ?_
       refine AW.exit ?_
       refine hK_19 _ ?_
       refine Ra ⟨[(0,.d (q1 plan)),pR 4 2,pR 5 3,pR 6 4,pR 8 5,(10,jI (plan.length:Int)),(11,jI need),(42,.d (.sl 4 (List.map e62 o0_B.Hanks))),(43,jI (o0_B.Hanks.length:Int)),(44,jI (wr (v+1)))],(y18 cut o0_B mf m0_B mf_1),7,(fr_ s_2),[],5⟩ ?_
       obtain rfl:=Option.some.inj h
       obtain rfl:=Aft.bk hk_21
       have ew:wr (v+1)=v+1:=inext (N:=(o0_B.Hanks.length:Int)) (by omega) (by omega) (by omega)
       rw [ew]
       exact hK_16 _ _ rfl (Can.kp (by kernel_rfl))
      ·have h:=ifF hb_25 h
       refine aX 4 ⟨[(0,.d (q1 plan)),pR 4 2,pR 5 3,pR 6 4,pR 8 5,(10,jI (plan.length:Int)),(11,jI need),(12,jI v),(42,.d (.sl 4 (List.map e62 o0_B.Hanks))),(43,jI (o0_B.Hanks.length:Int)),(44,jI v),(60,.d (.bool false)),(64,.d (.bool (decide (((plan.length:Int).tmod 2)=1))))],[(6,.var 62 (cv62 p2)),(5,.var 89 (cfv cut)),(0,.var 81 (hbm o0_B mf)),(1,.var 113 [.yld]),(2,.var 94 [.d (.fn 60)]),(3,.var 57 [.clo 45 [.agg (hbm m0_B mf_1)] []]),(4,.var 113 [.clo 64 [] [.ptr 0 0,.ptr 1 0,.ptr 2 0,.ptr 3 0,.ptr 4 0]])],7,(fr_ s_2),[],5⟩ ?_
       refine r_split 64 rfl (fun hb_26=>?_) (fun hb_26=>?_)
       ·have h:=ifT hb_26 h
        refine aX 6 ⟨[(0,.d (q1 plan)),pR 4 2,pR 5 3,pR 6 4,pR 8 5,(10,jI (plan.length:Int)),(11,jI need),(12,jI v),(42,.d (.sl 4 (List.map e62 o0_B.Hanks))),(43,jI (o0_B.Hanks.length:Int)),(44,jI v),(60,.d (.bool false)),(64,.d (.bool true)),(65,.clo 45 [.agg (hbm m0_B mf_1)] []),(67,jI (wr ((plan.length:Int).tdiv 2))),(68,.d (q1 plan)),(70,jI (wr ((plan.length:Int) - 1)))],[(6,.var 62 (cv62 p2)),(5,.var 89 (cfv cut)),(0,.var 81 (hbm o0_B mf)),(1,.var 113 [.yld]),(2,.var 94 [.d (.fn 60)]),(3,.var 57 [.clo 45 [.agg (hbm m0_B mf_1)] []]),(4,.var 113 [.clo 64 [] [.ptr 0 0,.ptr 1 0,.ptr 2 0,.ptr 3 0,.ptr 4 0]])],7,(fr_ s_2),[],5⟩ ?_
        obtain ⟨p3,hv_27,h⟩:=bsome h
        refine r_iaD rfl rfl rfl (ixL_ok hv_27).1 (row:=e3 p3) (mapget (ixL_ok hv_27).2) ?_
        refine aX 2 ⟨[(0,.d (q1 plan)),pR 4 2,pR 5 3,pR 6 4,pR 8 5,(10,jI (plan.length:Int)),(11,jI need),(12,jI v),(42,.d (.sl 4 (List.map e62 o0_B.Hanks))),(43,jI (o0_B.Hanks.length:Int)),(44,jI v),(60,.d (.bool false)),(64,.d (.bool true)),(65,.clo 45 [.agg (hbm m0_B mf_1)] []),(67,jI (wr ((plan.length:Int).tdiv 2))),(72,jI p3),(73,jI v)],[(6,.var 62 (cv62 p2)),(5,.var 89 (cfv cut)),(0,.var 81 (hbm o0_B mf)),(1,.var 113 [.yld]),(2,.var 94 [.d (.fn 60)]),(3,.var 57 [.clo 45 [.agg (hbm m0_B mf_1)] []]),(4,.var 113 [.clo 64 [] [.ptr 0 0,.ptr 1 0,.ptr 2 0,.ptr 3 0,.ptr 4 0]])],7,(fr_ s_2),[],5⟩ ?_
        obtain ⟨r0_3,hx_28,h⟩:=bsome h
        refine r_callvZ (zr:=[]) rfl rfl (.clo _ _ _) (by kernel_rfl) rfl (k45 m0_B mf_1 (wr ((plan.length:Int).tdiv 2)) p3 v _ hx_28) trivial ⟨.refl _,.refl _,.refl _,.refl _,trivial⟩ rfl rfl rfl rfl ?_
        refine aX 3 ⟨[(0,.d (q1 plan)),pR 4 2,pR 5 3,pR 6 4,pR 8 5,(10,jI (plan.length:Int)),(11,jI need),(12,jI v),(42,.d (.sl 4 (List.map e62 o0_B.Hanks))),(43,jI (o0_B.Hanks.length:Int)),(44,jI v),(77,.d (.bool (!r0_3)))],[(6,.var 62 (cv62 p2)),(5,.var 89 (cfv cut)),(0,.var 81 (hbm o0_B mf)),(1,.var 113 [.yld]),(2,.var 94 [.d (.fn 60)]),(3,.var 57 [.clo 45 [.agg (hbm m0_B mf_1)] []]),(4,.var 113 [.clo 64 [] [.ptr 0 0,.ptr 1 0,.ptr 2 0,.ptr 3 0,.ptr 4 0]])],7,(fr_ s_2),[],5⟩ ?_
        refine Fi ⟨[(0,.d (q1 plan)),pR 4 2,pR 5 3,pR 6 4,pR 8 5,(10,jI (plan.length:Int)),(11,jI need),(12,jI v),(42,.d (.sl 4 (List.map e62 o0_B.Hanks))),(43,jI (o0_B.Hanks.length:Int)),(44,jI v),(77,.d (.bool (!r0_3)))],(y18 cut o0_B mf m0_B mf_1),7,(fr_ s_2),[],5⟩ ?_
        refine hQ_22 _ ?_
        refine AW.cond rfl (fun hb_29=>?_) (fun hb_29=>?_)
        ·have h:=ifT hb_29 h
         refine AW.exit ?_
         refine hK_19 _ ?_
         refine Ra ⟨[(0,.d (q1 plan)),pR 4 2,pR 5 3,pR 6 4,pR 8 5,(10,jI (plan.length:Int)),(11,jI need),(42,.d (.sl 4 (List.map e62 o0_B.Hanks))),(43,jI (o0_B.Hanks.length:Int)),(44,jI (wr (v+1)))],(y18 cut o0_B mf m0_B mf_1),7,(fr_ s_2),[],5⟩ ?_
         obtain rfl:=Option.some.inj h
         obtain rfl:=Aft.bk hk_21
         have ew:wr (v+1)=v+1:=inext (N:=(o0_B.Hanks.length:Int)) (by omega) (by omega) (by omega)
         rw [ew]
         exact hK_16 _ _ rfl (Can.kp (by kernel_rfl))
        ·have h:=ifF hb_29 h
         refine AW.skip ?_
         obtain rfl:=Option.some.inj h
         exact hK_21 _ _ rfl (Can.kp (by kernel_rfl))
       ·have h:=ifF hb_26 h
        refine aX 13 ⟨[(0,.d (q1 plan)),pR 4 2,pR 5 3,pR 6 4,pR 8 5,(10,jI (plan.length:Int)),(11,jI need),(12,jI v),(42,.d (.sl 4 (List.map e62 o0_B.Hanks))),(43,jI (o0_B.Hanks.length:Int)),(44,jI v),(77,.d (.bool false))],[(6,.var 62 (cv62 p2)),(5,.var 89 (cfv cut)),(0,.var 81 (hbm o0_B mf)),(1,.var 113 [.yld]),(2,.var 94 [.d (.fn 60)]),(3,.var 57 [.clo 45 [.agg (hbm m0_B mf_1)] []]),(4,.var 113 [.clo 64 [] [.ptr 0 0,.ptr 1 0,.ptr 2 0,.ptr 3 0,.ptr 4 0]])],7,(fr_ s_2),[],5⟩ ?_
        refine Fi ⟨[(0,.d (q1 plan)),pR 4 2,pR 5 3,pR 6 4,pR 8 5,(10,jI (plan.length:Int)),(11,jI need),(12,jI v),(42,.d (.sl 4 (List.map e62 o0_B.Hanks))),(43,jI (o0_B.Hanks.length:Int)),(44,jI v),(77,.d (.bool false))],(y18 cut o0_B mf m0_B mf_1),7,(fr_ s_2),[],5⟩ ?_
        refine hQ_22 _ ?_
        refine AW.condF rfl ?_
        refine AW.skip ?_
        obtain rfl:=Option.some.inj h
        exact hK_21 _ _ rfl (Can.kp (by kernel_rfl))
     ·subst hj_21
      have h:=Aft.nx hk_21
      refine Sa ⟨[(0,.d (q1 plan)),pR 4 2,pR 5 3,pR 6 4,pR 8 5,(10,jI (plan.length:Int)),(11,jI need),(12,jI v),pR 14 7,(42,.d (.sl 4 (List.map e62 o0_B.Hanks))),(43,jI (o0_B.Hanks.length:Int)),(44,jI v)],(y20 cut o0_B mf m0_B mf_1),8,(fr_ s_2),[],5⟩ ?_
      refine AW.srwK (fun Q_30 hQ_30=>?_)
      refine Au 1 ⟨[(0,.d (q1 plan)),pR 4 2,pR 5 3,pR 6 4,pR 8 5,(10,jI (plan.length:Int)),(11,jI need),(12,jI v),pR 14 7,(42,.d (.sl 4 (List.map e62 o0_B.Hanks))),(43,jI (o0_B.Hanks.length:Int)),(44,jI v),(79,jI v)],(y20 cut o0_B mf m0_B mf_1),8,(fr_ s_2),[],5⟩ ?_
      obtain ⟨j2,hv_31,h⟩:=bsome h
      refine RW.one fokW (r_iaV trivial rfl rfl rfl (ixN_ok hv_31).1 (ixN_ok hv_31).2.1 (r_end ?_))
      refine RW.one fokW (r_loadV trivial rfl rfl (u:=jI (cut j2)) (agt (f:=fun k=>jI (cut k)) hv_31) (r_end ?_))
      refine Au 2 ⟨[(0,.d (q1 plan)),pR 4 2,pR 5 3,pR 6 4,pR 8 5,(10,jI (plan.length:Int)),(11,jI need),(12,jI v),pR 14 7,(42,.d (.sl 4 (List.map e62 o0_B.Hanks))),(43,jI (o0_B.Hanks.length:Int)),(44,jI v),(79,jI v),(83,jI (wr ((cut j2)+need)))],(y20 cut o0_B mf m0_B mf_1),8,(fr_ s_2),[],5⟩ ?_
      obtain ⟨j3,hv_32,h⟩:=bsome h
      refine RW.one fokW (r_iaV trivial rfl rfl rfl (ixN_ok hv_32).1 (ixN_ok hv_32).2.1 (r_end ?_))
      refine RW.one fokW (r_stX trivial rfl rfl rfl rfl rfl (aslot hv_32 rfl) (cs':=[jI ((aset cut j3 (wr ((cut j2)+need))) 0),jI ((aset cut j3 (wr ((cut j2)+need))) 1),jI ((aset cut j3 (wr ((cut j2)+need))) 2),jI ((aset cut j3 (wr ((cut j2)+need))) 3),jI ((aset cut j3 (wr ((cut j2)+need))) 4)]) (ast (w:=cut) (c:=fun z=>jI z) hv_32) (r_end ?_))
      refine RW.nil (hQ_30 _ ?_)
      refine AW.sdrwK fokW (fun Q_33 hQ_33=>?_)
      refine aX 4 ⟨[(0,.d (q1 plan)),pR 4 2,pR 5 3,pR 6 4,pR 8 5,(10,jI (plan.length:Int)),(11,jI need),(12,jI v),pR 14 7,(42,.d (.sl 4 (List.map e62 o0_B.Hanks))),(43,jI (o0_B.Hanks.length:Int)),(44,jI v),(85,.clo 64 [] [.ptr 0 0,.ptr 1 0,.ptr 2 0,.ptr 3 0,.ptr 4 0]),(86,.d (q1 plan)),(87,jI (plan.length:Int)),(88,jI (plan.length:Int))],[(7,.var 89 [jI ((aset cut j3 (wr ((cut j2)+need))) 0),jI ((aset cut j3 (wr ((cut j2)+need))) 1),jI ((aset cut j3 (wr ((cut j2)+need))) 2),jI ((aset cut j3 (wr ((cut j2)+need))) 3),jI ((aset cut j3 (wr ((cut j2)+need))) 4)]),(5,.var 89 (cfv cut)),(0,.var 81 (hbm o0_B mf)),(1,.var 113 [.yld]),(2,.var 94 [.d (.fn 60)]),(3,.var 57 [.clo 45 [.agg (hbm m0_B mf_1)] []]),(4,.var 113 [.clo 64 [] [.ptr 0 0,.ptr 1 0,.ptr 2 0,.ptr 3 0,.ptr 4 0]])],8,(fr_ s_2),[],5⟩ ?_
      obtain ⟨l,hv_34,h⟩:=bsome h
      refine r_slN trivial rfl rfl rfl DSl.d (slcL_ok hv_34).2.1 (by rw [List.length_map];exact (slcL_ok hv_34).2.2.1) rfl (slz hv_34 e3) ?_
      refine aX 2 ⟨[(0,.d (q1 plan)),pR 4 2,pR 5 3,pR 6 4,pR 8 5,(10,jI (plan.length:Int)),(11,jI need),pR 14 7,(42,.d (.sl 4 (List.map e62 o0_B.Hanks))),(43,jI (o0_B.Hanks.length:Int)),(44,jI v),(85,.clo 64 [] [.ptr 0 0,.ptr 1 0,.ptr 2 0,.ptr 3 0,.ptr 4 0]),(89,.fsl 1 (List.map e3 l)),(91,.own 8 (List.map e3 [v]).length)],[(8,.row 3 1 (List.map e3 [v])),(7,.var 89 [jI ((aset cut j3 (wr ((cut j2)+need))) 0),jI ((aset cut j3 (wr ((cut j2)+need))) 1),jI ((aset cut j3 (wr ((cut j2)+need))) 2),jI ((aset cut j3 (wr ((cut j2)+need))) 3),jI ((aset cut j3 (wr ((cut j2)+need))) 4)]),(5,.var 89 (cfv cut)),(0,.var 81 (hbm o0_B mf)),(1,.var 113 [.yld]),(2,.var 94 [.d (.fn 60)]),(3,.var 57 [.clo 45 [.agg (hbm m0_B mf_1)] []]),(4,.var 113 [.clo 64 [] [.ptr 0 0,.ptr 1 0,.ptr 2 0,.ptr 3 0,.ptr 4 0]])],9,(fr_ s_2),[],5⟩ ?_
      obtain ⟨l1,hv_35,h⟩:=bsome h
      refine r_apF trivial rfl rfl rfl rfl (by simp) (zs:=List.map e3 l1) (apz hv_35 e3) (apr hv_35 e3) ?_
      refine aX 1 ⟨[(0,.d (q1 plan)),pR 4 2,pR 5 3,pR 6 4,pR 8 5,(10,jI (plan.length:Int)),(11,jI need),(42,.d (.sl 4 (List.map e62 o0_B.Hanks))),(43,jI (o0_B.Hanks.length:Int)),(44,jI v),(85,.clo 64 [] [.ptr 0 0,.ptr 1 0,.ptr 2 0,.ptr 3 0,.ptr 4 0]),(92,.own 9 (List.map e3 l1).length),(93,.agg [jI ((aset cut j3 (wr ((cut j2)+need))) 0),jI ((aset cut j3 (wr ((cut j2)+need))) 1),jI ((aset cut j3 (wr ((cut j2)+need))) 2),jI ((aset cut j3 (wr ((cut j2)+need))) 3),jI ((aset cut j3 (wr ((cut j2)+need))) 4)])],[(9,.row 3 1 (List.map e3 l1)),(8,.row 3 1 (List.map e3 [v])),(7,.var 89 [jI ((aset cut j3 (wr ((cut j2)+need))) 0),jI ((aset cut j3 (wr ((cut j2)+need))) 1),jI ((aset cut j3 (wr ((cut j2)+need))) 2),jI ((aset cut j3 (wr ((cut j2)+need))) 3),jI ((aset cut j3 (wr ((cut j2)+need))) 4)]),(5,.var 89 (cfv cut)),(0,.var 81 (hbm o0_B mf)),(1,.var 113 [.yld]),(2,.var 94 [.d (.fn 60)]),(3,.var 57 [.clo 45 [.agg (hbm m0_B mf_1)] []]),(4,.var 113 [.clo 64 [] [.ptr 0 0,.ptr 1 0,.ptr 2 0,.ptr 3 0,.ptr 4 0]])],10,(fr_ s_2),[],5⟩ ?_
      obtain ⟨⟨r0_7_1,s_5_1⟩,hx_36,h⟩:=bsome h
      refine r_callvS (zr:=[(9,.row 3 1 (List.map e3 l1))]) [0,1,2,3,4] trivial rfl (.clo _ _ _) (by kernel_rfl) rfl (ih l1 (aset cut j3 (wr ((cut j2)+need))) o0_B mf m0_B mf_1 s_2 _ hx_36) ⟨rfl,rfl,rfl,rfl,rfl,rfl,trivial⟩ rfl rfl ⟨(.own rfl rfl),.refl _,.refl _,.refl _,.refl _,.refl _,.refl _,trivial⟩ rfl rfl rfl ?_
      refine aX 1 ⟨[(0,.d (q1 plan)),pR 4 2,pR 5 3,pR 6 4,pR 8 5,(10,jI (plan.length:Int)),(11,jI need),(42,.d (.sl 4 (List.map e62 o0_B.Hanks))),(43,jI (o0_B.Hanks.length:Int)),(44,jI v),(95,.d (.bool (!r0_7_1)))],[(0,.var 81 (hbm o0_B mf)),(1,.var 113 [.yld]),(2,.var 94 [.d (.fn 60)]),(3,.var 57 [.clo 45 [.agg (hbm m0_B mf_1)] []]),(4,.var 113 [.clo 64 [] [.ptr 0 0,.ptr 1 0,.ptr 2 0,.ptr 3 0,.ptr 4 0]]),(9,.dead),(8,.row 3 1 (List.map e3 [v])),(7,.var 89 [jI ((aset cut j3 (wr ((cut j2)+need))) 0),jI ((aset cut j3 (wr ((cut j2)+need))) 1),jI ((aset cut j3 (wr ((cut j2)+need))) 2),jI ((aset cut j3 (wr ((cut j2)+need))) 3),jI ((aset cut j3 (wr ((cut j2)+need))) 4)]),(5,.var 89 (cfv cut))],10,(fr_ s_5_1),[],5⟩ ?_
      refine Fi ⟨[(0,.d (q1 plan)),pR 4 2,pR 5 3,pR 6 4,pR 8 5,(10,jI (plan.length:Int)),(11,jI need),(42,.d (.sl 4 (List.map e62 o0_B.Hanks))),(43,jI (o0_B.Hanks.length:Int)),(44,jI v),(95,.d (.bool (!r0_7_1)))],(y21 o0_B mf m0_B mf_1 cut),10,(fr_ s_5_1),[],5⟩ ?_
      refine hQ_33 _ ?_
      refine AW.cond rfl (fun hb_37=>?_) (fun hb_37=>?_)
      ·have h:=ifT hb_37 h
       refine Sa ⟨[(9,.d (.bool false))],(y19 o0_B mf m0_B mf_1),10,(fr_ s_5_1),[],5⟩ ?_
       obtain rfl:=Option.some.inj h
       have e_1:=hb_16 _ rfl
       subst e_1
       obtain rfl:=Aft.bk hk_16
       exact rT hR_0 (.cons (.tmp rfl) .nil)
      ·have h:=ifF hb_37 h
       refine AW.skip (hK_19 _ ?_)
       refine Ra ⟨[(0,.d (q1 plan)),pR 4 2,pR 5 3,pR 6 4,pR 8 5,(10,jI (plan.length:Int)),(11,jI need),(42,.d (.sl 4 (List.map e62 o0_B.Hanks))),(43,jI (o0_B.Hanks.length:Int)),(44,jI (wr (v+1)))],(y21 o0_B mf m0_B mf_1 cut),10,(fr_ s_5_1),[],5⟩ ?_
       obtain rfl:=Option.some.inj h
       have ew:wr (v+1)=v+1:=inext (N:=(o0_B.Hanks.length:Int)) (by omega) (by omega) (by omega)
       rw [ew]
       exact hK_16 _ _ rfl (Can.kp (by kernel_rfl))
    ·subst hout
     have h:=Aft.nx hk_16
     refine Sa ⟨[(0,.d (q1 plan)),pR 4 2,pR 5 3,pR 6 4,pR 8 5,(10,jI (plan.length:Int)),(11,jI need),(42,.d (.sl 4 (List.map e62 o0_B.Hanks))),(43,jI (o0_B.Hanks.length:Int)),(44,jI v),(45,.d (.bool (decide (v<(o0_B.Hanks.length:Int)))))],(y18 cut o0_B mf m0_B mf_1),6,(fr_ s_2),[],5⟩ ?_
     refine AW.seqK (fun K_38 hK_38=>?_)
     refine AW.cond rfl (fun hb_39=>False.elim (by have:=of_decide_eq_true hb_39;omega)) (fun hb_39=>?_)
     refine AW.exit ?_
     refine hK_14 _ ?_
     refine Sa ⟨[(9,.d (.bool true))],(y19 o0_B mf m0_B mf_1),6,(fr_ s_2),[],5⟩ ?_
     obtain rfl:=Option.some.inj h
     exact rT hR_0 (.cons (.tmp rfl) .nil)
def g63 {S_:Type} (c_:(List Int)→(Nat→Int)→S_→Option (S_×Bool)) (o0_B:HairBook) (mf:List (Hair_dye×Span)) (m0_B:HairBook) (mf_1:List (Hair_dye×Span)) (s_:S_):Option S_:=(g59).bind fun r0=>(g64 c_ 1000 ([]:(List Int)) r0 o0_B mf m0_B mf_1 s_).bind fun (r0_7,s_5)=>some s_5
def y22 (o0_B:HairBook) (mf:List (Hair_dye×Span)) (m0_B:HairBook) (mf_1:List (Hair_dye×Span)):List (Nat×Blk):=[(4,.var 113 [.clo 64 [] [.ptr 0 0,.ptr 3 0,.ptr 1 0,.ptr 2 0,.ptr 4 0]]),(3,.var 113 [.yld]),(0,.var 81 (hbm o0_B mf)),(1,.var 94 [.d (.fn 60)]),(2,.var 57 [.clo 45 [.agg (hbm m0_B mf_1)] []])]
theorem k63 {S_:Type} (fr_:S_→Fr) (c_:(List Int)→(Nat→Int)→S_→Option (S_×Bool)) (hc_:∀ (a0:(List Int)) (a1:(Nat→Int)) s s2 b,c_ a0 a1 s=some (s2,b)→YCall Tryd.prog Gs (fr_ s) [.d (q1 a0),.agg (cfv a1)] (.d (.bool b)) (fr_ s2)) (o0_B:HairBook) (mf:List (Hair_dye×Span)) (m0_B:HairBook) (mf_1:List (Hair_dye×Span)) (s_:S_) (r:S_) (h:g63 c_ o0_B mf m0_B mf_1 s_=some r):SCall Tryd.prog Gs 63 [.yld,.ptr 0 0,.ptr 1 0,.ptr 2 0] [(0,.var 81 (hbm o0_B mf)),(1,.var 94 [.d (.fn 60)]),(2,.var 57 [.clo 45 [.agg (hbm m0_B mf_1)] []])] 3 (fr_ s_) (.tup []) [(0,.var 81 (hbm o0_B mf)),(1,.var 94 [.d (.fn 60)]),(2,.var 57 [.clo 45 [.agg (hbm m0_B mf_1)] []])] 3 (fr_ r):=by
 unfold g63 at h
 refine SCall.mkK Tryd.func63 c63 rfl rfl (by kernel_rfl) (fun Q_0 hR_0 hN_0=>?_)
 refine Sa ⟨[pR 1 0,pR 2 1,pR 3 2,pR 4 3],[(3,.var 113 [.yld]),(0,.var 81 (hbm o0_B mf)),(1,.var 94 [.d (.fn 60)]),(2,.var 57 [.clo 45 [.agg (hbm m0_B mf_1)] []])],4,(fr_ s_),[],3⟩ ?_
 refine Sa ⟨[pR 1 0,pR 2 1,pR 3 2,pR 4 3,pR 5 4],[(4,.var 113 [.d (.nilFn)]),(3,.var 113 [.yld]),(0,.var 81 (hbm o0_B mf)),(1,.var 94 [.d (.fn 60)]),(2,.var 57 [.clo 45 [.agg (hbm m0_B mf_1)] []])],5,(fr_ s_),[],3⟩ ?_
 refine Sa ⟨[pR 5 4],(y22 o0_B mf m0_B mf_1),5,(fr_ s_),[],3⟩ ?_
 refine AW.drw fokW ?_
 refine aX 1 ⟨[(7,.clo 64 [] [.ptr 0 0,.ptr 3 0,.ptr 1 0,.ptr 2 0,.ptr 4 0])],(y22 o0_B mf m0_B mf_1),5,(fr_ s_),[],3⟩ ?_
 obtain ⟨r0,hx_2,h⟩:=bsome h
 refine r_call trivial rfl (k59 _ hx_2) rfl rfl ?_
 obtain ⟨⟨r0_7,s_5⟩,hx_3,h⟩:=bsome h
 refine r_callvS (zr:=[]) [0,3,1,2,4] trivial rfl (.clo _ _ _) (by kernel_rfl) rfl (k64 fr_ c_ hc_ 1000 ([]:(List Int)) r0 o0_B mf m0_B mf_1 s_ _ hx_3) ⟨rfl,rfl,rfl,rfl,rfl,trivial⟩ rfl rfl ⟨(.nil 1),.refl _,.refl _,.refl _,.refl _,.refl _,.refl _,trivial⟩ rfl rfl rfl ?_
 refine Fi ⟨[],[(0,.var 81 (hbm o0_B mf)),(1,.var 94 [.d (.fn 60)]),(2,.var 57 [.clo 45 [.agg (hbm m0_B mf_1)] []])],5,(fr_ s_5),[],3⟩ ?_
 obtain rfl:=Option.some.inj h
 exact hN_0 _ (retX .nil (.refl _) rfl (by kernel_rfl) (by kernel_rfl))
def g40 :Option Unit:=some ()
theorem k40  (r:Unit) (h:g40=some r):SCall Tryd.prog Gs 40 [] [] 0 Fr.emp (.agg [.d (.fn 61)]) [] 0 Fr.emp:=by
 unfold g40 at h
 refine SCall.mkK Tryd.func40 c40 rfl rfl (by kernel_rfl) (fun Q_0 hR_0 hN_0=>?_)
 refine Sa (sT [pR 0 0] [(0,.var 94 [.d (.nilFn)])] 1 0) ?_
 refine Sa (sT [pR 0 0] [(0,.var 94 [.d (.fn 61)])] 1 0) ?_
 obtain rfl:=Option.some.inj h
 exact rT hR_0 (.cons (.agg rfl rfl (Nat.le_of_ble_eq_true rfl)) .nil)
def g61 (s:Span):Option Int:=some s.High
theorem k61 (s:Span) (r:Int) (h:g61 s=some r):SCall Tryd.prog Gs 61 [.agg [jI s.Low,jI s.High]] [] 0 Fr.emp (jI r) [] 0 Fr.emp:=by
 unfold g61 at h
 refine SCall.mkK Tryd.func61 c61 rfl rfl (by kernel_rfl) (fun Q_0 hR_0 hN_0=>?_)
 refine Sa (sT [pR 1 0] [(0,.var 47 [jI s.Low,jI s.High])] 1 0) ?_
 refine Sa (sT [(2,jI s.High)] [] 1 0) ?_
 obtain rfl:=Option.some.inj h
 exact rT hR_0 (.cons (.tmp rfl) .nil)
def g38_7 (cut:(Nat→Int)):Int→HairHank→Int→Option Int:=fun v p n=>(ixN 5 v).bind fun j=>bif (decide (0<(cut j))) then ((g61 p.Weight).bind fun r0_1=>(ixN 5 v).bind fun j1=>some (wr (n+(wr (r0_1 - (cut j1)))))) else (some n)
def g38 (b_B:HairBook) (mf:List (Hair_dye×Span)) (cut:(Nat→Int)):Option Int:=(g59).bind fun r0=>bif (false != (((cut 0)==(r0 0))&&(((cut 1)==(r0 1))&&(((cut 2)==(r0 2))&&(((cut 3)==(r0 3))&&(((cut 4)==(r0 4))&&true)))))) then (some 0) else ((eachS (g38_7 cut) b_B.Hanks 0 0).bind fun n=>some n)
def y23 (cut:(Nat→Int)) (b_B:HairBook) (mf:List (Hair_dye×Span)):List (Nat×Blk):=[(2,.var 94 [.d (.fn 61)]),(1,.var 89 (cfv cut)),(0,.var 81 (hbm b_B mf))]
theorem k38 (b_B:HairBook) (mf:List (Hair_dye×Span)) (cut:(Nat→Int)) (r:Int) (h:g38 b_B mf cut=some r):SCall Tryd.prog Gs 38 [.agg (hbm b_B mf),.agg (cfv cut),.agg [.d (.fn 61)]] [] 0 Fr.emp (jI r) [] 0 Fr.emp:=by
 unfold g38 at h
 refine SCall.mkK Tryd.func38 c38 rfl rfl (by kernel_rfl) (fun Q_0 hR_0 hN_0=>?_)
 refine Sa (sT [pR 3 0,pR 4 1,pR 5 2] (y23 cut b_B mf) 3 0) ?_
 refine Sa (sT [pR 3 0,pR 4 1,pR 5 2,(7,jI 0)] (y23 cut b_B mf) 3 0) ?_
 refine AW.seqK (fun K_1 hK_1=>?_)
 refine AW.sdrwK fokW (fun Q_2 hQ_2=>?_)
 refine aX 1 (sT [pR 3 0,pR 4 1,pR 5 2,(7,jI 0),(10,.agg (cfv cut))] (y23 cut b_B mf) 3 0) ?_
 obtain ⟨r0,hx_3,h⟩:=bsome h
 refine r_call trivial rfl (k59 _ hx_3) rfl rfl ?_
 refine r_aeq trivial rfl rfl rfl rfl ft89 rfl rfl rfl ?_
 refine Fi (sT [pR 3 0,pR 4 1,pR 5 2,(7,jI 0),(12,.d (.bool (false != (((cut 0)==(r0 0))&&(((cut 1)==(r0 1))&&(((cut 2)==(r0 2))&&(((cut 3)==(r0 3))&&(((cut 4)==(r0 4))&&true))))))))] (y23 cut b_B mf) 3 0) ?_
 refine hQ_2 _ ?_
 refine AW.cond rfl (fun hb_4=>?_) (fun hb_4=>?_)
 ·have h:=ifT hb_4 h
  refine Sa (sT [(6,jI 0)] [] 3 0) ?_
  obtain rfl:=Option.some.inj h
  exact rT hR_0 (.cons (.tmp rfl) .nil)
 ·have h:=ifF hb_4 h
  refine AW.skip (hK_1 _ ?_)
  refine AW.seqK fun K_5 hK_5=>AW.srwK fun Q_6 hQ_6=>?_
  refine Au 3 (sT [pR 4 1,pR 5 2,(7,jI 0),(16,.d (.sl 4 (List.map e62 b_B.Hanks)))] [(2,.var 94 [.d (.fn 61)]),(1,.var 89 (cfv cut))] 3 0) ?_
  refine rL rfl ?_
  refine Au 1 (sT [pR 4 1,pR 5 2,(7,jI 0),(16,.d (.sl 4 (List.map e62 b_B.Hanks))),(17,jI (b_B.Hanks.length:Int)),(18,jI 0)] [(2,.var 94 [.d (.fn 61)]),(1,.var 89 (cfv cut))] 3 0) ?_
  refine RW.nil (hQ_6 _ ?_)
  refine AW.block ?_
  refine AW.sln (t:=16) rfl (fun hN_7=>?_)
  rw [List.length_map] at hN_7
  obtain ⟨out_7,hx_7,h⟩:=bsome h
  refine AW.evSK (fun (v:Int) (n:Int)=>(sT [pR 4 1,pR 5 2,(7,jI n),(16,.d (.sl 4 (List.map e62 b_B.Hanks))),(17,jI (b_B.Hanks.length:Int)),(18,jI v)] [(2,.var 94 [.d (.fn 61)]),(1,.var 89 (cfv cut))] 3 0)) (g38_7 cut) hx_7 (Can.kp (by kernel_rfl)) (fun v p n hi_7 hl_7 hp_7 c_7 h K_7 hK_7=>?_) (fun v n hi_7 hl_7 hout=>?_)
  ·unfold g38_7 at h
   refine Sa (sT [pR 4 1,pR 5 2,(7,jI n),(16,.d (.sl 4 (List.map e62 b_B.Hanks))),(17,jI (b_B.Hanks.length:Int)),(18,jI v),(19,.d (.bool (decide (v<(b_B.Hanks.length:Int)))))] [(2,.var 94 [.d (.fn 61)]),(1,.var 89 (cfv cut))] 3 0) ?_
   refine AW.seqK (fun K_8 hK_8=>?_)
   refine AW.cond rfl (fun hb_9=>?_) (fun hb_9=>False.elim (by have:=of_decide_eq_false hb_9;omega))
   refine AW.skip (hK_8 _ ?_)
   refine AW.seqK (fun K_10 hK_10=>?_)
   refine AW.block ?_
   refine AW.srwK (fun Q_11 hQ_11=>?_)
   refine Au 1 (sT [pR 4 1,pR 5 2,(7,jI n),(16,.d (.sl 4 (List.map e62 b_B.Hanks))),(17,jI (b_B.Hanks.length:Int)),(18,jI v),(20,jI v)] [(2,.var 94 [.d (.fn 61)]),(1,.var 89 (cfv cut))] 3 0) ?_
   refine RW.one fokW (r_iaD trivial rfl rfl hi_7 (row:=e62 p) (mapget hp_7) (r_end ?_))
   refine Au 4 (sT [pR 4 1,pR 5 2,(7,jI n),(8,jI v),pR 9 3,(16,.d (.sl 4 (List.map e62 b_B.Hanks))),(17,jI (b_B.Hanks.length:Int)),(18,jI v)] [(3,.var 62 (cv62 p)),(2,.var 94 [.d (.fn 61)]),(1,.var 89 (cfv cut))] 4 0) ?_
   refine RW.nil (hQ_11 _ ?_)
   refine AW.srwK (fun Q_12 hQ_12=>?_)
   refine Au 1 (sT [pR 4 1,pR 5 2,(7,jI n),(8,jI v),pR 9 3,(16,.d (.sl 4 (List.map e62 b_B.Hanks))),(17,jI (b_B.Hanks.length:Int)),(18,jI v),(23,jI v)] [(3,.var 62 (cv62 p)),(2,.var 94 [.d (.fn 61)]),(1,.var 89 (cfv cut))] 4 0) ?_
   obtain ⟨j,hv_13,h⟩:=bsome h
   refine RW.one fokW (r_iaV trivial rfl rfl rfl (ixN_ok hv_13).1 (ixN_ok hv_13).2.1 (r_end ?_))
   refine RW.one fokW (r_loadV trivial rfl rfl (u:=jI (cut j)) (agt (f:=fun k=>jI (cut k)) hv_13) (r_end ?_))
   refine Au 1 (sT [pR 4 1,pR 5 2,(7,jI n),(8,jI v),pR 9 3,(16,.d (.sl 4 (List.map e62 b_B.Hanks))),(17,jI (b_B.Hanks.length:Int)),(18,jI v),(26,.d (.bool (decide (0<(cut j)))))] [(3,.var 62 (cv62 p)),(2,.var 94 [.d (.fn 61)]),(1,.var 89 (cfv cut))] 4 0) ?_
   refine RW.nil (hQ_12 _ ?_)
   refine AW.cond rfl (fun hb_14=>?_) (fun hb_14=>?_)
   ·have h:=ifT hb_14 h
    refine AW.drw fokW ?_
    refine aX 5 (sT [pR 4 1,pR 5 2,(8,jI v),(16,.d (.sl 4 (List.map e62 b_B.Hanks))),(17,jI (b_B.Hanks.length:Int)),(18,jI v),(27,jI n),(29,.d (.fn 61)),(31,.agg [jI p.Weight.Low,jI p.Weight.High])] [(3,.var 62 (cv62 p)),(2,.var 94 [.d (.fn 61)]),(1,.var 89 (cfv cut))] 4 0) ?_
    obtain ⟨r0_1,hx_16,h⟩:=bsome h
    refine r_callvZ (zr:=[]) trivial rfl (.fn _) (by kernel_rfl) rfl (k61 p.Weight _ hx_16) trivial ⟨.refl _,trivial⟩ rfl rfl rfl rfl ?_
    refine aX 1 (sT [pR 4 1,pR 5 2,(16,.d (.sl 4 (List.map e62 b_B.Hanks))),(17,jI (b_B.Hanks.length:Int)),(18,jI v),(27,jI n),(32,jI r0_1),(33,jI v)] [(3,.var 62 (cv62 p)),(2,.var 94 [.d (.fn 61)]),(1,.var 89 (cfv cut))] 4 0) ?_
    obtain ⟨j1,hv_17,h⟩:=bsome h
    refine r_iaV trivial rfl rfl rfl (ixN_ok hv_17).1 (ixN_ok hv_17).2.1 ?_
    refine r_loadV trivial rfl rfl (u:=jI (cut j1)) (agt (f:=fun k=>jI (cut k)) hv_17) ?_
    refine aX 3 (sT [pR 4 1,pR 5 2,(7,jI (wr (n+(wr (r0_1 - (cut j1)))))),(16,.d (.sl 4 (List.map e62 b_B.Hanks))),(17,jI (b_B.Hanks.length:Int)),(18,jI v)] [(3,.var 62 (cv62 p)),(2,.var 94 [.d (.fn 61)]),(1,.var 89 (cfv cut))] 4 0) ?_
    refine Fi (sT [pR 4 1,pR 5 2,(7,jI (wr (n+(wr (r0_1 - (cut j1)))))),(16,.d (.sl 4 (List.map e62 b_B.Hanks))),(17,jI (b_B.Hanks.length:Int)),(18,jI v)] [(2,.var 94 [.d (.fn 61)]),(1,.var 89 (cfv cut))] 4 0) ?_
    refine hK_10 _ ?_
    refine Ra (sT [pR 4 1,pR 5 2,(7,jI (wr (n+(wr (r0_1 - (cut j1)))))),(16,.d (.sl 4 (List.map e62 b_B.Hanks))),(17,jI (b_B.Hanks.length:Int)),(18,jI (wr (v+1)))] [(2,.var 94 [.d (.fn 61)]),(1,.var 89 (cfv cut))] 4 0) ?_
    obtain rfl:=Option.some.inj h
    have ew:wr (v+1)=v+1:=inext (N:=(b_B.Hanks.length:Int)) (by omega) (by omega) (by omega)
    rw [ew]
    exact hK_7 _ (Can.kp (by kernel_rfl))
   ·have h:=ifF hb_14 h
    refine AW.skip (hK_10 _ ?_)
    refine Ra (sT [pR 4 1,pR 5 2,(7,jI n),(16,.d (.sl 4 (List.map e62 b_B.Hanks))),(17,jI (b_B.Hanks.length:Int)),(18,jI (wr (v+1)))] [(2,.var 94 [.d (.fn 61)]),(1,.var 89 (cfv cut))] 4 0) ?_
    obtain rfl:=Option.some.inj h
    have ew:wr (v+1)=v+1:=inext (N:=(b_B.Hanks.length:Int)) (by omega) (by omega) (by omega)
    rw [ew]
    exact hK_7 _ (Can.kp (by kernel_rfl))
  ·subst hout
   refine Sa (sT [pR 4 1,pR 5 2,(7,jI n),(16,.d (.sl 4 (List.map e62 b_B.Hanks))),(17,jI (b_B.Hanks.length:Int)),(18,jI v),(19,.d (.bool (decide (v<(b_B.Hanks.length:Int)))))] [(2,.var 94 [.d (.fn 61)]),(1,.var 89 (cfv cut))] 3 0) ?_
   refine AW.seqK (fun K_18 hK_18=>?_)
   refine AW.cond rfl (fun hb_19=>False.elim (by have:=of_decide_eq_true hb_19;omega)) (fun hb_19=>?_)
   refine AW.exit ?_
   refine hK_5 _ ?_
   refine Sa (sT [(6,jI n)] [] 3 0) ?_
   obtain rfl:=Option.some.inj h
   exact rT hR_0 (.cons (.tmp rfl) .nil)
def g32_r5 (b_B:HairBook) (mf:List (Hair_dye×Span)):((List Int)×(Nat→Int))→((List Int)×Int×Bool)→Option (Ctl ((List Int)×Int×Bool) (Unit)):=fun (a,a1) (v,v1,v2)=>(g40).bind fun _=>(g38 b_B mf a1).bind fun r0_3=>bif ((!v2)||(decide (r0_3<v1))) then (some (.next (a,r0_3,true))) else (some (.next (v,v1,v2)))
def g32 (b_B:HairBook) (mf:List (Hair_dye×Span)):Option ((List Int)×Bool):=(g39).bind fun _=>(g44 b_B mf b_B mf).bind fun (o0_B,mf1)=>(g63 (fun a a1 s=>rndC (g32_r5 b_B mf) (a,a1) s) o0_B mf1 b_B mf (.next (([],0,false):(List Int)×Int×Bool))).bind fun out_5=>match out_5 with | .next (v,v1,v2)=>some (v,v2) | .brk _=>none
def y24 (b_B:HairBook) (mf:List (Hair_dye×Span)):List (Nat×Blk):=[(3,.var 4 [.d (.bool false)]),(2,.var 3 [jI 0]),(1,.var 33 [.d (.nilSl)]),(0,.var 81 (hbm b_B mf))]
def y25 (v2:Bool) (v1:Int) (v:List Int) (b_B:HairBook) (mf:List (Hair_dye×Span)):List (Nat×Blk):=[(7,.dm),(3,.var 4 [.d (.bool v2)]),(2,.var 3 [jI v1]),(1,.var 33 [.d (q1 v)]),(0,.var 81 (hbm b_B mf))]
theorem k32 (b_B:HairBook) (mf:List (Hair_dye×Span)) (r:(List Int)×Bool) (h:g32 b_B mf=some r):SCall Tryd.prog Gs 32 [.agg (hbm b_B mf)] [] 0 Fr.emp (match r with | (r0,r1)=>.tup [.d (q1 r0),.d (.bool r1)]) [] 0 Fr.emp:=by
 unfold g32 at h
 refine SCall.mkK Tryd.func32 c32 rfl rfl (by kernel_rfl) (fun Q_0 hR_0 hN_0=>?_)
 refine Sa (sT [pR 1 0] [(0,.var 81 (hbm b_B mf))] 1 0) ?_
 refine Sa (sT [pR 1 0,pR 4 1] [(1,.var 33 [.d (.nilSl)]),(0,.var 81 (hbm b_B mf))] 2 0) ?_
 refine Sa (sT [pR 1 0,pR 4 1,pR 5 2,pR 6 3] (y24 b_B mf) 4 0) ?_
 refine AW.seqK (fun K_1 hK_1=>?_)
 refine AW.sdrwK fokW (fun Q_2 hQ_2=>?_)
 refine aX 1 (sT [pR 1 0,pR 4 1,pR 5 2,pR 6 3,(10,.agg (hbm b_B mf))] (y24 b_B mf) 4 0) ?_
 obtain ⟨⟨⟩,hx_3,h⟩:=bsome h
 refine r_call trivial rfl (k39 _ hx_3) rfl rfl ?_
 refine aX 2 (sT [pR 1 0,pR 4 1,pR 5 2,pR 6 3,(10,.agg (hbm b_B mf)),(11,.agg [.d (.fn 60)]),(13,.clo 45 [.agg (hbm b_B mf)] [])] (y24 b_B mf) 4 0) ?_
 obtain ⟨⟨o0_B,mf1⟩,hx_4,h⟩:=bsome h
 refine r_callS (zr:=[]) [] trivial rfl (k44 b_B mf b_B mf _ hx_4) trivial rfl rfl ⟨.refl _,.refl _,.refl _,trivial⟩ rfl rfl rfl ?_
 refine Fi (sT [pR 1 0,pR 4 1,pR 5 2,pR 6 3,(14,.clo 63 [] [.ptr 4 0,.ptr 5 0,.ptr 6 0])] [(4,.var 81 (hbm o0_B mf1)),(5,.var 94 [.d (.fn 60)]),(6,.var 57 [.clo 45 [.agg (hbm b_B mf)] []]),(3,.var 4 [.d (.bool false)]),(2,.var 3 [jI 0]),(1,.var 33 [.d (.nilSl)]),(0,.var 81 (hbm b_B mf))] 7 0) ?_
 refine hQ_2 _ ?_
 refine AW.block ?_
 refine AW.can (Can.wkH 1 0 1 rfl rfl) ?_
 obtain ⟨out_5,hx_5,h⟩:=bsome h
 refine AW.rfX (fun (⟨v,v1,v2⟩:(List Int)×Int×Bool)=>[(7,.dm),(3,.var 4 [.d (.bool v2)]),(2,.var 3 [jI v1]),(1,.var 33 [.d (q1 v)]),(0,.var 81 (hbm b_B mf))]) (fun (_:Unit)=>[]) (fun _=>some .ret) (g32_r5 b_B mf) (fun (⟨a,a1⟩:(List Int)×(Nat→Int))=>[.d (q1 a),.agg (cfv a1)]) (s0:=(([],0,false):(List Int)×Int×Bool)) (out:=out_5) [pR 1 0,pR 4 1,pR 5 2,pR 6 3] [(3,.var 4 [.d (.bool false)]),(2,.var 3 [jI 0]),(1,.var 33 [.d (.sl 1 (List.map e3 []))]),(0,.var 81 (hbm b_B mf))] [4,5,6] rfl (.clo _ _ _) (by kernel_rfl) (by kernel_rfl) (fun fr_ hY_5=>k63 fr_ _ (fun a a1 s s2 b h=>hY_5 (a,a1) s s2 b h) o0_B mf1 b_B mf (.next (([],0,false):(List Int)×Int×Bool)) _ hx_5) (by kernel_rfl) ⟨rfl,rfl,rfl,trivial⟩ rfl ⟨rfl,rfl⟩ rfl rfl (fun _=>rfl) (fun _=>rfl) (fun a_5 s_5 c_5 h l_5=>?_) (fun _=>rfl) ?_
 ·obtain ⟨a,a1⟩:=a_5
  obtain ⟨v,v1,v2⟩:=s_5
  unfold g32_r5 at h
  refine AW.sa (fokR l_5) [] (sT [pR 1 0,pR 4 1,pR 5 2,pR 6 3,(7,.d (q1 a)),(16,.agg (cfv a1))] (y25 v2 v1 v b_B mf) 8 8) (by kernel_rfl) ?_
  refine AW.ra (fokR l_5) [] (sT [pR 1 0,pR 4 1,pR 5 2,pR 6 3,(7,.d (q1 a)),pR 8 8] [(8,.var 89 (cfv a1)),(7,.dm),(3,.var 4 [.d (.bool v2)]),(2,.var 3 [jI v1]),(1,.var 33 [.d (q1 v)]),(0,.var 81 (hbm b_B mf))] 9 8) (by kernel_rfl) ?_
  refine AW.block ?_
  refine AW.sdrwK (fokR l_5) (fun Q_6 hQ_6=>?_)
  refine aX 2 (sT [pR 4 1,pR 5 2,pR 6 3,(7,.d (q1 a)),(17,.agg (hbm b_B mf)),(18,.agg (cfv a1))] [(8,.var 89 (cfv a1)),(7,.dm),(3,.var 4 [.d (.bool v2)]),(2,.var 3 [jI v1]),(1,.var 33 [.d (q1 v)]),(0,.var 81 (hbm b_B mf))] 9 8) ?_
  obtain ⟨⟨⟩,hx_7,h⟩:=bsome h
  refine r_call trivial rfl (k40 _ hx_7) rfl rfl ?_
  obtain ⟨r0_3,hx_8,h⟩:=bsome h
  refine r_call trivial rfl (k38 b_B mf a1 _ hx_8) rfl rfl ?_
  refine aX 1 (sT [pR 4 1,pR 5 2,pR 6 3,(7,.d (q1 a)),(9,jI r0_3)] [(8,.var 89 (cfv a1)),(7,.dm),(3,.var 4 [.d (.bool v2)]),(2,.var 3 [jI v1]),(1,.var 33 [.d (q1 v)]),(0,.var 81 (hbm b_B mf))] 9 8) ?_
  refine Fi (sT [pR 4 1,pR 5 2,pR 6 3,(7,.d (q1 a)),(9,jI r0_3)] (y25 v2 v1 v b_B mf) 9 8) ?_
  refine hQ_6 _ ?_
  refine AW.sa (fokR l_5) [23] (sT [pR 4 1,pR 5 2,pR 6 3,(7,.d (q1 a)),(9,jI r0_3),(27,.d (.bool ((!v2)||(decide (r0_3<v1)))))] (y25 v2 v1 v b_B mf) 9 8) (by kernel_rfl) ?_
  refine AW.cond rfl (fun hb_9=>?_) (fun hb_9=>?_)
  ·have h:=ifT hb_9 h
   refine AW.ra (fokR l_5) [] (sT [] [(3,.var 4 [.d (.bool true)]),(2,.var 3 [jI r0_3]),(1,.var 33 [.d (q1 a)]),(7,.dm),(0,.var 81 (hbm b_B mf))] 9 8) (by kernel_rfl) ?_
   obtain rfl:=Option.some.inj h
   exact ⟨(sT [] [(7,.dm),(3,.var 4 [.d (.bool true)]),(2,.var 3 [jI r0_3]),(1,.var 33 [.d (q1 a)]),(0,.var 81 (hbm b_B mf))] 8 8),Can.kp (by kernel_rfl),rdX trivial rfl (by kernel_rfl) (by kernel_rfl)⟩
  ·have h:=ifF hb_9 h
   refine AW.skip ?_
   obtain rfl:=Option.some.inj h
   exact ⟨(sT [] (y25 v2 v1 v b_B mf) 8 8),Can.kp (by kernel_rfl),rdX trivial rfl (by kernel_rfl) (by kernel_rfl)⟩
 ·rcases out_5 with ⟨v,v1,v2⟩ | _
  ·refine hK_1 _ ?_
   refine Sa ⟨[(2,.d (q1 v)),(3,.d (.bool v2))],[(7,.dm)],8,Fr.emp,[7],0⟩ ?_
   obtain rfl:=Option.some.inj h
   exact rT hR_0 (.cons (.tmp rfl) (.cons (.tmp rfl) .nil))
  ·cases h
def g11 (x:HairBook):Option ((List Int)×Int):=(g30 x).bind fun r0_9=>bif (decide (r0_9≠0)) then (some ([],r0_9)) else ((g31 x).bind fun (r0_B,mf)=>(g32 r0_B mf).bind fun (r0,r1)=>bif (!r1) then (some ([],4)) else ((slcL r0 0 (r0.length:Int)).bind fun l=>some (l,0)))
theorem k11 (x:HairBook) (r:(List Int)×Int) (h:g11 x=some r):SCall Tryd.prog Gs 11 [.agg (cv39 x)] [] 0 Fr.emp (match r with | (r0_3,r1_3)=>.tup [.d (q1 r0_3),jI r1_3]) [] 0 Fr.emp:=by
 unfold g11 at h
 refine SCall.mkK Tryd.func11 c11 rfl rfl (by kernel_rfl) (fun Q_0 hR_0 hN_0=>?_)
 refine Sa (sT [pR 1 0] [(0,.var 39 (cv39 x))] 1 0) ?_
 refine AW.seqK fun K_1 hK_1=>AW.srwK fun Q_2 hQ_2=>?_
 refine Au 1 (sT [pR 1 0,(7,.agg (cv39 x))] [(0,.var 39 (cv39 x))] 1 0) ?_
 obtain ⟨r0_9,hx_3,h⟩:=bsome h
 refine rC (k30 x _ hx_3) ?_
 refine Au 1 (sT [pR 1 0,(4,jI r0_9)] [(0,.var 39 (cv39 x))] 1 0) ?_
 refine RW.nil (hQ_2 _ ?_)
 refine Sa (sT [pR 1 0,(4,jI r0_9),(10,.d (.bool (decide (r0_9≠0))))] [(0,.var 39 (cv39 x))] 1 0) ?_
 refine AW.cond rfl (fun hb_4=>?_) (fun hb_4=>?_)
 ·have h:=ifT hb_4 h
  refine Sa (sT [(2,.d (.nilSl)),(3,jI r0_9)] [] 1 0) ?_
  obtain rfl:=Option.some.inj h
  exact AW.ret (hR_0 _ (retX (.cons (.tmp rfl) (.cons (.tmp rfl) .nil)) (Frz.tup_of ⟨.nil 1,.refl _,trivial⟩) rfl (by kernel_rfl) (by kernel_rfl)))
 ·have h:=ifF hb_4 h
  refine AW.skip (hK_1 _ ?_)
  refine AW.srwK (fun Q_5 hQ_5=>?_)
  refine Au 1 (sT [(13,.agg (cv39 x))] [] 1 0) ?_
  obtain ⟨⟨r0_B,mf⟩,hx_6,h⟩:=bsome h
  refine rC (k31 x _ hx_6) ?_
  obtain ⟨⟨r0,r1⟩,hx_7,h⟩:=bsome h
  refine rC (k32 r0_B mf _ hx_7) ?_
  refine Au 5 (sT [(5,.d (q1 r0)),(6,.d (.bool r1))] [] 1 0) ?_
  refine RW.nil (hQ_5 _ ?_)
  refine AW.seqK (fun K_8 hK_8=>?_)
  refine Sa (sT [(5,.d (q1 r0)),(19,.d (.bool (!r1)))] [] 1 0) ?_
  refine AW.cond rfl (fun hb_9=>?_) (fun hb_9=>?_)
  ·have h:=ifT hb_9 h
   refine Sa (sT [(2,.d (.nilSl)),(3,jI 4)] [] 1 0) ?_
   obtain rfl:=Option.some.inj h
   exact AW.ret (hR_0 _ (retX (.cons (.tmp rfl) (.cons (.tmp rfl) .nil)) (Frz.tup_of ⟨.nil 1,.refl _,trivial⟩) rfl (by kernel_rfl) (by kernel_rfl)))
  ·have h:=ifF hb_9 h
   refine AW.skip (hK_8 _ ?_)
   refine AW.srwK (fun Q_10 hQ_10=>?_)
   refine Au 2 (sT [(5,.d (q1 r0)),(20,.d (q1 r0)),(21,.d (q1 r0))] [] 1 0) ?_
   refine rL rfl ?_
   refine Au 1 (sT [(20,.d (q1 r0)),(22,jI (r0.length:Int)),(23,.d (q1 r0))] [] 1 0) ?_
   refine rL rfl ?_
   obtain ⟨l,hv_11,h⟩:=bsome h
   refine RW.one fokW (r_slN trivial rfl rfl rfl DSl.d (slcL_ok hv_11).2.1 (by rw [List.length_map];exact (slcL_ok hv_11).2.2.1) rfl (slz hv_11 e3) (r_end ?_))
   refine Au 2 (sT [(2,.fsl 1 (List.map e3 l)),(3,jI 0)] [] 1 0) ?_
   refine RW.nil (hQ_10 _ ?_)
   obtain rfl:=Option.some.inj h
   exact AW.ret (hR_0 _ (retX (.cons (.tmp rfl) (.cons (.tmp rfl) .nil)) (Frz.tup_of ⟨.fsl _ _,.refl _,trivial⟩) rfl (by kernel_rfl) (by kernel_rfl)))
def g58 (b_B:HairBook) (mf:List (Hair_dye×Span)) (n:Int):Option Bool:=(g47 n 0 (wr ((b_B.Hanks.length:Int) - 1))).bind fun r0=>some r0
theorem k58 (b_B:HairBook) (mf:List (Hair_dye×Span)) (n:Int) (r:Bool) (h:g58 b_B mf n=some r):SCall Tryd.prog Gs 58 [.agg (hbm b_B mf),jI n] [] 0 Fr.emp (.d (.bool r)) [] 0 Fr.emp:=by
 unfold g58 at h
 refine SCall.mkK Tryd.func58 c58 rfl rfl (by kernel_rfl) (fun Q_0 hR_0 hN_0=>?_)
 refine Sa (sT [(1,jI n),pR 2 0] [(0,.var 81 (hbm b_B mf))] 1 0) ?_
 refine AW.srwK (fun Q_1 hQ_1=>?_)
 refine Au 4 (sT [(5,jI n),(8,.d (.sl 4 (List.map e62 b_B.Hanks)))] [] 1 0) ?_
 refine rL rfl ?_
 refine Au 1 (sT [(5,jI n),(10,jI (wr ((b_B.Hanks.length:Int) - 1)))] [] 1 0) ?_
 obtain ⟨r0,hx_2,h⟩:=bsome h
 refine rC (k47 n 0 (wr ((b_B.Hanks.length:Int) - 1)) _ hx_2) ?_
 refine Au 1 (sT [(4,.d (.bool r0))] [] 1 0) ?_
 refine RW.nil (hQ_1 _ ?_)
 obtain rfl:=Option.some.inj h
 exact rT hR_0 (.cons (.tmp rfl) .nil)
def g57 (n:Int) (o0_B:HairBook) (mf:List (Hair_dye×Span)):Option Bool:=(g58 o0_B mf n).bind fun r0_1=>some (!r0_1)
theorem k57 (n:Int) (o0_B:HairBook) (mf:List (Hair_dye×Span)) (r:Bool) (h:g57 n o0_B mf=some r):SCall Tryd.prog Gs 57 [jI n,.ptr 0 0] [(0,.var 81 (hbm o0_B mf))] 1 Fr.emp (.d (.bool r)) [(0,.var 81 (hbm o0_B mf))] 1 Fr.emp:=by
 unfold g57 at h
 refine SCall.mkK Tryd.func57 c57 rfl rfl (by kernel_rfl) (fun Q_0 hR_0 hN_0=>?_)
 refine Sa (sT [(0,jI n),pR 1 0] [(0,.var 81 (hbm o0_B mf))] 1 1) ?_
 refine AW.srwK (fun Q_1 hQ_1=>?_)
 refine Au 2 (sT [(4,.agg (hbm o0_B mf)),(5,jI n)] [(0,.var 81 (hbm o0_B mf))] 1 1) ?_
 obtain ⟨r0_1,hx_2,h⟩:=bsome h
 refine rC (k58 o0_B mf n _ hx_2) ?_
 refine Au 2 (sT [(3,.d (.bool (!r0_1)))] [(0,.var 81 (hbm o0_B mf))] 1 1) ?_
 refine RW.nil (hQ_1 _ ?_)
 obtain rfl:=Option.some.inj h
 exact rT hR_0 (.cons (.tmp rfl) .nil)
def g70_3 (o0_B:HairBook) (mf:List (Hair_dye×Span)):Int→Int→Unit→Option (Ctl (Unit) (Int)):=fun v p _=>(g57 p o0_B mf).bind fun r0=>bif r0 then (some (.brk v)) else (some (.next ()))
def g70 (s:(List Int)) (o0_B:HairBook) (mf:List (Hair_dye×Span)):Option Int:=bindC (eachC (g70_3 o0_B mf) s 0 ()) fun _=>some (-1)
theorem k70 (s:(List Int)) (o0_B:HairBook) (mf:List (Hair_dye×Span)) (r:Int) (h:g70 s o0_B mf=some r):SCall Tryd.prog Gs 70 [.d (q1 s),.clo 57 [] [.ptr 0 0]] [(0,.var 81 (hbm o0_B mf))] 1 Fr.emp (jI r) [(0,.var 81 (hbm o0_B mf))] 1 Fr.emp:=by
 unfold g70 at h
 refine SCall.mkK Tryd.func70 c70 rfl rfl (by kernel_rfl) (fun Q_0 hR_0 hN_0=>?_)
 refine Sa (sT [(0,.d (q1 s)),(1,.clo 57 [] [.ptr 0 0])] [(0,.var 81 (hbm o0_B mf))] 1 1) ?_
 refine AW.seqK fun K_1 hK_1=>AW.srwK fun Q_2 hQ_2=>?_
 refine Au 1 (sT [(0,.d (q1 s)),(1,.clo 57 [] [.ptr 0 0]),(6,.d (q1 s))] [(0,.var 81 (hbm o0_B mf))] 1 1) ?_
 refine rL rfl ?_
 refine Au 1 (sT [(0,.d (q1 s)),(1,.clo 57 [] [.ptr 0 0]),(7,jI (s.length:Int)),(8,jI 0)] [(0,.var 81 (hbm o0_B mf))] 1 1) ?_
 refine RW.nil (hQ_2 _ ?_)
 refine AW.block ?_
 refine AW.sln (t:=0) rfl (fun hN_3=>?_)
 rw [List.length_map] at hN_3
 obtain ⟨out_3,hx_3,hk_3⟩:=bsomeC h
 refine AW.evCK (fun (v:Int) (_:Unit)=>(sT [(0,.d (q1 s)),(1,.clo 57 [] [.ptr 0 0]),(7,jI (s.length:Int)),(8,jI v)] [(0,.var 81 (hbm o0_B mf))] 1 1)) (g70_3 o0_B mf) hx_3 (Can.kp (by kernel_rfl)) (fun v p s_3 hi_3 hl_3 hp_3 c_3 h hb_3 K_3 hK_3=>?_) (fun v s_3 hi_3 hl_3 hout=>?_)
 ·unfold g70_3 at h
  refine Sa (sT [(0,.d (q1 s)),(1,.clo 57 [] [.ptr 0 0]),(7,jI (s.length:Int)),(8,jI v),(9,.d (.bool (decide (v<(s.length:Int)))))] [(0,.var 81 (hbm o0_B mf))] 1 1) ?_
  refine AW.seqK (fun K_4 hK_4=>?_)
  refine AW.cond rfl (fun hb_5=>?_) (fun hb_5=>False.elim (by have:=of_decide_eq_false hb_5;omega))
  refine AW.skip (hK_4 _ ?_)
  refine AW.seqK (fun K_6 hK_6=>?_)
  refine AW.block ?_
  refine Sa (sT [(0,.d (q1 s)),(1,.clo 57 [] [.ptr 0 0]),(5,jI v),(7,jI (s.length:Int)),(8,jI v)] [(0,.var 81 (hbm o0_B mf))] 1 1) ?_
  refine AW.srwK (fun Q_7 hQ_7=>?_)
  refine Au 3 (sT [(0,.d (q1 s)),(1,.clo 57 [] [.ptr 0 0]),(5,jI v),(7,jI (s.length:Int)),(8,jI v),(11,.clo 57 [] [.ptr 0 0]),(12,.d (q1 s)),(13,jI v)] [(0,.var 81 (hbm o0_B mf))] 1 1) ?_
  refine RW.one fokW (r_iaD trivial rfl rfl hi_3 (row:=e3 p) (mapget hp_3) (r_end ?_))
  refine Au 1 (sT [(0,.d (q1 s)),(1,.clo 57 [] [.ptr 0 0]),(5,jI v),(7,jI (s.length:Int)),(8,jI v),(11,.clo 57 [] [.ptr 0 0]),(15,jI p)] [(0,.var 81 (hbm o0_B mf))] 1 1) ?_
  obtain ⟨r0,hx_8,h⟩:=bsome h
  refine RW.one fokW (r_callvE (zr:=[]) [0] trivial rfl (.clo _ _ _) (by kernel_rfl) rfl (k57 p o0_B mf _ hx_8) ⟨rfl,trivial⟩ rfl rfl ⟨.refl _,.refl _,trivial⟩ rfl rfl rfl (r_end ?_))
  refine RW.nil (hQ_7 _ ?_)
  refine AW.cond rfl (fun hb_9=>?_) (fun hb_9=>?_)
  ·have h:=ifT hb_9 h
   refine Sa (sT [(4,jI v)] [(0,.var 81 (hbm o0_B mf))] 1 1) ?_
   obtain rfl:=Option.some.inj h
   have e_1:=hb_3 _ rfl
   subst e_1
   obtain rfl:=Aft.bk hk_3
   exact rT hR_0 (.cons (.tmp rfl) .nil)
  ·have h:=ifF hb_9 h
   refine AW.skip (hK_6 _ ?_)
   refine Ra (sT [(0,.d (q1 s)),(1,.clo 57 [] [.ptr 0 0]),(7,jI (s.length:Int)),(8,jI (wr (v+1)))] [(0,.var 81 (hbm o0_B mf))] 1 1) ?_
   obtain rfl:=Option.some.inj h
   have ew:wr (v+1)=v+1:=inext (N:=(s.length:Int)) (by omega) (by omega) (by omega)
   rw [ew]
   exact hK_3 _ _ rfl (Can.kp (by kernel_rfl))
 ·subst hout
  have h:=Aft.nx hk_3
  refine Sa (sT [(0,.d (q1 s)),(1,.clo 57 [] [.ptr 0 0]),(7,jI (s.length:Int)),(8,jI v),(9,.d (.bool (decide (v<(s.length:Int)))))] [(0,.var 81 (hbm o0_B mf))] 1 1) ?_
  refine AW.seqK (fun K_10 hK_10=>?_)
  refine AW.cond rfl (fun hb_11=>False.elim (by have:=of_decide_eq_true hb_11;omega)) (fun hb_11=>?_)
  refine AW.exit ?_
  refine hK_1 _ ?_
  refine Sa (sT [(4,jI (-1))] [(0,.var 81 (hbm o0_B mf))] 1 1) ?_
  obtain rfl:=Option.some.inj h
  exact rT hR_0 (.cons (.tmp rfl) .nil)
def g56 (s:(List Int)) (o0_B:HairBook) (mf:List (Hair_dye×Span)):Option Bool:=(g70 s o0_B mf).bind fun r0_2=>some (decide (0≤r0_2))
theorem k56 (s:(List Int)) (o0_B:HairBook) (mf:List (Hair_dye×Span)) (r:Bool) (h:g56 s o0_B mf=some r):SCall Tryd.prog Gs 56 [.d (q1 s),.clo 57 [] [.ptr 0 0]] [(0,.var 81 (hbm o0_B mf))] 1 Fr.emp (.d (.bool r)) [(0,.var 81 (hbm o0_B mf))] 1 Fr.emp:=by
 unfold g56 at h
 refine SCall.mkK Tryd.func56 c56 rfl rfl (by kernel_rfl) (fun Q_0 hR_0 hN_0=>?_)
 refine Sa (sT [(0,.d (q1 s)),(1,.clo 57 [] [.ptr 0 0])] [(0,.var 81 (hbm o0_B mf))] 1 1) ?_
 refine AW.srwK (fun Q_1 hQ_1=>?_)
 refine Au 2 (sT [(5,.d (q1 s)),(6,.clo 57 [] [.ptr 0 0])] [(0,.var 81 (hbm o0_B mf))] 1 1) ?_
 obtain ⟨r0_2,hx_2,h⟩:=bsome h
 refine RW.one fokW (r_callS (zr:=[]) [0] trivial rfl (k70 s o0_B mf _ hx_2) ⟨rfl,trivial⟩ rfl rfl ⟨.refl _,.refl _,trivial⟩ rfl rfl rfl (r_end ?_))
 refine Au 2 (sT [(4,.d (.bool (decide (0≤r0_2))))] [(0,.var 81 (hbm o0_B mf))] 1 1) ?_
 refine RW.nil (hQ_1 _ ?_)
 obtain rfl:=Option.some.inj h
 exact rT hR_0 (.cons (.tmp rfl) .nil)
def g35 (b_B:HairBook) (mf:List (Hair_dye×Span)) (plan:(List Int)):Option Bool:=(bif (decide ((plan.length:Int)=(wr (2*(b_B.Horses.length:Int))))) then ((g56 plan b_B mf).bind fun r0=>some (!r0)) else (some false)).bind fun v=>some v
theorem k35 (b_B:HairBook) (mf:List (Hair_dye×Span)) (plan:(List Int)) (r:Bool) (h:g35 b_B mf plan=some r):SCall Tryd.prog Gs 35 [.agg (hbm b_B mf),.d (q1 plan)] [] 0 Fr.emp (.d (.bool r)) [] 0 Fr.emp:=by
 unfold g35 at h
 refine SCall.mkK Tryd.func35 c35 rfl rfl (by kernel_rfl) (fun Q_0 hR_0 hN_0=>?_)
 refine Sa (sT [(1,.d (q1 plan)),pR 2 0] [(0,.var 81 (hbm b_B mf))] 1 0) ?_
 refine AW.srwK (fun Q_1 hQ_1=>?_)
 refine Au 1 (sT [(1,.d (q1 plan)),pR 2 0,(5,.d (q1 plan))] [(0,.var 81 (hbm b_B mf))] 1 0) ?_
 refine rL rfl ?_
 refine Au 3 (sT [(1,.d (q1 plan)),pR 2 0,(6,jI (plan.length:Int)),(9,.d (.sl 3 (List.map e64 b_B.Horses)))] [(0,.var 81 (hbm b_B mf))] 1 0) ?_
 refine rL rfl ?_
 refine Au 3 (sT [(1,.d (q1 plan)),pR 2 0,(13,.d (.bool (decide ((plan.length:Int)=(wr (2*(b_B.Horses.length:Int)))))))] [(0,.var 81 (hbm b_B mf))] 1 0) ?_
 obtain ⟨v,hx_2,h⟩:=bsome h
 refine RW.cut fokW 5 ((sT [(18,.d (.bool v))] [] 1 0)) ?_ ?_
 ·refine r_split 13 rfl (fun hb_4=>?_) (fun hb_4=>?_)
  ·have h:=ifT hb_4 hx_2
   refine aX 2 (sT [(13,.d (.bool true)),(14,.d (q1 plan)),(15,.clo 57 [] [.ptr 0 0])] [(0,.var 81 (hbm b_B mf))] 1 0) ?_
   obtain ⟨r0,hx_3,h⟩:=bsome h
   refine r_callS (zr:=[]) [0] rfl rfl (k56 plan b_B mf _ hx_3) ⟨rfl,trivial⟩ rfl rfl ⟨.refl _,.refl _,trivial⟩ rfl rfl rfl ?_
   refine aX 2 (sT [(18,.d (.bool (!r0)))] [(0,.var 81 (hbm b_B mf))] 1 0) ?_
   obtain rfl:=Option.some.inj h
   refine RunC.finJ (Can.kp (by kernel_rfl))
  ·have h:=ifF hb_4 hx_2
   refine aX 5 (sT [(18,.d (.bool false))] [(0,.var 81 (hbm b_B mf))] 1 0) ?_
   obtain rfl:=Option.some.inj h
   refine RunC.finJ (Can.kp (by kernel_rfl))
 ·refine Au 1 (sT [(4,.d (.bool v))] [] 1 0) ?_
  refine RW.nil (hQ_1 _ ?_)
  obtain rfl:=Option.some.inj h
  exact rT hR_0 (.cons (.tmp rfl) .nil)
def g37_5 (b_B:HairBook):Int→Int→(Nat→Int)→Option (Nat→Int):=fun v p out=>(ixN 5 p).bind fun j=>(ixN 2 (v.tmod 2)).bind fun j1=>match j1 with | 0=>(ixL b_B.Horses (wr (v.tdiv 2))).bind fun p1=>(g95 p1).bind fun r0_1=>(ixN 5 p).bind fun j2=>some (aset out j2 (wr ((out j)+r0_1))) | 1=>(ixL b_B.Horses (wr (v.tdiv 2))).bind fun p2=>(g98 p2).bind fun r0_2=>(ixN 5 p).bind fun j3=>some (aset out j3 (wr ((out j)+r0_2))) | _=>none
def g37 (b_B:HairBook) (mf:List (Hair_dye×Span)) (plan:(List Int)):Option (Nat→Int):=(g59).bind fun r0=>(eachS (g37_5 b_B) plan 0 r0).bind fun out=>some out
def y26 (out:(Nat→Int)) (b_B:HairBook) (mf:List (Hair_dye×Span)):List (Nat×Blk):=[(2,.var 89 (cfv out)),(1,.var 89 [jI 0,jI 0,jI 0,jI 0,jI 0]),(0,.var 81 (hbm b_B mf))]
theorem k37 (b_B:HairBook) (mf:List (Hair_dye×Span)) (plan:(List Int)) (r:(Nat→Int)) (h:g37 b_B mf plan=some r):SCall Tryd.prog Gs 37 [.agg (hbm b_B mf),.d (q1 plan)] [] 0 Fr.emp (.agg (cfv r)) [] 0 Fr.emp:=by
 unfold g37 at h
 refine SCall.mkK Tryd.func37 c37 rfl rfl (by kernel_rfl) (fun Q_0 hR_0 hN_0=>?_)
 refine Sa (sT [(1,.d (q1 plan)),pR 2 0,pR 4 1] [(1,.var 89 [jI 0,jI 0,jI 0,jI 0,jI 0]),(0,.var 81 (hbm b_B mf))] 2 0) ?_
 refine AW.srwK (fun Q_1 hQ_1=>?_)
 obtain ⟨r0,hx_2,h⟩:=bsome h
 refine rC (k59 _ hx_2) ?_
 refine Au 2 (sT [(1,.d (q1 plan)),pR 2 0,pR 4 1,pR 5 2] [(2,.var 89 (cfv r0)),(1,.var 89 [jI 0,jI 0,jI 0,jI 0,jI 0]),(0,.var 81 (hbm b_B mf))] 3 0) ?_
 refine RW.nil (hQ_1 _ ?_)
 refine AW.seqK fun K_3 hK_3=>AW.srwK fun Q_4 hQ_4=>?_
 refine Au 1 (sT [pR 2 0,pR 4 1,pR 5 2,(9,.d (q1 plan))] [(2,.var 89 (cfv r0)),(1,.var 89 [jI 0,jI 0,jI 0,jI 0,jI 0]),(0,.var 81 (hbm b_B mf))] 3 0) ?_
 refine rL rfl ?_
 refine Au 1 (sT [pR 2 0,pR 4 1,pR 5 2,(9,.d (q1 plan)),(10,jI (plan.length:Int)),(11,jI 0)] [(2,.var 89 (cfv r0)),(1,.var 89 [jI 0,jI 0,jI 0,jI 0,jI 0]),(0,.var 81 (hbm b_B mf))] 3 0) ?_
 refine RW.nil (hQ_4 _ ?_)
 refine AW.block ?_
 refine AW.sln (t:=9) rfl (fun hN_5=>?_)
 rw [List.length_map] at hN_5
 obtain ⟨out_5,hx_5,h⟩:=bsome h
 refine AW.evSK (fun (v:Int) (out:(Nat→Int))=>(sT [pR 2 0,pR 4 1,pR 5 2,(9,.d (q1 plan)),(10,jI (plan.length:Int)),(11,jI v)] (y26 out b_B mf) 3 0)) (g37_5 b_B) hx_5 (Can.kp (by kernel_rfl)) (fun v p out hi_5 hl_5 hp_5 c_5 h K_5 hK_5=>?_) (fun v out hi_5 hl_5 hout=>?_)
 ·unfold g37_5 at h
  refine Sa (sT [pR 2 0,pR 4 1,pR 5 2,(9,.d (q1 plan)),(10,jI (plan.length:Int)),(11,jI v),(12,.d (.bool (decide (v<(plan.length:Int)))))] (y26 out b_B mf) 3 0) ?_
  refine AW.seqK (fun K_6 hK_6=>?_)
  refine AW.cond rfl (fun hb_7=>?_) (fun hb_7=>False.elim (by have:=of_decide_eq_false hb_7;omega))
  refine AW.skip (hK_6 _ ?_)
  refine AW.seqK (fun K_8 hK_8=>?_)
  refine AW.block ?_
  refine AW.srwK (fun Q_9 hQ_9=>?_)
  refine Au 1 (sT [pR 2 0,pR 4 1,pR 5 2,(9,.d (q1 plan)),(10,jI (plan.length:Int)),(11,jI v),(13,jI v)] (y26 out b_B mf) 3 0) ?_
  refine RW.one fokW (r_iaD trivial rfl rfl hi_5 (row:=e3 p) (mapget hp_5) (r_end ?_))
  refine Au 3 (sT [pR 2 0,pR 4 1,pR 5 2,(6,jI v),(7,jI p),(9,.d (q1 plan)),(10,jI (plan.length:Int)),(11,jI v)] (y26 out b_B mf) 3 0) ?_
  refine RW.nil (hQ_9 _ ?_)
  refine AW.drw fokW ?_
  refine aX 1 (sT [pR 2 0,pR 4 1,pR 5 2,(6,jI v),(9,.d (q1 plan)),(10,jI (plan.length:Int)),(11,jI v),(16,jI p)] (y26 out b_B mf) 3 0) ?_
  obtain ⟨j,hv_11,h⟩:=bsome h
  refine r_iaV trivial rfl rfl rfl (ixN_ok hv_11).1 (ixN_ok hv_11).2.1 ?_
  refine r_loadV trivial rfl rfl (u:=jI (out j)) (agt (f:=fun k=>jI (out k)) hv_11) ?_
  refine aX 2 (sT [pR 2 0,pR 4 1,pR 5 2,(6,jI v),(9,.d (q1 plan)),(10,jI (plan.length:Int)),(11,jI v),(16,jI p),(18,jI (out j)),(20,jI (v.tmod 2))] (y26 out b_B mf) 3 0) ?_
  obtain ⟨j1,hv_12,h⟩:=bsome h
  rcases j1 with _ | _ | j1
  ·refine r_iaF trivial rfl rfl (ixN_ok hv_12).1 (ixN_ok hv_12).2.1 ?_
   refine r_loadF trivial rfl (u:=.fn 95) (by rw [(ixN_ok hv_12).2.2];rfl) ?_
   refine aX 5 (sT [pR 2 0,pR 4 1,pR 5 2,(9,.d (q1 plan)),(10,jI (plan.length:Int)),(11,jI v),(16,jI p),(18,jI (out j)),(22,.d (.fn 95)),(25,.d (.sl 3 (List.map e64 b_B.Horses))),(27,jI (wr (v.tdiv 2)))] (y26 out b_B mf) 3 0) ?_
   obtain ⟨p1,hv_13,h⟩:=bsome h
   refine r_iaD trivial rfl rfl (ixL_ok hv_13).1 (row:=e64 p1) (mapget (ixL_ok hv_13).2) ?_
   refine aX 1 (sT [pR 2 0,pR 4 1,pR 5 2,(9,.d (q1 plan)),(10,jI (plan.length:Int)),(11,jI v),(16,jI p),(18,jI (out j)),(22,.d (.fn 95)),(29,.agg [jI p1.Mane,jI p1.Tail,jI p1.Shade])] (y26 out b_B mf) 3 0) ?_
   obtain ⟨r0_1,hx_14,h⟩:=bsome h
   refine r_callvZ (zr:=[]) trivial rfl (.fn _) (by kernel_rfl) rfl (k95 p1 _ hx_14) trivial ⟨.refl _,trivial⟩ rfl rfl rfl rfl ?_
   refine aX 1 (sT [pR 2 0,pR 4 1,pR 5 2,(9,.d (q1 plan)),(10,jI (plan.length:Int)),(11,jI v),(16,jI p),(31,jI (wr ((out j)+r0_1)))] (y26 out b_B mf) 3 0) ?_
   obtain ⟨j2,hv_15,h⟩:=bsome h
   refine r_iaV trivial rfl rfl rfl (ixN_ok hv_15).1 (ixN_ok hv_15).2.1 ?_
   refine r_stX trivial rfl rfl rfl rfl rfl (aslot hv_15 rfl) (cs':=[jI ((aset out j2 (wr ((out j)+r0_1))) 0),jI ((aset out j2 (wr ((out j)+r0_1))) 1),jI ((aset out j2 (wr ((out j)+r0_1))) 2),jI ((aset out j2 (wr ((out j)+r0_1))) 3),jI ((aset out j2 (wr ((out j)+r0_1))) 4)]) (ast (w:=out) (c:=fun z=>jI z) hv_15) ?_
   refine Fi (sT [pR 2 0,pR 4 1,pR 5 2,(9,.d (q1 plan)),(10,jI (plan.length:Int)),(11,jI v)] [(2,.var 89 [jI ((aset out j2 (wr ((out j)+r0_1))) 0),jI ((aset out j2 (wr ((out j)+r0_1))) 1),jI ((aset out j2 (wr ((out j)+r0_1))) 2),jI ((aset out j2 (wr ((out j)+r0_1))) 3),jI ((aset out j2 (wr ((out j)+r0_1))) 4)]),(1,.var 89 [jI 0,jI 0,jI 0,jI 0,jI 0]),(0,.var 81 (hbm b_B mf))] 3 0) ?_
   refine hK_8 _ ?_
   refine Ra (sT [pR 2 0,pR 4 1,pR 5 2,(9,.d (q1 plan)),(10,jI (plan.length:Int)),(11,jI (wr (v+1)))] [(2,.var 89 [jI ((aset out j2 (wr ((out j)+r0_1))) 0),jI ((aset out j2 (wr ((out j)+r0_1))) 1),jI ((aset out j2 (wr ((out j)+r0_1))) 2),jI ((aset out j2 (wr ((out j)+r0_1))) 3),jI ((aset out j2 (wr ((out j)+r0_1))) 4)]),(1,.var 89 [jI 0,jI 0,jI 0,jI 0,jI 0]),(0,.var 81 (hbm b_B mf))] 3 0) ?_
   obtain rfl:=Option.some.inj h
   have ew:wr (v+1)=v+1:=inext (N:=(plan.length:Int)) (by omega) (by omega) (by omega)
   rw [ew]
   exact hK_5 _ (Can.kp (by kernel_rfl))
  ·refine r_iaF trivial rfl rfl (ixN_ok hv_12).1 (ixN_ok hv_12).2.1 ?_
   refine r_loadF trivial rfl (u:=.fn 98) (by rw [(ixN_ok hv_12).2.2];rfl) ?_
   refine aX 5 (sT [pR 2 0,pR 4 1,pR 5 2,(9,.d (q1 plan)),(10,jI (plan.length:Int)),(11,jI v),(16,jI p),(18,jI (out j)),(22,.d (.fn 98)),(25,.d (.sl 3 (List.map e64 b_B.Horses))),(27,jI (wr (v.tdiv 2)))] (y26 out b_B mf) 3 0) ?_
   obtain ⟨p2,hv_16,h⟩:=bsome h
   refine r_iaD trivial rfl rfl (ixL_ok hv_16).1 (row:=e64 p2) (mapget (ixL_ok hv_16).2) ?_
   refine aX 1 (sT [pR 2 0,pR 4 1,pR 5 2,(9,.d (q1 plan)),(10,jI (plan.length:Int)),(11,jI v),(16,jI p),(18,jI (out j)),(22,.d (.fn 98)),(29,.agg [jI p2.Mane,jI p2.Tail,jI p2.Shade])] (y26 out b_B mf) 3 0) ?_
   obtain ⟨r0_2,hx_17,h⟩:=bsome h
   refine r_callvZ (zr:=[]) trivial rfl (.fn _) (by kernel_rfl) rfl (k98 p2 _ hx_17) trivial ⟨.refl _,trivial⟩ rfl rfl rfl rfl ?_
   refine aX 1 (sT [pR 2 0,pR 4 1,pR 5 2,(9,.d (q1 plan)),(10,jI (plan.length:Int)),(11,jI v),(16,jI p),(31,jI (wr ((out j)+r0_2)))] (y26 out b_B mf) 3 0) ?_
   obtain ⟨j3,hv_18,h⟩:=bsome h
   refine r_iaV trivial rfl rfl rfl (ixN_ok hv_18).1 (ixN_ok hv_18).2.1 ?_
   refine r_stX trivial rfl rfl rfl rfl rfl (aslot hv_18 rfl) (cs':=[jI ((aset out j3 (wr ((out j)+r0_2))) 0),jI ((aset out j3 (wr ((out j)+r0_2))) 1),jI ((aset out j3 (wr ((out j)+r0_2))) 2),jI ((aset out j3 (wr ((out j)+r0_2))) 3),jI ((aset out j3 (wr ((out j)+r0_2))) 4)]) (ast (w:=out) (c:=fun z=>jI z) hv_18) ?_
   refine Fi (sT [pR 2 0,pR 4 1,pR 5 2,(9,.d (q1 plan)),(10,jI (plan.length:Int)),(11,jI v)] [(2,.var 89 [jI ((aset out j3 (wr ((out j)+r0_2))) 0),jI ((aset out j3 (wr ((out j)+r0_2))) 1),jI ((aset out j3 (wr ((out j)+r0_2))) 2),jI ((aset out j3 (wr ((out j)+r0_2))) 3),jI ((aset out j3 (wr ((out j)+r0_2))) 4)]),(1,.var 89 [jI 0,jI 0,jI 0,jI 0,jI 0]),(0,.var 81 (hbm b_B mf))] 3 0) ?_
   refine hK_8 _ ?_
   refine Ra (sT [pR 2 0,pR 4 1,pR 5 2,(9,.d (q1 plan)),(10,jI (plan.length:Int)),(11,jI (wr (v+1)))] [(2,.var 89 [jI ((aset out j3 (wr ((out j)+r0_2))) 0),jI ((aset out j3 (wr ((out j)+r0_2))) 1),jI ((aset out j3 (wr ((out j)+r0_2))) 2),jI ((aset out j3 (wr ((out j)+r0_2))) 3),jI ((aset out j3 (wr ((out j)+r0_2))) 4)]),(1,.var 89 [jI 0,jI 0,jI 0,jI 0,jI 0]),(0,.var 81 (hbm b_B mf))] 3 0) ?_
   obtain rfl:=Option.some.inj h
   have ew:wr (v+1)=v+1:=inext (N:=(plan.length:Int)) (by omega) (by omega) (by omega)
   rw [ew]
   exact hK_5 _ (Can.kp (by kernel_rfl))
  ·cases h
 ·subst hout
  refine Sa (sT [pR 2 0,pR 4 1,pR 5 2,(9,.d (q1 plan)),(10,jI (plan.length:Int)),(11,jI v),(12,.d (.bool (decide (v<(plan.length:Int)))))] (y26 out b_B mf) 3 0) ?_
  refine AW.seqK (fun K_19 hK_19=>?_)
  refine AW.cond rfl (fun hb_20=>False.elim (by have:=of_decide_eq_true hb_20;omega)) (fun hb_20=>?_)
  refine AW.exit ?_
  refine hK_3 _ ?_
  refine Sa (sT [pR 4 1] [(1,.var 89 (cfv out))] 3 0) ?_
  obtain rfl:=Option.some.inj h
  exact rT hR_0 (.cons (.agg rfl rfl (Nat.le_of_ble_eq_true rfl)) .nil)
def g36_17 (b_B:HairBook) (mf:List (Hair_dye×Span)) (plan:(List Int)):Int→HairHorse→Unit→Option (Ctl (Unit) (Bool)):=fun v1 p1 _=>(ixL plan (wr (2*v1))).bind fun p2=>(ixL plan (wr ((wr (2*v1))+1))).bind fun p3=>(g45 b_B mf v1 p2 p3).bind fun r0=>bif (!r0) then (some (.brk false)) else (some (.next ()))
def g36_5 (r0_3:(Nat→Int)):Int→HairHank→Unit→Option (Ctl (Unit) (Bool)):=fun v p _=>(ixN 5 v).bind fun j=>bif (decide (p.Weight.Low<(r0_3 j))) then (some (.brk false)) else (some (.next ()))
def g36 (b_B:HairBook) (mf:List (Hair_dye×Span)) (plan:(List Int)):Option Bool:=(g37 b_B mf plan).bind fun r0_3=>bindC (eachC (g36_5 r0_3) b_B.Hanks 0 ()) fun _=>bindC (eachC (g36_17 b_B mf plan) b_B.Horses 0 ()) fun _=>some true
theorem k36 (b_B:HairBook) (mf:List (Hair_dye×Span)) (plan:(List Int)) (r:Bool) (h:g36 b_B mf plan=some r):SCall Tryd.prog Gs 36 [.agg (hbm b_B mf),.d (q1 plan)] [] 0 Fr.emp (.d (.bool r)) [] 0 Fr.emp:=by
 unfold g36 at h
 refine SCall.mkK Tryd.func36 c36 rfl rfl (by kernel_rfl) (fun Q_0 hR_0 hN_0=>?_)
 refine Sa (sT [(1,.d (q1 plan)),pR 2 0] [(0,.var 81 (hbm b_B mf))] 1 0) ?_
 refine AW.srwK (fun Q_1 hQ_1=>?_)
 refine Au 2 (sT [(1,.d (q1 plan)),pR 2 0,(9,.agg (hbm b_B mf)),(10,.d (q1 plan))] [(0,.var 81 (hbm b_B mf))] 1 0) ?_
 obtain ⟨r0_3,hx_2,h⟩:=bsome h
 refine rC (k37 b_B mf plan _ hx_2) ?_
 refine Au 2 (sT [(1,.d (q1 plan)),pR 2 0,pR 5 1] [(1,.var 89 (cfv r0_3)),(0,.var 81 (hbm b_B mf))] 2 0) ?_
 refine RW.nil (hQ_1 _ ?_)
 refine AW.seqK fun K_3 hK_3=>AW.srwK fun Q_4 hQ_4=>?_
 refine Au 3 (sT [(1,.d (q1 plan)),pR 2 0,pR 5 1,(14,.d (.sl 4 (List.map e62 b_B.Hanks)))] [(1,.var 89 (cfv r0_3)),(0,.var 81 (hbm b_B mf))] 2 0) ?_
 refine rL rfl ?_
 refine Au 1 (sT [(1,.d (q1 plan)),pR 2 0,pR 5 1,(14,.d (.sl 4 (List.map e62 b_B.Hanks))),(15,jI (b_B.Hanks.length:Int)),(16,jI 0)] [(1,.var 89 (cfv r0_3)),(0,.var 81 (hbm b_B mf))] 2 0) ?_
 refine RW.nil (hQ_4 _ ?_)
 refine AW.block ?_
 refine AW.sln (t:=14) rfl (fun hN_5=>?_)
 rw [List.length_map] at hN_5
 obtain ⟨out_5,hx_5,hk_5⟩:=bsomeC h
 refine AW.evCK (fun (v:Int) (_:Unit)=>(sT [(1,.d (q1 plan)),pR 2 0,pR 5 1,(14,.d (.sl 4 (List.map e62 b_B.Hanks))),(15,jI (b_B.Hanks.length:Int)),(16,jI v)] [(1,.var 89 (cfv r0_3)),(0,.var 81 (hbm b_B mf))] 2 0)) (g36_5 r0_3) hx_5 (Can.kp (by kernel_rfl)) (fun v p s_5 hi_5 hl_5 hp_5 c_5 h hb_5 K_5 hK_5=>?_) (fun v s_5 hi_5 hl_5 hout=>?_)
 ·unfold g36_5 at h
  refine Sa (sT [(1,.d (q1 plan)),pR 2 0,pR 5 1,(14,.d (.sl 4 (List.map e62 b_B.Hanks))),(15,jI (b_B.Hanks.length:Int)),(16,jI v),(17,.d (.bool (decide (v<(b_B.Hanks.length:Int)))))] [(1,.var 89 (cfv r0_3)),(0,.var 81 (hbm b_B mf))] 2 0) ?_
  refine AW.seqK (fun K_6 hK_6=>?_)
  refine AW.cond rfl (fun hb_7=>?_) (fun hb_7=>False.elim (by have:=of_decide_eq_false hb_7;omega))
  refine AW.skip (hK_6 _ ?_)
  refine AW.seqK (fun K_8 hK_8=>?_)
  refine AW.block ?_
  refine AW.srwK (fun Q_9 hQ_9=>?_)
  refine Au 1 (sT [(1,.d (q1 plan)),pR 2 0,pR 5 1,(14,.d (.sl 4 (List.map e62 b_B.Hanks))),(15,jI (b_B.Hanks.length:Int)),(16,jI v),(18,jI v)] [(1,.var 89 (cfv r0_3)),(0,.var 81 (hbm b_B mf))] 2 0) ?_
  refine RW.one fokW (r_iaD trivial rfl rfl hi_5 (row:=e62 p) (mapget hp_5) (r_end ?_))
  refine Au 4 (sT [(1,.d (q1 plan)),pR 2 0,pR 5 1,(6,jI v),pR 7 2,(14,.d (.sl 4 (List.map e62 b_B.Hanks))),(15,jI (b_B.Hanks.length:Int)),(16,jI v)] [(2,.var 62 (cv62 p)),(1,.var 89 (cfv r0_3)),(0,.var 81 (hbm b_B mf))] 3 0) ?_
  refine RW.nil (hQ_9 _ ?_)
  refine AW.sdrwK fokW (fun Q_10 hQ_10=>?_)
  refine aX 1 (sT [(1,.d (q1 plan)),pR 2 0,pR 5 1,pR 7 2,(14,.d (.sl 4 (List.map e62 b_B.Hanks))),(15,jI (b_B.Hanks.length:Int)),(16,jI v),(21,jI v)] [(2,.var 62 (cv62 p)),(1,.var 89 (cfv r0_3)),(0,.var 81 (hbm b_B mf))] 3 0) ?_
  obtain ⟨j,hv_11,h⟩:=bsome h
  refine r_iaV trivial rfl rfl rfl (ixN_ok hv_11).1 (ixN_ok hv_11).2.1 ?_
  refine r_loadV trivial rfl rfl (u:=jI (r0_3 j)) (agt (f:=fun k=>jI (r0_3 k)) hv_11) ?_
  refine aX 4 (sT [(1,.d (q1 plan)),pR 2 0,pR 5 1,(14,.d (.sl 4 (List.map e62 b_B.Hanks))),(15,jI (b_B.Hanks.length:Int)),(16,jI v),(27,.d (.bool (decide (p.Weight.Low<(r0_3 j)))))] [(2,.var 62 (cv62 p)),(1,.var 89 (cfv r0_3)),(0,.var 81 (hbm b_B mf))] 3 0) ?_
  refine Fi (sT [(1,.d (q1 plan)),pR 2 0,pR 5 1,(14,.d (.sl 4 (List.map e62 b_B.Hanks))),(15,jI (b_B.Hanks.length:Int)),(16,jI v),(27,.d (.bool (decide (p.Weight.Low<(r0_3 j)))))] [(1,.var 89 (cfv r0_3)),(0,.var 81 (hbm b_B mf))] 3 0) ?_
  refine hQ_10 _ ?_
  refine AW.cond rfl (fun hb_12=>?_) (fun hb_12=>?_)
  ·have h:=ifT hb_12 h
   refine Sa (sT [(4,.d (.bool false))] [] 3 0) ?_
   obtain rfl:=Option.some.inj h
   have e_1:=hb_5 _ rfl
   subst e_1
   obtain rfl:=Aft.bk hk_5
   exact rT hR_0 (.cons (.tmp rfl) .nil)
  ·have h:=ifF hb_12 h
   refine AW.skip (hK_8 _ ?_)
   refine Ra (sT [(1,.d (q1 plan)),pR 2 0,pR 5 1,(14,.d (.sl 4 (List.map e62 b_B.Hanks))),(15,jI (b_B.Hanks.length:Int)),(16,jI (wr (v+1)))] [(1,.var 89 (cfv r0_3)),(0,.var 81 (hbm b_B mf))] 3 0) ?_
   obtain rfl:=Option.some.inj h
   have ew:wr (v+1)=v+1:=inext (N:=(b_B.Hanks.length:Int)) (by omega) (by omega) (by omega)
   rw [ew]
   exact hK_5 _ _ rfl (Can.kp (by kernel_rfl))
 ·subst hout
  have h:=Aft.nx hk_5
  refine Sa (sT [(1,.d (q1 plan)),pR 2 0,pR 5 1,(14,.d (.sl 4 (List.map e62 b_B.Hanks))),(15,jI (b_B.Hanks.length:Int)),(16,jI v),(17,.d (.bool (decide (v<(b_B.Hanks.length:Int)))))] [(1,.var 89 (cfv r0_3)),(0,.var 81 (hbm b_B mf))] 2 0) ?_
  refine AW.seqK (fun K_13 hK_13=>?_)
  refine AW.cond rfl (fun hb_14=>False.elim (by have:=of_decide_eq_true hb_14;omega)) (fun hb_14=>?_)
  refine AW.exit ?_
  refine hK_3 _ ?_
  refine AW.seqK fun K_15 hK_15=>AW.srwK fun Q_16 hQ_16=>?_
  refine Au 3 (sT [(1,.d (q1 plan)),pR 2 0,(31,.d (.sl 3 (List.map e64 b_B.Horses)))] [(0,.var 81 (hbm b_B mf))] 2 0) ?_
  refine rL rfl ?_
  refine Au 1 (sT [(1,.d (q1 plan)),pR 2 0,(32,jI (b_B.Horses.length:Int)),(33,jI 0)] [(0,.var 81 (hbm b_B mf))] 2 0) ?_
  refine RW.nil (hQ_16 _ ?_)
  refine AW.block ?_
  refine AW.slh (r:=0) (off:=1) rfl rfl (fun hN_17=>?_)
  rw [List.length_map] at hN_17
  obtain ⟨out_17,hx_17,hk_17⟩:=bsomeC h
  refine AW.evCK (fun (v1:Int) (_:Unit)=>(sT [(1,.d (q1 plan)),pR 2 0,(32,jI (b_B.Horses.length:Int)),(33,jI v1)] [(0,.var 81 (hbm b_B mf))] 2 0)) (g36_17 b_B mf plan) hx_17 (Can.kp (by kernel_rfl)) (fun v1 p1 s_17 hi_17 hl_17 hp_17 c_17 h hb_17 K_17 hK_17=>?_) (fun v1 s_17 hi_17 hl_17 hout=>?_)
  ·unfold g36_17 at h
   refine Sa (sT [(1,.d (q1 plan)),pR 2 0,(32,jI (b_B.Horses.length:Int)),(33,jI v1),(34,.d (.bool (decide (v1<(b_B.Horses.length:Int)))))] [(0,.var 81 (hbm b_B mf))] 2 0) ?_
   refine AW.seqK (fun K_18 hK_18=>?_)
   refine AW.cond rfl (fun hb_19=>?_) (fun hb_19=>False.elim (by have:=of_decide_eq_false hb_19;omega))
   refine AW.skip (hK_18 _ ?_)
   refine AW.seqK (fun K_20 hK_20=>?_)
   refine AW.block ?_
   refine Sa (sT [(1,.d (q1 plan)),pR 2 0,(8,jI v1),(32,jI (b_B.Horses.length:Int)),(33,jI v1)] [(0,.var 81 (hbm b_B mf))] 2 0) ?_
   refine AW.sdrwK fokW (fun Q_21 hQ_21=>?_)
   refine aX 5 (sT [(1,.d (q1 plan)),pR 2 0,(8,jI v1),(32,jI (b_B.Horses.length:Int)),(33,jI v1),(36,.agg (hbm b_B mf)),(37,jI v1),(38,.d (q1 plan)),(40,jI (wr (2*v1)))] [(0,.var 81 (hbm b_B mf))] 2 0) ?_
   obtain ⟨p2,hv_22,h⟩:=bsome h
   refine r_iaD trivial rfl rfl (ixL_ok hv_22).1 (row:=e3 p2) (mapget (ixL_ok hv_22).2) ?_
   refine aX 5 (sT [(1,.d (q1 plan)),pR 2 0,(32,jI (b_B.Horses.length:Int)),(33,jI v1),(36,.agg (hbm b_B mf)),(37,jI v1),(42,jI p2),(43,.d (q1 plan)),(46,jI (wr ((wr (2*v1))+1)))] [(0,.var 81 (hbm b_B mf))] 2 0) ?_
   obtain ⟨p3,hv_23,h⟩:=bsome h
   refine r_iaD trivial rfl rfl (ixL_ok hv_23).1 (row:=e3 p3) (mapget (ixL_ok hv_23).2) ?_
   refine aX 1 (sT [(1,.d (q1 plan)),pR 2 0,(32,jI (b_B.Horses.length:Int)),(33,jI v1),(36,.agg (hbm b_B mf)),(37,jI v1),(42,jI p2),(48,jI p3)] [(0,.var 81 (hbm b_B mf))] 2 0) ?_
   obtain ⟨r0,hx_24,h⟩:=bsome h
   refine r_call trivial rfl (k45 b_B mf v1 p2 p3 _ hx_24) rfl rfl ?_
   refine aX 1 (sT [(1,.d (q1 plan)),pR 2 0,(32,jI (b_B.Horses.length:Int)),(33,jI v1),(50,.d (.bool (!r0)))] [(0,.var 81 (hbm b_B mf))] 2 0) ?_
   refine Fi (sT [(1,.d (q1 plan)),pR 2 0,(32,jI (b_B.Horses.length:Int)),(33,jI v1),(50,.d (.bool (!r0)))] [(0,.var 81 (hbm b_B mf))] 2 0) ?_
   refine hQ_21 _ ?_
   refine AW.cond rfl (fun hb_25=>?_) (fun hb_25=>?_)
   ·have h:=ifT hb_25 h
    refine Sa (sT [(4,.d (.bool false))] [] 2 0) ?_
    obtain rfl:=Option.some.inj h
    have e_1:=hb_17 _ rfl
    subst e_1
    obtain rfl:=Aft.bk hk_17
    exact rT hR_0 (.cons (.tmp rfl) .nil)
   ·have h:=ifF hb_25 h
    refine AW.skip (hK_20 _ ?_)
    refine Ra (sT [(1,.d (q1 plan)),pR 2 0,(32,jI (b_B.Horses.length:Int)),(33,jI (wr (v1+1)))] [(0,.var 81 (hbm b_B mf))] 2 0) ?_
    obtain rfl:=Option.some.inj h
    have ew:wr (v1+1)=v1+1:=inext (N:=(b_B.Horses.length:Int)) (by omega) (by omega) (by omega)
    rw [ew]
    exact hK_17 _ _ rfl (Can.kp (by kernel_rfl))
  ·subst hout
   have h:=Aft.nx hk_17
   refine Sa (sT [(1,.d (q1 plan)),pR 2 0,(32,jI (b_B.Horses.length:Int)),(33,jI v1),(34,.d (.bool (decide (v1<(b_B.Horses.length:Int)))))] [(0,.var 81 (hbm b_B mf))] 2 0) ?_
   refine AW.seqK (fun K_26 hK_26=>?_)
   refine AW.cond rfl (fun hb_27=>False.elim (by have:=of_decide_eq_true hb_27;omega)) (fun hb_27=>?_)
   refine AW.exit ?_
   refine hK_15 _ ?_
   refine Sa (sT [(4,.d (.bool true))] [] 2 0) ?_
   obtain rfl:=Option.some.inj h
   exact rT hR_0 (.cons (.tmp rfl) .nil)
end Go.Proofs.Tp
namespace Go.Proofs.Tp
open Go Go.Abs Go.Proofs
def g34 (b_B:HairBook) (mf:List (Hair_dye×Span)) (o0:(List Int)):Option Bool:=(g35 b_B mf o0).bind fun r0_1=>(bif r0_1 then ((g36 b_B mf o0).bind fun r0_4=>some r0_4) else (some false)).bind fun v=>some v
theorem k34 (b_B:HairBook) (mf:List (Hair_dye×Span)) (o0:(List Int)) (r:Bool) (h:g34 b_B mf o0=some r):SCall Tryd.prog Gs 34 [.agg (hbm b_B mf),.ptr 0 0] [(0,.var 33 [.d (q1 o0)])] 1 Fr.emp (.d (.bool r)) [(0,.var 33 [.d (q1 o0)])] 1 Fr.emp:=by
 unfold g34 at h
 refine SCall.mkK Tryd.func34 c34 rfl rfl (by kernel_rfl) (fun Q_0 hR_0 hN_0=>?_)
 refine Sa (sT [pR 1 0,pR 2 1] [(1,.var 81 (hbm b_B mf)),(0,.var 33 [.d (q1 o0)])] 2 1) ?_
 refine AW.srwK (fun Q_1 hQ_1=>?_)
 refine Au 2 (sT [pR 1 0,pR 2 1,(4,.agg (hbm b_B mf)),(5,.d (q1 o0))] [(1,.var 81 (hbm b_B mf)),(0,.var 33 [.d (q1 o0)])] 2 1) ?_
 obtain ⟨r0_1,hx_2,h⟩:=bsome h
 refine rC (k35 b_B mf o0 _ hx_2) ?_
 refine Au 1 (sT [pR 1 0,pR 2 1,(7,.d (.bool r0_1))] [(1,.var 81 (hbm b_B mf)),(0,.var 33 [.d (q1 o0)])] 2 1) ?_
 obtain ⟨v,hx_3,h⟩:=bsome h
 refine RW.cut fokW 4 ((sT [(11,.d (.bool v))] [(0,.var 33 [.d (q1 o0)])] 2 1)) ?_ ?_
 ·refine r_split 7 rfl (fun hb_5=>?_) (fun hb_5=>?_)
  ·have h:=ifT hb_5 hx_3
   refine aX 2 (sT [(7,.d (.bool true)),(8,.agg (hbm b_B mf)),(9,.d (q1 o0))] [(1,.var 81 (hbm b_B mf)),(0,.var 33 [.d (q1 o0)])] 2 1) ?_
   obtain ⟨r0_4,hx_4,h⟩:=bsome h
   refine r_call rfl rfl (k36 b_B mf o0 _ hx_4) rfl rfl ?_
   refine aX 1 (sT [(11,.d (.bool r0_4))] [(1,.var 81 (hbm b_B mf)),(0,.var 33 [.d (q1 o0)])] 2 1) ?_
   obtain rfl:=Option.some.inj h
   refine RunC.finJ (Can.kp (by kernel_rfl))
  ·have h:=ifF hb_5 hx_3
   refine aX 4 (sT [(11,.d (.bool false))] [(1,.var 81 (hbm b_B mf)),(0,.var 33 [.d (q1 o0)])] 2 1) ?_
   obtain rfl:=Option.some.inj h
   refine RunC.finJ (Can.kp (by kernel_rfl))
 ·refine Au 1 (sT [(3,.d (.bool v))] [(0,.var 33 [.d (q1 o0)])] 2 1) ?_
  refine RW.nil (hQ_1 _ ?_)
  obtain rfl:=Option.some.inj h
  exact rT hR_0 (.cons (.tmp rfl) .nil)
def g33 (x:HairBook) (o0:(List Int)):Option (Ctl (HairBook×Int) (HairBook×(List (Hair_dye×Span))×Int)):=(g30 x).bind fun r0_9=>bif (decide (r0_9≠0)) then (some (.next ((HairBook.mk [] [] 0 0 0),r0_9))) else ((g31 x).bind fun (r0_B,mf)=>(g34 r0_B mf o0).bind fun r0=>bif (!r0) then (some (.brk (r0_B,mf,61))) else (some (.brk (r0_B,mf,0))))
def y27 (x:HairBook) (o0:(List Int)):List (Nat×Blk):=[(2,.var 81 [.d (.nilSl),.d (.nilSl),jI 0,jI 0,jI 0,.d (.nilMap)]),(1,.var 39 (cv39 x)),(0,.var 33 [.d (q1 o0)])]
def y28 (o0:(List Int)):List (Nat×Blk):=[(2,.var 81 [.d (.nilSl),.d (.nilSl),jI 0,jI 0,jI 0,.d (.nilMap)]),(0,.var 33 [.d (q1 o0)])]
theorem k33 (x:HairBook) (o0:(List Int)) (r:Ctl (HairBook×Int) (HairBook×(List (Hair_dye×Span))×Int)) (h:g33 x o0=some r):SCall Tryd.prog Gs 33 [.agg (cv39 x),.clo 34 [] [.ptr 0 0]] [(0,.var 33 [.d (q1 o0)])] 1 Fr.emp (match r with | .next (r0_B4,r1_1)=>.tup [.agg [.d (.sl 4 (List.map e62 r0_B4.Hanks)),.d (.sl 3 (List.map e64 r0_B4.Horses)),jI r0_B4.Dark,jI r0_B4.Near,jI r0_B4.Match,.d (.nilMap)],jI r1_1] | .brk (r0_B5,mf2,r1_2)=>.tup [.agg (hbm r0_B5 mf2),jI r1_2]) (match r with | .next (r0_B4,r1_1)=>[(0,.var 33 [.d (q1 o0)])] | .brk (r0_B5,mf2,r1_2)=>[(0,.var 33 [.d (q1 o0)])]) 1 Fr.emp:=by
 unfold g33 at h
 refine SCall.mkK Tryd.func33 c33 rfl (by rcases r with _ | _<;>rfl) (by rcases r with _ | _<;>kernel_rfl) (fun Q_0 hR_0 hN_0=>?_)
 refine Sa (sT [(1,.clo 34 [] [.ptr 0 0]),pR 2 1,pR 4 2] (y27 x o0) 3 1) ?_
 refine AW.seqK fun K_1 hK_1=>AW.srwK fun Q_2 hQ_2=>?_
 refine Au 1 (sT [(1,.clo 34 [] [.ptr 0 0]),pR 2 1,pR 4 2,(8,.agg (cv39 x))] (y27 x o0) 3 1) ?_
 obtain ⟨r0_9,hx_3,h⟩:=bsome h
 refine rC (k30 x _ hx_3) ?_
 refine Au 1 (sT [(1,.clo 34 [] [.ptr 0 0]),pR 2 1,pR 4 2,(6,jI r0_9)] (y27 x o0) 3 1) ?_
 refine RW.nil (hQ_2 _ ?_)
 refine Sa (sT [(1,.clo 34 [] [.ptr 0 0]),pR 2 1,pR 4 2,(6,jI r0_9),(11,.d (.bool (decide (r0_9≠0))))] (y27 x o0) 3 1) ?_
 refine AW.cond rfl (fun hb_4=>?_) (fun hb_4=>?_)
 ·have h:=ifT hb_4 h
  refine Sa (sT [pR 4 2,(5,jI r0_9)] (y28 o0) 3 1) ?_
  obtain rfl:=Option.some.inj h
  exact AW.ret (hR_0 _ (retX (.cons (.agg rfl rfl (Nat.le_of_ble_eq_true rfl)) (.cons (.tmp rfl) .nil)) (Frz.tup_of ⟨Frz.agg_of ⟨(.nil 4),(.nil 3),.refl _,.refl _,.refl _,.refl _,trivial⟩,.refl _,trivial⟩) rfl (by kernel_rfl) (by kernel_rfl)))
 ·have h:=ifF hb_4 h
  refine AW.skip (hK_1 _ ?_)
  refine AW.srwK (fun Q_5 hQ_5=>?_)
  refine Au 1 (sT [(1,.clo 34 [] [.ptr 0 0]),pR 4 2,(14,.agg (cv39 x))] (y28 o0) 3 1) ?_
  obtain ⟨⟨r0_B,mf⟩,hx_6,h⟩:=bsome h
  refine rC (k31 x _ hx_6) ?_
  refine Au 2 (sT [(1,.clo 34 [] [.ptr 0 0]),pR 4 2,pR 7 3] [(3,.var 81 (hbm r0_B mf)),(2,.var 81 [.d (.nilSl),.d (.nilSl),jI 0,jI 0,jI 0,.d (.nilMap)]),(0,.var 33 [.d (q1 o0)])] 4 1) ?_
  refine RW.nil (hQ_5 _ ?_)
  refine AW.seqK fun K_7 hK_7=>AW.srwK fun Q_8 hQ_8=>?_
  refine Au 2 (sT [pR 4 2,pR 7 3,(16,.clo 34 [] [.ptr 0 0]),(17,.agg (hbm r0_B mf))] [(3,.var 81 (hbm r0_B mf)),(2,.var 81 [.d (.nilSl),.d (.nilSl),jI 0,jI 0,jI 0,.d (.nilMap)]),(0,.var 33 [.d (q1 o0)])] 4 1) ?_
  obtain ⟨r0,hx_9,h⟩:=bsome h
  refine RW.one fokW (r_callvE (zr:=[]) [0] trivial rfl (.clo _ _ _) (by kernel_rfl) rfl (k34 r0_B mf o0 _ hx_9) ⟨rfl,trivial⟩ rfl rfl ⟨.refl _,.refl _,trivial⟩ rfl rfl rfl (r_end ?_))
  refine Au 1 (sT [pR 4 2,pR 7 3,(19,.d (.bool (!r0)))] [(0,.var 33 [.d (q1 o0)]),(3,.var 81 (hbm r0_B mf)),(2,.var 81 [.d (.nilSl),.d (.nilSl),jI 0,jI 0,jI 0,.d (.nilMap)])] 4 1) ?_
  refine RW.nil (hQ_8 _ ?_)
  refine AW.cond rfl (fun hb_10=>?_) (fun hb_10=>?_)
  ·have h:=ifT hb_10 h
   refine Sa (sT [pR 4 2,(5,jI 61)] [(2,.var 81 (hbm r0_B mf)),(0,.var 33 [.d (q1 o0)])] 4 1) ?_
   obtain rfl:=Option.some.inj h
   exact rT hR_0 (.cons (.agg rfl rfl (Nat.le_of_ble_eq_true rfl)) (.cons (.tmp rfl) .nil))
  ·have h:=ifF hb_10 h
   refine AW.skip (hK_7 _ ?_)
   refine Sa (sT [pR 4 2,(5,jI 0)] [(2,.var 81 (hbm r0_B mf)),(0,.var 33 [.d (q1 o0)])] 4 1) ?_
   obtain rfl:=Option.some.inj h
   exact rT hR_0 (.cons (.agg rfl rfl (Nat.le_of_ble_eq_true rfl)) (.cons (.tmp rfl) .nil))
def g38a_7 (cut:(Nat→Int)):Int→HairHank→Int→Option Int:=fun v p n=>(ixN 5 v).bind fun j=>bif (decide (0<(cut j))) then ((g60 p.Weight).bind fun r0_1=>(ixN 5 v).bind fun j1=>some (wr (n+(wr (r0_1 - (cut j1)))))) else (some n)
def g38a (b_B:HairBook) (mf:List (Hair_dye×Span)) (cut:(Nat→Int)):Option Int:=(g59).bind fun r0=>bif (false != (((cut 0)==(r0 0))&&(((cut 1)==(r0 1))&&(((cut 2)==(r0 2))&&(((cut 3)==(r0 3))&&(((cut 4)==(r0 4))&&true)))))) then (some 0) else ((eachS (g38a_7 cut) b_B.Hanks 0 0).bind fun n=>some n)
def y29 (cut:(Nat→Int)) (b_B:HairBook) (mf:List (Hair_dye×Span)):List (Nat×Blk):=[(2,.var 94 [.d (.fn 60)]),(1,.var 89 (cfv cut)),(0,.var 81 (hbm b_B mf))]
theorem k38a (b_B:HairBook) (mf:List (Hair_dye×Span)) (cut:(Nat→Int)) (r:Int) (h:g38a b_B mf cut=some r):SCall Tryd.prog Gs 38 [.agg (hbm b_B mf),.agg (cfv cut),.agg [.d (.fn 60)]] [] 0 Fr.emp (jI r) [] 0 Fr.emp:=by
 unfold g38a at h
 refine SCall.mkK Tryd.func38 c38 rfl rfl (by kernel_rfl) (fun Q_0 hR_0 hN_0=>?_)
 refine Sa (sT [pR 3 0,pR 4 1,pR 5 2] (y29 cut b_B mf) 3 0) ?_
 refine Sa (sT [pR 3 0,pR 4 1,pR 5 2,(7,jI 0)] (y29 cut b_B mf) 3 0) ?_
 refine AW.seqK (fun K_1 hK_1=>?_)
 refine AW.sdrwK fokW (fun Q_2 hQ_2=>?_)
 refine aX 1 (sT [pR 3 0,pR 4 1,pR 5 2,(7,jI 0),(10,.agg (cfv cut))] (y29 cut b_B mf) 3 0) ?_
 obtain ⟨r0,hx_3,h⟩:=bsome h
 refine r_call trivial rfl (k59 _ hx_3) rfl rfl ?_
 refine r_aeq trivial rfl rfl rfl rfl ft89 rfl rfl rfl ?_
 refine Fi (sT [pR 3 0,pR 4 1,pR 5 2,(7,jI 0),(12,.d (.bool (false != (((cut 0)==(r0 0))&&(((cut 1)==(r0 1))&&(((cut 2)==(r0 2))&&(((cut 3)==(r0 3))&&(((cut 4)==(r0 4))&&true))))))))] (y29 cut b_B mf) 3 0) ?_
 refine hQ_2 _ ?_
 refine AW.cond rfl (fun hb_4=>?_) (fun hb_4=>?_)
 ·have h:=ifT hb_4 h
  refine Sa (sT [(6,jI 0)] [] 3 0) ?_
  obtain rfl:=Option.some.inj h
  exact rT hR_0 (.cons (.tmp rfl) .nil)
 ·have h:=ifF hb_4 h
  refine AW.skip (hK_1 _ ?_)
  refine AW.seqK fun K_5 hK_5=>AW.srwK fun Q_6 hQ_6=>?_
  refine Au 3 (sT [pR 4 1,pR 5 2,(7,jI 0),(16,.d (.sl 4 (List.map e62 b_B.Hanks)))] [(2,.var 94 [.d (.fn 60)]),(1,.var 89 (cfv cut))] 3 0) ?_
  refine rL rfl ?_
  refine Au 1 (sT [pR 4 1,pR 5 2,(7,jI 0),(16,.d (.sl 4 (List.map e62 b_B.Hanks))),(17,jI (b_B.Hanks.length:Int)),(18,jI 0)] [(2,.var 94 [.d (.fn 60)]),(1,.var 89 (cfv cut))] 3 0) ?_
  refine RW.nil (hQ_6 _ ?_)
  refine AW.block ?_
  refine AW.sln (t:=16) rfl (fun hN_7=>?_)
  rw [List.length_map] at hN_7
  obtain ⟨out_7,hx_7,h⟩:=bsome h
  refine AW.evSK (fun (v:Int) (n:Int)=>(sT [pR 4 1,pR 5 2,(7,jI n),(16,.d (.sl 4 (List.map e62 b_B.Hanks))),(17,jI (b_B.Hanks.length:Int)),(18,jI v)] [(2,.var 94 [.d (.fn 60)]),(1,.var 89 (cfv cut))] 3 0)) (g38a_7 cut) hx_7 (Can.kp (by kernel_rfl)) (fun v p n hi_7 hl_7 hp_7 c_7 h K_7 hK_7=>?_) (fun v n hi_7 hl_7 hout=>?_)
  ·unfold g38a_7 at h
   refine Sa (sT [pR 4 1,pR 5 2,(7,jI n),(16,.d (.sl 4 (List.map e62 b_B.Hanks))),(17,jI (b_B.Hanks.length:Int)),(18,jI v),(19,.d (.bool (decide (v<(b_B.Hanks.length:Int)))))] [(2,.var 94 [.d (.fn 60)]),(1,.var 89 (cfv cut))] 3 0) ?_
   refine AW.seqK (fun K_8 hK_8=>?_)
   refine AW.cond rfl (fun hb_9=>?_) (fun hb_9=>False.elim (by have:=of_decide_eq_false hb_9;omega))
   refine AW.skip (hK_8 _ ?_)
   refine AW.seqK (fun K_10 hK_10=>?_)
   refine AW.block ?_
   refine AW.srwK (fun Q_11 hQ_11=>?_)
   refine Au 1 (sT [pR 4 1,pR 5 2,(7,jI n),(16,.d (.sl 4 (List.map e62 b_B.Hanks))),(17,jI (b_B.Hanks.length:Int)),(18,jI v),(20,jI v)] [(2,.var 94 [.d (.fn 60)]),(1,.var 89 (cfv cut))] 3 0) ?_
   refine RW.one fokW (r_iaD trivial rfl rfl hi_7 (row:=e62 p) (mapget hp_7) (r_end ?_))
   refine Au 4 (sT [pR 4 1,pR 5 2,(7,jI n),(8,jI v),pR 9 3,(16,.d (.sl 4 (List.map e62 b_B.Hanks))),(17,jI (b_B.Hanks.length:Int)),(18,jI v)] [(3,.var 62 (cv62 p)),(2,.var 94 [.d (.fn 60)]),(1,.var 89 (cfv cut))] 4 0) ?_
   refine RW.nil (hQ_11 _ ?_)
   refine AW.srwK (fun Q_12 hQ_12=>?_)
   refine Au 1 (sT [pR 4 1,pR 5 2,(7,jI n),(8,jI v),pR 9 3,(16,.d (.sl 4 (List.map e62 b_B.Hanks))),(17,jI (b_B.Hanks.length:Int)),(18,jI v),(23,jI v)] [(3,.var 62 (cv62 p)),(2,.var 94 [.d (.fn 60)]),(1,.var 89 (cfv cut))] 4 0) ?_
   obtain ⟨j,hv_13,h⟩:=bsome h
   refine RW.one fokW (r_iaV trivial rfl rfl rfl (ixN_ok hv_13).1 (ixN_ok hv_13).2.1 (r_end ?_))
   refine RW.one fokW (r_loadV trivial rfl rfl (u:=jI (cut j)) (agt (f:=fun k=>jI (cut k)) hv_13) (r_end ?_))
   refine Au 1 (sT [pR 4 1,pR 5 2,(7,jI n),(8,jI v),pR 9 3,(16,.d (.sl 4 (List.map e62 b_B.Hanks))),(17,jI (b_B.Hanks.length:Int)),(18,jI v),(26,.d (.bool (decide (0<(cut j)))))] [(3,.var 62 (cv62 p)),(2,.var 94 [.d (.fn 60)]),(1,.var 89 (cfv cut))] 4 0) ?_
   refine RW.nil (hQ_12 _ ?_)
   refine AW.cond rfl (fun hb_14=>?_) (fun hb_14=>?_)
   ·have h:=ifT hb_14 h
    refine AW.drw fokW ?_
    refine aX 5 (sT [pR 4 1,pR 5 2,(8,jI v),(16,.d (.sl 4 (List.map e62 b_B.Hanks))),(17,jI (b_B.Hanks.length:Int)),(18,jI v),(27,jI n),(29,.d (.fn 60)),(31,.agg [jI p.Weight.Low,jI p.Weight.High])] [(3,.var 62 (cv62 p)),(2,.var 94 [.d (.fn 60)]),(1,.var 89 (cfv cut))] 4 0) ?_
    obtain ⟨r0_1,hx_16,h⟩:=bsome h
    refine r_callvZ (zr:=[]) trivial rfl (.fn _) (by kernel_rfl) rfl (k60 p.Weight _ hx_16) trivial ⟨.refl _,trivial⟩ rfl rfl rfl rfl ?_
    refine aX 1 (sT [pR 4 1,pR 5 2,(16,.d (.sl 4 (List.map e62 b_B.Hanks))),(17,jI (b_B.Hanks.length:Int)),(18,jI v),(27,jI n),(32,jI r0_1),(33,jI v)] [(3,.var 62 (cv62 p)),(2,.var 94 [.d (.fn 60)]),(1,.var 89 (cfv cut))] 4 0) ?_
    obtain ⟨j1,hv_17,h⟩:=bsome h
    refine r_iaV trivial rfl rfl rfl (ixN_ok hv_17).1 (ixN_ok hv_17).2.1 ?_
    refine r_loadV trivial rfl rfl (u:=jI (cut j1)) (agt (f:=fun k=>jI (cut k)) hv_17) ?_
    refine aX 3 (sT [pR 4 1,pR 5 2,(7,jI (wr (n+(wr (r0_1 - (cut j1)))))),(16,.d (.sl 4 (List.map e62 b_B.Hanks))),(17,jI (b_B.Hanks.length:Int)),(18,jI v)] [(3,.var 62 (cv62 p)),(2,.var 94 [.d (.fn 60)]),(1,.var 89 (cfv cut))] 4 0) ?_
    refine Fi (sT [pR 4 1,pR 5 2,(7,jI (wr (n+(wr (r0_1 - (cut j1)))))),(16,.d (.sl 4 (List.map e62 b_B.Hanks))),(17,jI (b_B.Hanks.length:Int)),(18,jI v)] [(2,.var 94 [.d (.fn 60)]),(1,.var 89 (cfv cut))] 4 0) ?_
    refine hK_10 _ ?_
    refine Ra (sT [pR 4 1,pR 5 2,(7,jI (wr (n+(wr (r0_1 - (cut j1)))))),(16,.d (.sl 4 (List.map e62 b_B.Hanks))),(17,jI (b_B.Hanks.length:Int)),(18,jI (wr (v+1)))] [(2,.var 94 [.d (.fn 60)]),(1,.var 89 (cfv cut))] 4 0) ?_
    obtain rfl:=Option.some.inj h
    have ew:wr (v+1)=v+1:=inext (N:=(b_B.Hanks.length:Int)) (by omega) (by omega) (by omega)
    rw [ew]
    exact hK_7 _ (Can.kp (by kernel_rfl))
   ·have h:=ifF hb_14 h
    refine AW.skip (hK_10 _ ?_)
    refine Ra (sT [pR 4 1,pR 5 2,(7,jI n),(16,.d (.sl 4 (List.map e62 b_B.Hanks))),(17,jI (b_B.Hanks.length:Int)),(18,jI (wr (v+1)))] [(2,.var 94 [.d (.fn 60)]),(1,.var 89 (cfv cut))] 4 0) ?_
    obtain rfl:=Option.some.inj h
    have ew:wr (v+1)=v+1:=inext (N:=(b_B.Hanks.length:Int)) (by omega) (by omega) (by omega)
    rw [ew]
    exact hK_7 _ (Can.kp (by kernel_rfl))
  ·subst hout
   refine Sa (sT [pR 4 1,pR 5 2,(7,jI n),(16,.d (.sl 4 (List.map e62 b_B.Hanks))),(17,jI (b_B.Hanks.length:Int)),(18,jI v),(19,.d (.bool (decide (v<(b_B.Hanks.length:Int)))))] [(2,.var 94 [.d (.fn 60)]),(1,.var 89 (cfv cut))] 3 0) ?_
   refine AW.seqK (fun K_18 hK_18=>?_)
   refine AW.cond rfl (fun hb_19=>False.elim (by have:=of_decide_eq_true hb_19;omega)) (fun hb_19=>?_)
   refine AW.exit ?_
   refine hK_5 _ ?_
   refine Sa (sT [(6,jI n)] [] 3 0) ?_
   obtain rfl:=Option.some.inj h
   exact rT hR_0 (.cons (.tmp rfl) .nil)
def g13 (x:HairBook) (plan:(List Int)):Option (Span×Int):=(g33 x plan).bind fun r_15=>match r_15 with | .next (r0_B4,r1_1)=>(must (decide (r1_1≠0))).bind fun _=>some ((Span.mk 0 0),r1_1) | .brk (r0_B5,mf2,r1_2)=>bif (decide (r1_2≠0)) then (some ((Span.mk 0 0),r1_2)) else ((g37 r0_B5 mf2 plan).bind fun r0_3=>(g39).bind fun _=>(g38a r0_B5 mf2 r0_3).bind fun r0_3_1=>(g40).bind fun _=>(g38 r0_B5 mf2 r0_3).bind fun r0_3_2=>some ((Span.mk r0_3_1 r0_3_2),0))
theorem k13 (x:HairBook) (plan:(List Int)) (r:Span×Int) (h:g13 x plan=some r):SCall Tryd.prog Gs 13 [.agg (cv39 x),.d (q1 plan)] [] 0 Fr.emp (match r with | (r0_2,r1_4)=>.tup [.agg [jI r0_2.Low,jI r0_2.High],jI r1_4]) [] 0 Fr.emp:=by
 unfold g13 at h
 refine SCall.mkK Tryd.func13 c13 rfl rfl (by kernel_rfl) (fun Q_0 hR_0 hN_0=>?_)
 refine Sa (sT [pR 2 0,pR 3 1,pR 4 2] [(2,.var 47 [jI 0,jI 0]),(1,.var 33 [.d (q1 plan)]),(0,.var 39 (cv39 x))] 3 0) ?_
 refine AW.srwK (fun Q_1 hQ_1=>?_)
 refine Au 2 (sT [pR 3 1,pR 4 2,(10,.agg (cv39 x)),(11,.clo 34 [] [.ptr 1 0])] [(2,.var 47 [jI 0,jI 0]),(1,.var 33 [.d (q1 plan)])] 3 0) ?_
 obtain ⟨r_15,hx_2,h⟩:=bsome h
 rcases r_15 with (⟨r0_B4,r1_1⟩ | (⟨r0_B5,mf2,r1_2⟩))
 ·refine RW.one fokW (r_callS (zr:=[]) [1] trivial rfl (k33 x plan _ hx_2) ⟨rfl,trivial⟩ rfl rfl ⟨.refl _,.refl _,trivial⟩ rfl rfl rfl (r_end ?_))
  obtain ⟨_,hv_3,h⟩:=bsome h
  have hf_4:=must_ok hv_3
  refine Au 6 (sT [pR 3 1,pR 4 2,pR 6 3,(7,jI r1_1)] [(3,.var 81 (catV (cv39 r0_B4) [.d (.nilMap)])),(1,.var 33 [.d (q1 plan)]),(2,.var 47 [jI 0,jI 0])] 4 0) ?_
  refine RW.nil (hQ_1 _ ?_)
  refine AW.seqK (fun K_5 hK_5=>?_)
  refine Sa (sT [pR 3 1,pR 4 2,pR 6 3,(7,jI r1_1),(16,.d (.bool (decide (r1_1≠0))))] [(3,.var 81 (catV (cv39 r0_B4) [.d (.nilMap)])),(1,.var 33 [.d (q1 plan)]),(2,.var 47 [jI 0,jI 0])] 4 0) ?_
  refine AW.cond rfl (fun hb_6=>?_) (fun hb_6=>False.elim (by rw [hf_4] at hb_6;cases hb_6))
  refine Sa (sT [pR 4 2,(5,jI r1_1)] [(2,.var 47 [jI 0,jI 0])] 4 0) ?_
  obtain rfl:=Option.some.inj h
  exact rT hR_0 (.cons (.agg rfl rfl (Nat.le_of_ble_eq_true rfl)) (.cons (.tmp rfl) .nil))
 ·refine RW.one fokW (r_callS (zr:=[]) [1] trivial rfl (k33 x plan _ hx_2) ⟨rfl,trivial⟩ rfl rfl ⟨.refl _,.refl _,trivial⟩ rfl rfl rfl (r_end ?_))
  refine Au 6 (sT [pR 3 1,pR 4 2,pR 6 3,(7,jI r1_2)] [(3,.var 81 (hbm r0_B5 mf2)),(1,.var 33 [.d (q1 plan)]),(2,.var 47 [jI 0,jI 0])] 4 0) ?_
  refine RW.nil (hQ_1 _ ?_)
  refine AW.seqK (fun K_7 hK_7=>?_)
  refine Sa (sT [pR 3 1,pR 4 2,pR 6 3,(7,jI r1_2),(16,.d (.bool (decide (r1_2≠0))))] [(3,.var 81 (hbm r0_B5 mf2)),(1,.var 33 [.d (q1 plan)]),(2,.var 47 [jI 0,jI 0])] 4 0) ?_
  refine AW.cond rfl (fun hb_8=>?_) (fun hb_8=>?_)
  ·have h:=ifT hb_8 h
   refine Sa (sT [pR 4 2,(5,jI r1_2)] [(2,.var 47 [jI 0,jI 0])] 4 0) ?_
   obtain rfl:=Option.some.inj h
   exact rT hR_0 (.cons (.agg rfl rfl (Nat.le_of_ble_eq_true rfl)) (.cons (.tmp rfl) .nil))
  ·have h:=ifF hb_8 h
   refine AW.skip (hK_7 _ ?_)
   refine AW.srwK (fun Q_9 hQ_9=>?_)
   refine Au 2 (sT [pR 4 2,pR 6 3,(19,.agg (hbm r0_B5 mf2)),(20,.d (q1 plan))] [(3,.var 81 (hbm r0_B5 mf2)),(2,.var 47 [jI 0,jI 0])] 4 0) ?_
   obtain ⟨r0_3,hx_10,h⟩:=bsome h
   refine rC (k37 r0_B5 mf2 plan _ hx_10) ?_
   refine Au 2 (sT [pR 4 2,pR 6 3,pR 8 4] [(4,.var 89 (cfv r0_3)),(3,.var 81 (hbm r0_B5 mf2)),(2,.var 47 [jI 0,jI 0])] 5 0) ?_
   refine RW.nil (hQ_9 _ ?_)
   refine AW.sdrwK fokW (fun Q_11 hQ_11=>?_)
   refine aX 2 (sT [pR 4 2,pR 6 3,pR 8 4,(22,.agg (hbm r0_B5 mf2)),(23,.agg (cfv r0_3))] [(4,.var 89 (cfv r0_3)),(3,.var 81 (hbm r0_B5 mf2)),(2,.var 47 [jI 0,jI 0])] 5 0) ?_
   obtain ⟨⟨⟩,hx_12,h⟩:=bsome h
   refine r_call trivial rfl (k39 _ hx_12) rfl rfl ?_
   obtain ⟨r0_3_1,hx_13,h⟩:=bsome h
   refine r_call trivial rfl (k38a r0_B5 mf2 r0_3 _ hx_13) rfl rfl ?_
   refine aX 2 (sT [pR 4 2,(25,jI r0_3_1),(26,.agg (hbm r0_B5 mf2)),(27,.agg (cfv r0_3))] [(4,.var 89 (cfv r0_3)),(3,.var 81 (hbm r0_B5 mf2)),(2,.var 47 [jI 0,jI 0])] 5 0) ?_
   obtain ⟨⟨⟩,hx_14,h⟩:=bsome h
   refine r_call trivial rfl (k40 _ hx_14) rfl rfl ?_
   obtain ⟨r0_3_2,hx_15,h⟩:=bsome h
   refine r_call trivial rfl (k38 r0_B5 mf2 r0_3 _ hx_15) rfl rfl ?_
   refine aX 3 (sT [pR 4 2,(5,jI 0)] [(2,.var 47 [jI r0_3_1,jI r0_3_2]),(4,.var 89 (cfv r0_3)),(3,.var 81 (hbm r0_B5 mf2))] 5 0) ?_
   refine Fi (sT [pR 4 2,(5,jI 0)] [(2,.var 47 [jI r0_3_1,jI r0_3_2])] 5 0) ?_
   refine hQ_11 _ ?_
   obtain rfl:=Option.some.inj h
   exact rT hR_0 (.cons (.agg rfl rfl (Nat.le_of_ble_eq_true rfl)) (.cons (.tmp rfl) .nil))
def g44a (b_B:HairBook) (mf:List (Hair_dye×Span)) (m0_B:HairBook) (mf_1:List (Hair_dye×Span)):Option (HairBook×(List (Hair_dye×Span))):=some (b_B,mf)
theorem k44a (b_B:HairBook) (mf:List (Hair_dye×Span)) (m0_B:HairBook) (mf_1:List (Hair_dye×Span)) (r:HairBook×(List (Hair_dye×Span))) (h:g44a b_B mf m0_B mf_1=some r):SCall Tryd.prog Gs 44 [.agg (hbm b_B mf),.agg [.d (.fn 61)],.clo 45 [.agg (hbm m0_B mf_1)] []] [] 0 Fr.emp (match r with | (o0_B,mf1)=>.clo 63 [] [.ptr 0 0,.ptr 1 0,.ptr 2 0]) (match r with | (o0_B,mf1)=>[(0,.var 81 (hbm o0_B mf1)),(1,.var 94 [.d (.fn 61)]),(2,.var 57 [.clo 45 [.agg (hbm m0_B mf_1)] []])]) 3 Fr.emp:=by
 unfold g44a at h
 refine SCall.mkK Tryd.func44 c44 rfl rfl (by kernel_rfl) (fun Q_0 hR_0 hN_0=>?_)
 refine Sa (sT [pR 3 0,pR 4 1,pR 5 2] [(2,.var 57 [.clo 45 [.agg (hbm m0_B mf_1)] []]),(1,.var 94 [.d (.fn 61)]),(0,.var 81 (hbm b_B mf))] 3 0) ?_
 refine Sa (sT [(6,.clo 63 [] [.ptr 0 0,.ptr 1 0,.ptr 2 0])] [(2,.var 57 [.clo 45 [.agg (hbm m0_B mf_1)] []]),(1,.var 94 [.d (.fn 61)]),(0,.var 81 (hbm b_B mf))] 3 0) ?_
 obtain rfl:=Option.some.inj h
 exact rT hR_0 (.cons (.tmp rfl) .nil)
def g64a_16 {S_:Type} (rec_:(List Int)→(Nat→Int)→HairBook→(List (Hair_dye×Span))→HairBook→(List (Hair_dye×Span))→S_→Option (Bool×S_)) (plan:(List Int)) (cut:(Nat→Int)) (o0_B:HairBook) (mf:List (Hair_dye×Span)) (m0_B:HairBook) (mf_1:List (Hair_dye×Span)) (need:Int):Int→HairHank→S_→Option (Ctl (S_) (Bool×S_)):=fun v p2 s_2=>bindC ((ixN 5 v).bind fun j1=>(g61 p2.Weight).bind fun r0_2=>bif (decide (r0_2<(wr ((cut j1)+need)))) then (some (.brk (.next s_2))) else (bif (decide (((plan.length:Int).tmod 2)=1)) then ((ixL plan (wr ((plan.length:Int) - 1))).bind fun p3=>(g45 m0_B mf_1 (wr ((plan.length:Int).tdiv 2)) p3 v).bind fun r0_3=>bif (!r0_3) then (some (.brk (.next s_2))) else (some (.next ()))) else (some (.next ()))):Option (Ctl (Unit) (Ctl (S_) (Bool×S_)))) fun _=>(ixN 5 v).bind fun j2=>(ixN 5 v).bind fun j3=>(slcL plan 0 (plan.length:Int)).bind fun l=>(appL 8 l [v]).bind fun l1=>(rec_ l1 (aset cut j3 (wr ((cut j2)+need))) o0_B mf m0_B mf_1 s_2).bind fun (r0_7_1,s_5_1)=>bif (!r0_7_1) then (some (.brk (false,s_5_1))) else (some (.next s_5_1))
def g64a {S_:Type} (c_:(List Int)→(Nat→Int)→S_→Option (S_×Bool)):Nat→(List Int)→(Nat→Int)→HairBook→(List (Hair_dye×Span))→HairBook→(List (Hair_dye×Span))→S_→Option (Bool×S_)
 | 0,_,_,_,_,_,_,_=>none
 | n_+1,plan,cut,o0_B,mf,m0_B,mf_1,s_=>bif (decide ((plan.length:Int)=(wr (2*(o0_B.Horses.length:Int))))) then ((c_ plan cut s_).bind fun (s_1,go)=>some (go,s_1)) else (((ixN 2 ((plan.length:Int).tmod 2)).bind fun j=>match j with | 0=>(ixL o0_B.Horses (wr ((plan.length:Int).tdiv 2))).bind fun p=>(g95 p).bind fun r0=>some r0 | 1=>(ixL o0_B.Horses (wr ((plan.length:Int).tdiv 2))).bind fun p1=>(g98 p1).bind fun r0_1=>some r0_1 | _=>none).bind fun need=>bindC (eachC (g64a_16 (g64a c_ n_) plan cut o0_B mf m0_B mf_1 need) o0_B.Hanks 0 s_) fun s_2=>some (true,s_2))
def y30 (cut:(Nat→Int)) (o0_B:HairBook) (mf:List (Hair_dye×Span)) (m0_B:HairBook) (mf_1:List (Hair_dye×Span)):List (Nat×Blk):=[(5,.var 89 (cfv cut)),(0,.var 81 (hbm o0_B mf)),(1,.var 113 [.yld]),(2,.var 94 [.d (.fn 61)]),(3,.var 57 [.clo 45 [.agg (hbm m0_B mf_1)] []]),(4,.var 113 [.clo 64 [] [.ptr 0 0,.ptr 1 0,.ptr 2 0,.ptr 3 0,.ptr 4 0]])]
def y31 (o0_B:HairBook) (mf:List (Hair_dye×Span)) (m0_B:HairBook) (mf_1:List (Hair_dye×Span)):List (Nat×Blk):=[(0,.var 81 (hbm o0_B mf)),(1,.var 113 [.yld]),(2,.var 94 [.d (.fn 61)]),(3,.var 57 [.clo 45 [.agg (hbm m0_B mf_1)] []]),(4,.var 113 [.clo 64 [] [.ptr 0 0,.ptr 1 0,.ptr 2 0,.ptr 3 0,.ptr 4 0]])]
def y32 (cut:(Nat→Int)) (o0_B:HairBook) (mf:List (Hair_dye×Span)) (m0_B:HairBook) (mf_1:List (Hair_dye×Span)):List (Nat×Blk):=[(7,.var 89 (cfv cut)),(5,.var 89 (cfv cut)),(0,.var 81 (hbm o0_B mf)),(1,.var 113 [.yld]),(2,.var 94 [.d (.fn 61)]),(3,.var 57 [.clo 45 [.agg (hbm m0_B mf_1)] []]),(4,.var 113 [.clo 64 [] [.ptr 0 0,.ptr 1 0,.ptr 2 0,.ptr 3 0,.ptr 4 0]])]
def y33 (o0_B:HairBook) (mf:List (Hair_dye×Span)) (m0_B:HairBook) (mf_1:List (Hair_dye×Span)) (cut:(Nat→Int)):List (Nat×Blk):=[(0,.var 81 (hbm o0_B mf)),(1,.var 113 [.yld]),(2,.var 94 [.d (.fn 61)]),(3,.var 57 [.clo 45 [.agg (hbm m0_B mf_1)] []]),(4,.var 113 [.clo 64 [] [.ptr 0 0,.ptr 1 0,.ptr 2 0,.ptr 3 0,.ptr 4 0]]),(5,.var 89 (cfv cut))]
theorem k64a {S_:Type} (fr_:S_→Fr) (c_:(List Int)→(Nat→Int)→S_→Option (S_×Bool)) (hc_:∀ (a0:(List Int)) (a1:(Nat→Int)) s s2 b,c_ a0 a1 s=some (s2,b)→YCall Tryd.prog Gs (fr_ s) [.d (q1 a0),.agg (cfv a1)] (.d (.bool b)) (fr_ s2)):∀ (n_:Nat) (plan:(List Int)) (cut:(Nat→Int)) (o0_B:HairBook) (mf:List (Hair_dye×Span)) (m0_B:HairBook) (mf_1:List (Hair_dye×Span)) (s_:S_) (r:Bool×S_) (h:g64a c_ n_ plan cut o0_B mf m0_B mf_1 s_=some r),SCall Tryd.prog Gs 64 [.d (q1 plan),.agg (cfv cut),.ptr 0 0,.ptr 1 0,.ptr 2 0,.ptr 3 0,.ptr 4 0] [(0,.var 81 (hbm o0_B mf)),(1,.var 113 [.yld]),(2,.var 94 [.d (.fn 61)]),(3,.var 57 [.clo 45 [.agg (hbm m0_B mf_1)] []]),(4,.var 113 [.clo 64 [] [.ptr 0 0,.ptr 1 0,.ptr 2 0,.ptr 3 0,.ptr 4 0]])] 5 (fr_ s_) (match r with | (r0_7,s_5)=>.d (.bool r0_7)) (match r with | (r0_7,s_5)=>[(0,.var 81 (hbm o0_B mf)),(1,.var 113 [.yld]),(2,.var 94 [.d (.fn 61)]),(3,.var 57 [.clo 45 [.agg (hbm m0_B mf_1)] []]),(4,.var 113 [.clo 64 [] [.ptr 0 0,.ptr 1 0,.ptr 2 0,.ptr 3 0,.ptr 4 0]])]) 5 (fr_ (match r with | (r0_7,s_5)=>s_5)):=by
 intro n_
 induction n_ with
 | zero=>intro plan cut o0_B mf m0_B mf_1 s_ r h;cases h
 | succ n_ ih=>
  intro plan cut o0_B mf m0_B mf_1 s_ r h
  rw [g64a] at h
  refine SCall.mkK Tryd.func64 c64 rfl rfl (by kernel_rfl) (fun Q_0 hR_0 hN_0=>?_)
  refine Sa ⟨[(0,.d (q1 plan)),pR 2 0,pR 3 1,pR 4 2,pR 5 3,pR 6 4,pR 8 5],(y30 cut o0_B mf m0_B mf_1),6,(fr_ s_),[],5⟩ ?_
  refine AW.scope ?_
  refine AW.srwK (fun Q_1 hQ_1=>?_)
  refine Au 1 ⟨[(0,.d (q1 plan)),pR 2 0,pR 3 1,pR 4 2,pR 5 3,pR 6 4,pR 8 5,(15,.d (q1 plan))],(y30 cut o0_B mf m0_B mf_1),6,(fr_ s_),[],5⟩ ?_
  refine rL rfl ?_
  refine Au 1 ⟨[(0,.d (q1 plan)),pR 2 0,pR 3 1,pR 4 2,pR 5 3,pR 6 4,pR 8 5,(10,jI (plan.length:Int))],(y30 cut o0_B mf m0_B mf_1),6,(fr_ s_),[],5⟩ ?_
  refine RW.nil (hQ_1 _ ?_)
  refine AW.seqK fun K_2 hK_2=>AW.srwK fun Q_3 hQ_3=>?_
  refine Au 4 ⟨[(0,.d (q1 plan)),pR 2 0,pR 3 1,pR 4 2,pR 5 3,pR 6 4,pR 8 5,(10,jI (plan.length:Int)),(17,jI (plan.length:Int)),(20,.d (.sl 3 (List.map e64 o0_B.Horses)))],(y30 cut o0_B mf m0_B mf_1),6,(fr_ s_),[],5⟩ ?_
  refine rL rfl ?_
  refine Au 2 ⟨[(0,.d (q1 plan)),pR 2 0,pR 3 1,pR 4 2,pR 5 3,pR 6 4,pR 8 5,(10,jI (plan.length:Int)),(23,.d (.bool (decide ((plan.length:Int)=(wr (2*(o0_B.Horses.length:Int)))))))],(y30 cut o0_B mf m0_B mf_1),6,(fr_ s_),[],5⟩ ?_
  refine RW.nil (hQ_3 _ ?_)
  refine AW.cond rfl (fun hb_4=>?_) (fun hb_4=>?_)
  ·have h:=ifT hb_4 h
   refine AW.srwK (fun Q_5 hQ_5=>?_)
   refine Au 3 ⟨[(24,.yld),(25,.d (q1 plan)),(26,.agg (cfv cut))],(y31 o0_B mf m0_B mf_1),6,(fr_ s_),[],5⟩ ?_
   obtain ⟨⟨s_1,go⟩,hx_6,h⟩:=bsome h
   refine RW.one fokW (r_yield (zr:=[]) trivial rfl rfl (hc_ plan cut _ _ _ hx_6) trivial ⟨.refl _,.refl _,trivial⟩ rfl rfl rfl rfl (r_end ?_))
   refine Au 1 ⟨[(9,.d (.bool go))],(y31 o0_B mf m0_B mf_1),6,(fr_ s_1),[],5⟩ ?_
   refine RW.nil (hQ_5 _ ?_)
   obtain rfl:=Option.some.inj h
   exact rT hR_0 (.cons (.tmp rfl) .nil)
  ·have h:=ifF hb_4 h
   refine AW.skip (hK_2 _ ?_)
   obtain ⟨need,hx_7,h⟩:=bsome h
   refine AW.jnSK (fun (need:Int)=>⟨[(0,.d (q1 plan)),pR 2 0,pR 4 2,pR 5 3,pR 6 4,pR 8 5,(10,jI (plan.length:Int)),(11,jI need)],(y30 cut o0_B mf m0_B mf_1),6,(fr_ s_),[],5⟩) (c:=need) (fun K_7 hK_7=>?_) ?_
   ·have h:=hx_7
    refine AW.drw fokW ?_
    refine aX 2 ⟨[(0,.d (q1 plan)),pR 2 0,pR 4 2,pR 5 3,pR 6 4,pR 8 5,(10,jI (plan.length:Int)),(29,jI ((plan.length:Int).tmod 2))],(y30 cut o0_B mf m0_B mf_1),6,(fr_ s_),[],5⟩ ?_
    obtain ⟨j,hv_9,h⟩:=bsome h
    rcases j with _ | _ | j
    ·refine r_iaF trivial rfl rfl (ixN_ok hv_9).1 (ixN_ok hv_9).2.1 ?_
     refine r_loadF trivial rfl (u:=.fn 95) (by rw [(ixN_ok hv_9).2.2];rfl) ?_
     refine aX 5 ⟨[(0,.d (q1 plan)),pR 2 0,pR 4 2,pR 5 3,pR 6 4,pR 8 5,(10,jI (plan.length:Int)),(31,.d (.fn 95)),(34,.d (.sl 3 (List.map e64 o0_B.Horses))),(36,jI (wr ((plan.length:Int).tdiv 2)))],(y30 cut o0_B mf m0_B mf_1),6,(fr_ s_),[],5⟩ ?_
     obtain ⟨p,hv_10,h⟩:=bsome h
     refine r_iaD trivial rfl rfl (ixL_ok hv_10).1 (row:=e64 p) (mapget (ixL_ok hv_10).2) ?_
     refine aX 1 ⟨[(0,.d (q1 plan)),pR 2 0,pR 4 2,pR 5 3,pR 6 4,pR 8 5,(10,jI (plan.length:Int)),(31,.d (.fn 95)),(38,.agg [jI p.Mane,jI p.Tail,jI p.Shade])],(y30 cut o0_B mf m0_B mf_1),6,(fr_ s_),[],5⟩ ?_
     obtain ⟨r0,hx_11,h⟩:=bsome h
     refine r_callvZ (zr:=[]) trivial rfl (.fn _) (by kernel_rfl) rfl (k95 p _ hx_11) trivial ⟨.refl _,trivial⟩ rfl rfl rfl rfl ?_
     refine aX 1 ⟨[(0,.d (q1 plan)),pR 2 0,pR 4 2,pR 5 3,pR 6 4,pR 8 5,(10,jI (plan.length:Int)),(11,jI r0)],(y30 cut o0_B mf m0_B mf_1),6,(fr_ s_),[],5⟩ ?_
     refine Fi ⟨[(0,.d (q1 plan)),pR 2 0,pR 4 2,pR 5 3,pR 6 4,pR 8 5,(10,jI (plan.length:Int)),(11,jI r0)],(y30 cut o0_B mf m0_B mf_1),6,(fr_ s_),[],5⟩ ?_
     obtain rfl:=Option.some.inj h
     exact hK_7 _ (Can.kp (by kernel_rfl))
    ·refine r_iaF trivial rfl rfl (ixN_ok hv_9).1 (ixN_ok hv_9).2.1 ?_
     refine r_loadF trivial rfl (u:=.fn 98) (by rw [(ixN_ok hv_9).2.2];rfl) ?_
     refine aX 5 ⟨[(0,.d (q1 plan)),pR 2 0,pR 4 2,pR 5 3,pR 6 4,pR 8 5,(10,jI (plan.length:Int)),(31,.d (.fn 98)),(34,.d (.sl 3 (List.map e64 o0_B.Horses))),(36,jI (wr ((plan.length:Int).tdiv 2)))],(y30 cut o0_B mf m0_B mf_1),6,(fr_ s_),[],5⟩ ?_
     obtain ⟨p1,hv_12,h⟩:=bsome h
     refine r_iaD trivial rfl rfl (ixL_ok hv_12).1 (row:=e64 p1) (mapget (ixL_ok hv_12).2) ?_
     refine aX 1 ⟨[(0,.d (q1 plan)),pR 2 0,pR 4 2,pR 5 3,pR 6 4,pR 8 5,(10,jI (plan.length:Int)),(31,.d (.fn 98)),(38,.agg [jI p1.Mane,jI p1.Tail,jI p1.Shade])],(y30 cut o0_B mf m0_B mf_1),6,(fr_ s_),[],5⟩ ?_
     obtain ⟨r0_1,hx_13,h⟩:=bsome h
     refine r_callvZ (zr:=[]) trivial rfl (.fn _) (by kernel_rfl) rfl (k98 p1 _ hx_13) trivial ⟨.refl _,trivial⟩ rfl rfl rfl rfl ?_
     refine aX 1 ⟨[(0,.d (q1 plan)),pR 2 0,pR 4 2,pR 5 3,pR 6 4,pR 8 5,(10,jI (plan.length:Int)),(11,jI r0_1)],(y30 cut o0_B mf m0_B mf_1),6,(fr_ s_),[],5⟩ ?_
     refine Fi ⟨[(0,.d (q1 plan)),pR 2 0,pR 4 2,pR 5 3,pR 6 4,pR 8 5,(10,jI (plan.length:Int)),(11,jI r0_1)],(y30 cut o0_B mf m0_B mf_1),6,(fr_ s_),[],5⟩ ?_
     obtain rfl:=Option.some.inj h
     exact hK_7 _ (Can.kp (by kernel_rfl))
    ·cases h
   ·refine AW.seq (AW.skip ?_)
    refine AW.seqK fun K_14 hK_14=>AW.srwK fun Q_15 hQ_15=>?_
    refine Au 3 ⟨[(0,.d (q1 plan)),pR 4 2,pR 5 3,pR 6 4,pR 8 5,(10,jI (plan.length:Int)),(11,jI need),(42,.d (.sl 4 (List.map e62 o0_B.Hanks)))],(y30 cut o0_B mf m0_B mf_1),6,(fr_ s_),[],5⟩ ?_
    refine rL rfl ?_
    refine Au 1 ⟨[(0,.d (q1 plan)),pR 4 2,pR 5 3,pR 6 4,pR 8 5,(10,jI (plan.length:Int)),(11,jI need),(42,.d (.sl 4 (List.map e62 o0_B.Hanks))),(43,jI (o0_B.Hanks.length:Int)),(44,jI 0)],(y30 cut o0_B mf m0_B mf_1),6,(fr_ s_),[],5⟩ ?_
    refine RW.nil (hQ_15 _ ?_)
    refine AW.block ?_
    refine AW.sln (t:=42) rfl (fun hN_16=>?_)
    rw [List.length_map] at hN_16
    obtain ⟨out_16,hx_16,hk_16⟩:=bsomeC h
    refine AW.evCK (fun (v:Int) (s_2:S_)=>⟨[(0,.d (q1 plan)),pR 4 2,pR 5 3,pR 6 4,pR 8 5,(10,jI (plan.length:Int)),(11,jI need),(42,.d (.sl 4 (List.map e62 o0_B.Hanks))),(43,jI (o0_B.Hanks.length:Int)),(44,jI v)],(y30 cut o0_B mf m0_B mf_1),6,(fr_ s_2),[],5⟩) (g64a_16 (g64a c_ n_) plan cut o0_B mf m0_B mf_1 need) hx_16 (Can.kp (by kernel_rfl)) (fun v p2 s_2 hi_16 hl_16 hp_16 c_16 h hb_16 K_16 hK_16=>?_) (fun v s_2 hi_16 hl_16 hout=>?_)
    ·unfold g64a_16 at h
     refine Sa ⟨[(0,.d (q1 plan)),pR 4 2,pR 5 3,pR 6 4,pR 8 5,(10,jI (plan.length:Int)),(11,jI need),(42,.d (.sl 4 (List.map e62 o0_B.Hanks))),(43,jI (o0_B.Hanks.length:Int)),(44,jI v),(45,.d (.bool (decide (v<(o0_B.Hanks.length:Int)))))],(y30 cut o0_B mf m0_B mf_1),6,(fr_ s_2),[],5⟩ ?_
     refine AW.seqK (fun K_17 hK_17=>?_)
     refine AW.cond rfl (fun hb_18=>?_) (fun hb_18=>False.elim (by have:=of_decide_eq_false hb_18;omega))
     refine AW.skip (hK_17 _ ?_)
     refine AW.seqK (fun K_19 hK_19=>?_)
     refine AW.block ?_
     refine AW.srwK (fun Q_20 hQ_20=>?_)
     refine Au 1 ⟨[(0,.d (q1 plan)),pR 4 2,pR 5 3,pR 6 4,pR 8 5,(10,jI (plan.length:Int)),(11,jI need),(42,.d (.sl 4 (List.map e62 o0_B.Hanks))),(43,jI (o0_B.Hanks.length:Int)),(44,jI v),(46,jI v)],(y30 cut o0_B mf m0_B mf_1),6,(fr_ s_2),[],5⟩ ?_
     refine RW.one fokW (r_iaD trivial rfl rfl hi_16 (row:=e62 p2) (mapget hp_16) (r_end ?_))
     refine Au 4 ⟨[(0,.d (q1 plan)),pR 4 2,pR 5 3,pR 6 4,pR 8 5,(10,jI (plan.length:Int)),(11,jI need),(12,jI v),pR 13 6,(42,.d (.sl 4 (List.map e62 o0_B.Hanks))),(43,jI (o0_B.Hanks.length:Int)),(44,jI v)],[(6,.var 62 (cv62 p2)),(5,.var 89 (cfv cut)),(0,.var 81 (hbm o0_B mf)),(1,.var 113 [.yld]),(2,.var 94 [.d (.fn 61)]),(3,.var 57 [.clo 45 [.agg (hbm m0_B mf_1)] []]),(4,.var 113 [.clo 64 [] [.ptr 0 0,.ptr 1 0,.ptr 2 0,.ptr 3 0,.ptr 4 0]])],7,(fr_ s_2),[],5⟩ ?_
     refine RW.nil (hQ_20 _ ?_)
     obtain ⟨c_21,hx_21,hk_21⟩:=bsomeC h
     refine AW.jnK (fun (_:Unit)=>⟨[(0,.d (q1 plan)),pR 4 2,pR 5 3,pR 6 4,pR 8 5,(10,jI (plan.length:Int)),(11,jI need),(12,jI v),(42,.d (.sl 4 (List.map e62 o0_B.Hanks))),(43,jI (o0_B.Hanks.length:Int)),(44,jI v)],(y30 cut o0_B mf m0_B mf_1),7,(fr_ s_2),[],5⟩) (c:=c_21) (fun K_21 hK_21=>?_) (fun j_21 hj_21=>?_)
     ·have h:=hx_21
      refine AW.sdrwK fokW (fun Q_22 hQ_22=>?_)
      refine aX 1 ⟨[(0,.d (q1 plan)),pR 4 2,pR 5 3,pR 6 4,pR 8 5,(10,jI (plan.length:Int)),(11,jI need),(12,jI v),pR 13 6,(42,.d (.sl 4 (List.map e62 o0_B.Hanks))),(43,jI (o0_B.Hanks.length:Int)),(44,jI v),(49,jI v)],[(6,.var 62 (cv62 p2)),(5,.var 89 (cfv cut)),(0,.var 81 (hbm o0_B mf)),(1,.var 113 [.yld]),(2,.var 94 [.d (.fn 61)]),(3,.var 57 [.clo 45 [.agg (hbm m0_B mf_1)] []]),(4,.var 113 [.clo 64 [] [.ptr 0 0,.ptr 1 0,.ptr 2 0,.ptr 3 0,.ptr 4 0]])],7,(fr_ s_2),[],5⟩ ?_
      obtain ⟨j1,hv_23,h⟩:=bsome h
      refine r_iaV trivial rfl rfl rfl (ixN_ok hv_23).1 (ixN_ok hv_23).2.1 ?_
      refine r_loadV trivial rfl rfl (u:=jI (cut j1)) (agt (f:=fun k=>jI (cut k)) hv_23) ?_
      refine aX 6 ⟨[(0,.d (q1 plan)),pR 4 2,pR 5 3,pR 6 4,pR 8 5,(10,jI (plan.length:Int)),(11,jI need),(12,jI v),(42,.d (.sl 4 (List.map e62 o0_B.Hanks))),(43,jI (o0_B.Hanks.length:Int)),(44,jI v),(53,jI (wr ((cut j1)+need))),(55,.d (.fn 61)),(57,.agg [jI p2.Weight.Low,jI p2.Weight.High])],[(6,.var 62 (cv62 p2)),(5,.var 89 (cfv cut)),(0,.var 81 (hbm o0_B mf)),(1,.var 113 [.yld]),(2,.var 94 [.d (.fn 61)]),(3,.var 57 [.clo 45 [.agg (hbm m0_B mf_1)] []]),(4,.var 113 [.clo 64 [] [.ptr 0 0,.ptr 1 0,.ptr 2 0,.ptr 3 0,.ptr 4 0]])],7,(fr_ s_2),[],5⟩ ?_
      obtain ⟨r0_2,hx_24,h⟩:=bsome h
      refine r_callvZ (zr:=[]) trivial rfl (.fn _) (by kernel_rfl) rfl (k61 p2.Weight _ hx_24) trivial ⟨.refl _,trivial⟩ rfl rfl rfl rfl ?_
      refine aX 2 ⟨[(0,.d (q1 plan)),pR 4 2,pR 5 3,pR 6 4,pR 8 5,(10,jI (plan.length:Int)),(11,jI need),(12,jI v),(42,.d (.sl 4 (List.map e62 o0_B.Hanks))),(43,jI (o0_B.Hanks.length:Int)),(44,jI v),(60,.d (.bool (decide (r0_2<(wr ((cut j1)+need))))))],[(6,.var 62 (cv62 p2)),(5,.var 89 (cfv cut)),(0,.var 81 (hbm o0_B mf)),(1,.var 113 [.yld]),(2,.var 94 [.d (.fn 61)]),(3,.var 57 [.clo 45 [.agg (hbm m0_B mf_1)] []]),(4,.var 113 [.clo 64 [] [.ptr 0 0,.ptr 1 0,.ptr 2 0,.ptr 3 0,.ptr 4 0]])],7,(fr_ s_2),[],5⟩ ?_
      refine r_split 60 rfl (fun hb_25=>?_) (fun hb_25=>?_)
      ·have h:=ifT hb_25 h
       refine aX 17 ⟨[(0,.d (q1 plan)),pR 4 2,pR 5 3,pR 6 4,pR 8 5,(10,jI (plan.length:Int)),(11,jI need),(12,jI v),(42,.d (.sl 4 (List.map e62 o0_B.Hanks))),(43,jI (o0_B.Hanks.length:Int)),(44,jI v),(77,.d (.bool true))],[(6,.var 62 (cv62 p2)),(5,.var 89 (cfv cut)),(0,.var 81 (hbm o0_B mf)),(1,.var 113 [.yld]),(2,.var 94 [.d (.fn 61)]),(3,.var 57 [.clo 45 [.agg (hbm m0_B mf_1)] []]),(4,.var 113 [.clo 64 [] [.ptr 0 0,.ptr 1 0,.ptr 2 0,.ptr 3 0,.ptr 4 0]])],7,(fr_ s_2),[],5⟩ ?_
       refine Fi ⟨[(0,.d (q1 plan)),pR 4 2,pR 5 3,pR 6 4,pR 8 5,(10,jI (plan.length:Int)),(11,jI need),(12,jI v),(42,.d (.sl 4 (List.map e62 o0_B.Hanks))),(43,jI (o0_B.Hanks.length:Int)),(44,jI v),(77,.d (.bool true))],(y30 cut o0_B mf m0_B mf_1),7,(fr_ s_2),[],5⟩ ?_
       refine hQ_22 _ ?_
       refine AW.condT rfl ?_
       refine AW.exit ?_
       refine hK_19 _ ?_
       refine Ra ⟨[(0,.d (q1 plan)),pR 4 2,pR 5 3,pR 6 4,pR 8 5,(10,jI (plan.length:Int)),(11,jI need),(42,.d (.sl 4 (List.map e62 o0_B.Hanks))),(43,jI (o0_B.Hanks.length:Int)),(44,jI (wr (v+1)))],(y30 cut o0_B mf m0_B mf_1),7,(fr_ s_2),[],5⟩ ?_
       obtain rfl:=Option.some.inj h
       obtain rfl:=Aft.bk hk_21
       have ew:wr (v+1)=v+1:=inext (N:=(o0_B.Hanks.length:Int)) (by omega) (by omega) (by omega)
       rw [ew]
       exact hK_16 _ _ rfl (Can.kp (by kernel_rfl))
      ·have h:=ifF hb_25 h
       refine aX 4 ⟨[(0,.d (q1 plan)),pR 4 2,pR 5 3,pR 6 4,pR 8 5,(10,jI (plan.length:Int)),(11,jI need),(12,jI v),(42,.d (.sl 4 (List.map e62 o0_B.Hanks))),(43,jI (o0_B.Hanks.length:Int)),(44,jI v),(60,.d (.bool false)),(64,.d (.bool (decide (((plan.length:Int).tmod 2)=1))))],[(6,.var 62 (cv62 p2)),(5,.var 89 (cfv cut)),(0,.var 81 (hbm o0_B mf)),(1,.var 113 [.yld]),(2,.var 94 [.d (.fn 61)]),(3,.var 57 [.clo 45 [.agg (hbm m0_B mf_1)] []]),(4,.var 113 [.clo 64 [] [.ptr 0 0,.ptr 1 0,.ptr 2 0,.ptr 3 0,.ptr 4 0]])],7,(fr_ s_2),[],5⟩ ?_
       refine r_split 64 rfl (fun hb_26=>?_) (fun hb_26=>?_)
       ·have h:=ifT hb_26 h
        refine aX 6 ⟨[(0,.d (q1 plan)),pR 4 2,pR 5 3,pR 6 4,pR 8 5,(10,jI (plan.length:Int)),(11,jI need),(12,jI v),(42,.d (.sl 4 (List.map e62 o0_B.Hanks))),(43,jI (o0_B.Hanks.length:Int)),(44,jI v),(60,.d (.bool false)),(64,.d (.bool true)),(65,.clo 45 [.agg (hbm m0_B mf_1)] []),(67,jI (wr ((plan.length:Int).tdiv 2))),(68,.d (q1 plan)),(70,jI (wr ((plan.length:Int) - 1)))],[(6,.var 62 (cv62 p2)),(5,.var 89 (cfv cut)),(0,.var 81 (hbm o0_B mf)),(1,.var 113 [.yld]),(2,.var 94 [.d (.fn 61)]),(3,.var 57 [.clo 45 [.agg (hbm m0_B mf_1)] []]),(4,.var 113 [.clo 64 [] [.ptr 0 0,.ptr 1 0,.ptr 2 0,.ptr 3 0,.ptr 4 0]])],7,(fr_ s_2),[],5⟩ ?_
        obtain ⟨p3,hv_27,h⟩:=bsome h
        refine r_iaD rfl rfl rfl (ixL_ok hv_27).1 (row:=e3 p3) (mapget (ixL_ok hv_27).2) ?_
        refine aX 2 ⟨[(0,.d (q1 plan)),pR 4 2,pR 5 3,pR 6 4,pR 8 5,(10,jI (plan.length:Int)),(11,jI need),(12,jI v),(42,.d (.sl 4 (List.map e62 o0_B.Hanks))),(43,jI (o0_B.Hanks.length:Int)),(44,jI v),(60,.d (.bool false)),(64,.d (.bool true)),(65,.clo 45 [.agg (hbm m0_B mf_1)] []),(67,jI (wr ((plan.length:Int).tdiv 2))),(72,jI p3),(73,jI v)],[(6,.var 62 (cv62 p2)),(5,.var 89 (cfv cut)),(0,.var 81 (hbm o0_B mf)),(1,.var 113 [.yld]),(2,.var 94 [.d (.fn 61)]),(3,.var 57 [.clo 45 [.agg (hbm m0_B mf_1)] []]),(4,.var 113 [.clo 64 [] [.ptr 0 0,.ptr 1 0,.ptr 2 0,.ptr 3 0,.ptr 4 0]])],7,(fr_ s_2),[],5⟩ ?_
        obtain ⟨r0_3,hx_28,h⟩:=bsome h
        refine r_callvZ (zr:=[]) rfl rfl (.clo _ _ _) (by kernel_rfl) rfl (k45 m0_B mf_1 (wr ((plan.length:Int).tdiv 2)) p3 v _ hx_28) trivial ⟨.refl _,.refl _,.refl _,.refl _,trivial⟩ rfl rfl rfl rfl ?_
        refine aX 3 ⟨[(0,.d (q1 plan)),pR 4 2,pR 5 3,pR 6 4,pR 8 5,(10,jI (plan.length:Int)),(11,jI need),(12,jI v),(42,.d (.sl 4 (List.map e62 o0_B.Hanks))),(43,jI (o0_B.Hanks.length:Int)),(44,jI v),(77,.d (.bool (!r0_3)))],[(6,.var 62 (cv62 p2)),(5,.var 89 (cfv cut)),(0,.var 81 (hbm o0_B mf)),(1,.var 113 [.yld]),(2,.var 94 [.d (.fn 61)]),(3,.var 57 [.clo 45 [.agg (hbm m0_B mf_1)] []]),(4,.var 113 [.clo 64 [] [.ptr 0 0,.ptr 1 0,.ptr 2 0,.ptr 3 0,.ptr 4 0]])],7,(fr_ s_2),[],5⟩ ?_
        refine Fi ⟨[(0,.d (q1 plan)),pR 4 2,pR 5 3,pR 6 4,pR 8 5,(10,jI (plan.length:Int)),(11,jI need),(12,jI v),(42,.d (.sl 4 (List.map e62 o0_B.Hanks))),(43,jI (o0_B.Hanks.length:Int)),(44,jI v),(77,.d (.bool (!r0_3)))],(y30 cut o0_B mf m0_B mf_1),7,(fr_ s_2),[],5⟩ ?_
        refine hQ_22 _ ?_
        refine AW.cond rfl (fun hb_29=>?_) (fun hb_29=>?_)
        ·have h:=ifT hb_29 h
         refine AW.exit ?_
         refine hK_19 _ ?_
         refine Ra ⟨[(0,.d (q1 plan)),pR 4 2,pR 5 3,pR 6 4,pR 8 5,(10,jI (plan.length:Int)),(11,jI need),(42,.d (.sl 4 (List.map e62 o0_B.Hanks))),(43,jI (o0_B.Hanks.length:Int)),(44,jI (wr (v+1)))],(y30 cut o0_B mf m0_B mf_1),7,(fr_ s_2),[],5⟩ ?_
         obtain rfl:=Option.some.inj h
         obtain rfl:=Aft.bk hk_21
         have ew:wr (v+1)=v+1:=inext (N:=(o0_B.Hanks.length:Int)) (by omega) (by omega) (by omega)
         rw [ew]
         exact hK_16 _ _ rfl (Can.kp (by kernel_rfl))
        ·have h:=ifF hb_29 h
         refine AW.skip ?_
         obtain rfl:=Option.some.inj h
         exact hK_21 _ _ rfl (Can.kp (by kernel_rfl))
       ·have h:=ifF hb_26 h
        refine aX 13 ⟨[(0,.d (q1 plan)),pR 4 2,pR 5 3,pR 6 4,pR 8 5,(10,jI (plan.length:Int)),(11,jI need),(12,jI v),(42,.d (.sl 4 (List.map e62 o0_B.Hanks))),(43,jI (o0_B.Hanks.length:Int)),(44,jI v),(77,.d (.bool false))],[(6,.var 62 (cv62 p2)),(5,.var 89 (cfv cut)),(0,.var 81 (hbm o0_B mf)),(1,.var 113 [.yld]),(2,.var 94 [.d (.fn 61)]),(3,.var 57 [.clo 45 [.agg (hbm m0_B mf_1)] []]),(4,.var 113 [.clo 64 [] [.ptr 0 0,.ptr 1 0,.ptr 2 0,.ptr 3 0,.ptr 4 0]])],7,(fr_ s_2),[],5⟩ ?_
        refine Fi ⟨[(0,.d (q1 plan)),pR 4 2,pR 5 3,pR 6 4,pR 8 5,(10,jI (plan.length:Int)),(11,jI need),(12,jI v),(42,.d (.sl 4 (List.map e62 o0_B.Hanks))),(43,jI (o0_B.Hanks.length:Int)),(44,jI v),(77,.d (.bool false))],(y30 cut o0_B mf m0_B mf_1),7,(fr_ s_2),[],5⟩ ?_
        refine hQ_22 _ ?_
        refine AW.condF rfl ?_
        refine AW.skip ?_
        obtain rfl:=Option.some.inj h
        exact hK_21 _ _ rfl (Can.kp (by kernel_rfl))
     ·subst hj_21
      have h:=Aft.nx hk_21
      refine Sa ⟨[(0,.d (q1 plan)),pR 4 2,pR 5 3,pR 6 4,pR 8 5,(10,jI (plan.length:Int)),(11,jI need),(12,jI v),pR 14 7,(42,.d (.sl 4 (List.map e62 o0_B.Hanks))),(43,jI (o0_B.Hanks.length:Int)),(44,jI v)],(y32 cut o0_B mf m0_B mf_1),8,(fr_ s_2),[],5⟩ ?_
      refine AW.srwK (fun Q_30 hQ_30=>?_)
      refine Au 1 ⟨[(0,.d (q1 plan)),pR 4 2,pR 5 3,pR 6 4,pR 8 5,(10,jI (plan.length:Int)),(11,jI need),(12,jI v),pR 14 7,(42,.d (.sl 4 (List.map e62 o0_B.Hanks))),(43,jI (o0_B.Hanks.length:Int)),(44,jI v),(79,jI v)],(y32 cut o0_B mf m0_B mf_1),8,(fr_ s_2),[],5⟩ ?_
      obtain ⟨j2,hv_31,h⟩:=bsome h
      refine RW.one fokW (r_iaV trivial rfl rfl rfl (ixN_ok hv_31).1 (ixN_ok hv_31).2.1 (r_end ?_))
      refine RW.one fokW (r_loadV trivial rfl rfl (u:=jI (cut j2)) (agt (f:=fun k=>jI (cut k)) hv_31) (r_end ?_))
      refine Au 2 ⟨[(0,.d (q1 plan)),pR 4 2,pR 5 3,pR 6 4,pR 8 5,(10,jI (plan.length:Int)),(11,jI need),(12,jI v),pR 14 7,(42,.d (.sl 4 (List.map e62 o0_B.Hanks))),(43,jI (o0_B.Hanks.length:Int)),(44,jI v),(79,jI v),(83,jI (wr ((cut j2)+need)))],(y32 cut o0_B mf m0_B mf_1),8,(fr_ s_2),[],5⟩ ?_
      obtain ⟨j3,hv_32,h⟩:=bsome h
      refine RW.one fokW (r_iaV trivial rfl rfl rfl (ixN_ok hv_32).1 (ixN_ok hv_32).2.1 (r_end ?_))
      refine RW.one fokW (r_stX trivial rfl rfl rfl rfl rfl (aslot hv_32 rfl) (cs':=[jI ((aset cut j3 (wr ((cut j2)+need))) 0),jI ((aset cut j3 (wr ((cut j2)+need))) 1),jI ((aset cut j3 (wr ((cut j2)+need))) 2),jI ((aset cut j3 (wr ((cut j2)+need))) 3),jI ((aset cut j3 (wr ((cut j2)+need))) 4)]) (ast (w:=cut) (c:=fun z=>jI z) hv_32) (r_end ?_))
      refine RW.nil (hQ_30 _ ?_)
      refine AW.sdrwK fokW (fun Q_33 hQ_33=>?_)
      refine aX 4 ⟨[(0,.d (q1 plan)),pR 4 2,pR 5 3,pR 6 4,pR 8 5,(10,jI (plan.length:Int)),(11,jI need),(12,jI v),pR 14 7,(42,.d (.sl 4 (List.map e62 o0_B.Hanks))),(43,jI (o0_B.Hanks.length:Int)),(44,jI v),(85,.clo 64 [] [.ptr 0 0,.ptr 1 0,.ptr 2 0,.ptr 3 0,.ptr 4 0]),(86,.d (q1 plan)),(87,jI (plan.length:Int)),(88,jI (plan.length:Int))],[(7,.var 89 [jI ((aset cut j3 (wr ((cut j2)+need))) 0),jI ((aset cut j3 (wr ((cut j2)+need))) 1),jI ((aset cut j3 (wr ((cut j2)+need))) 2),jI ((aset cut j3 (wr ((cut j2)+need))) 3),jI ((aset cut j3 (wr ((cut j2)+need))) 4)]),(5,.var 89 (cfv cut)),(0,.var 81 (hbm o0_B mf)),(1,.var 113 [.yld]),(2,.var 94 [.d (.fn 61)]),(3,.var 57 [.clo 45 [.agg (hbm m0_B mf_1)] []]),(4,.var 113 [.clo 64 [] [.ptr 0 0,.ptr 1 0,.ptr 2 0,.ptr 3 0,.ptr 4 0]])],8,(fr_ s_2),[],5⟩ ?_
      obtain ⟨l,hv_34,h⟩:=bsome h
      refine r_slN trivial rfl rfl rfl DSl.d (slcL_ok hv_34).2.1 (by rw [List.length_map];exact (slcL_ok hv_34).2.2.1) rfl (slz hv_34 e3) ?_
      refine aX 2 ⟨[(0,.d (q1 plan)),pR 4 2,pR 5 3,pR 6 4,pR 8 5,(10,jI (plan.length:Int)),(11,jI need),pR 14 7,(42,.d (.sl 4 (List.map e62 o0_B.Hanks))),(43,jI (o0_B.Hanks.length:Int)),(44,jI v),(85,.clo 64 [] [.ptr 0 0,.ptr 1 0,.ptr 2 0,.ptr 3 0,.ptr 4 0]),(89,.fsl 1 (List.map e3 l)),(91,.own 8 (List.map e3 [v]).length)],[(8,.row 3 1 (List.map e3 [v])),(7,.var 89 [jI ((aset cut j3 (wr ((cut j2)+need))) 0),jI ((aset cut j3 (wr ((cut j2)+need))) 1),jI ((aset cut j3 (wr ((cut j2)+need))) 2),jI ((aset cut j3 (wr ((cut j2)+need))) 3),jI ((aset cut j3 (wr ((cut j2)+need))) 4)]),(5,.var 89 (cfv cut)),(0,.var 81 (hbm o0_B mf)),(1,.var 113 [.yld]),(2,.var 94 [.d (.fn 61)]),(3,.var 57 [.clo 45 [.agg (hbm m0_B mf_1)] []]),(4,.var 113 [.clo 64 [] [.ptr 0 0,.ptr 1 0,.ptr 2 0,.ptr 3 0,.ptr 4 0]])],9,(fr_ s_2),[],5⟩ ?_
      obtain ⟨l1,hv_35,h⟩:=bsome h
      refine r_apF trivial rfl rfl rfl rfl (by simp) (zs:=List.map e3 l1) (apz hv_35 e3) (apr hv_35 e3) ?_
      refine aX 1 ⟨[(0,.d (q1 plan)),pR 4 2,pR 5 3,pR 6 4,pR 8 5,(10,jI (plan.length:Int)),(11,jI need),(42,.d (.sl 4 (List.map e62 o0_B.Hanks))),(43,jI (o0_B.Hanks.length:Int)),(44,jI v),(85,.clo 64 [] [.ptr 0 0,.ptr 1 0,.ptr 2 0,.ptr 3 0,.ptr 4 0]),(92,.own 9 (List.map e3 l1).length),(93,.agg [jI ((aset cut j3 (wr ((cut j2)+need))) 0),jI ((aset cut j3 (wr ((cut j2)+need))) 1),jI ((aset cut j3 (wr ((cut j2)+need))) 2),jI ((aset cut j3 (wr ((cut j2)+need))) 3),jI ((aset cut j3 (wr ((cut j2)+need))) 4)])],[(9,.row 3 1 (List.map e3 l1)),(8,.row 3 1 (List.map e3 [v])),(7,.var 89 [jI ((aset cut j3 (wr ((cut j2)+need))) 0),jI ((aset cut j3 (wr ((cut j2)+need))) 1),jI ((aset cut j3 (wr ((cut j2)+need))) 2),jI ((aset cut j3 (wr ((cut j2)+need))) 3),jI ((aset cut j3 (wr ((cut j2)+need))) 4)]),(5,.var 89 (cfv cut)),(0,.var 81 (hbm o0_B mf)),(1,.var 113 [.yld]),(2,.var 94 [.d (.fn 61)]),(3,.var 57 [.clo 45 [.agg (hbm m0_B mf_1)] []]),(4,.var 113 [.clo 64 [] [.ptr 0 0,.ptr 1 0,.ptr 2 0,.ptr 3 0,.ptr 4 0]])],10,(fr_ s_2),[],5⟩ ?_
      obtain ⟨⟨r0_7_1,s_5_1⟩,hx_36,h⟩:=bsome h
      refine r_callvS (zr:=[(9,.row 3 1 (List.map e3 l1))]) [0,1,2,3,4] trivial rfl (.clo _ _ _) (by kernel_rfl) rfl (ih l1 (aset cut j3 (wr ((cut j2)+need))) o0_B mf m0_B mf_1 s_2 _ hx_36) ⟨rfl,rfl,rfl,rfl,rfl,rfl,trivial⟩ rfl rfl ⟨(.own rfl rfl),.refl _,.refl _,.refl _,.refl _,.refl _,.refl _,trivial⟩ rfl rfl rfl ?_
      refine aX 1 ⟨[(0,.d (q1 plan)),pR 4 2,pR 5 3,pR 6 4,pR 8 5,(10,jI (plan.length:Int)),(11,jI need),(42,.d (.sl 4 (List.map e62 o0_B.Hanks))),(43,jI (o0_B.Hanks.length:Int)),(44,jI v),(95,.d (.bool (!r0_7_1)))],[(0,.var 81 (hbm o0_B mf)),(1,.var 113 [.yld]),(2,.var 94 [.d (.fn 61)]),(3,.var 57 [.clo 45 [.agg (hbm m0_B mf_1)] []]),(4,.var 113 [.clo 64 [] [.ptr 0 0,.ptr 1 0,.ptr 2 0,.ptr 3 0,.ptr 4 0]]),(9,.dead),(8,.row 3 1 (List.map e3 [v])),(7,.var 89 [jI ((aset cut j3 (wr ((cut j2)+need))) 0),jI ((aset cut j3 (wr ((cut j2)+need))) 1),jI ((aset cut j3 (wr ((cut j2)+need))) 2),jI ((aset cut j3 (wr ((cut j2)+need))) 3),jI ((aset cut j3 (wr ((cut j2)+need))) 4)]),(5,.var 89 (cfv cut))],10,(fr_ s_5_1),[],5⟩ ?_
      refine Fi ⟨[(0,.d (q1 plan)),pR 4 2,pR 5 3,pR 6 4,pR 8 5,(10,jI (plan.length:Int)),(11,jI need),(42,.d (.sl 4 (List.map e62 o0_B.Hanks))),(43,jI (o0_B.Hanks.length:Int)),(44,jI v),(95,.d (.bool (!r0_7_1)))],(y33 o0_B mf m0_B mf_1 cut),10,(fr_ s_5_1),[],5⟩ ?_
      refine hQ_33 _ ?_
      refine AW.cond rfl (fun hb_37=>?_) (fun hb_37=>?_)
      ·have h:=ifT hb_37 h
       refine Sa ⟨[(9,.d (.bool false))],(y31 o0_B mf m0_B mf_1),10,(fr_ s_5_1),[],5⟩ ?_
       obtain rfl:=Option.some.inj h
       have e_1:=hb_16 _ rfl
       subst e_1
       obtain rfl:=Aft.bk hk_16
       exact rT hR_0 (.cons (.tmp rfl) .nil)
      ·have h:=ifF hb_37 h
       refine AW.skip (hK_19 _ ?_)
       refine Ra ⟨[(0,.d (q1 plan)),pR 4 2,pR 5 3,pR 6 4,pR 8 5,(10,jI (plan.length:Int)),(11,jI need),(42,.d (.sl 4 (List.map e62 o0_B.Hanks))),(43,jI (o0_B.Hanks.length:Int)),(44,jI (wr (v+1)))],(y33 o0_B mf m0_B mf_1 cut),10,(fr_ s_5_1),[],5⟩ ?_
       obtain rfl:=Option.some.inj h
       have ew:wr (v+1)=v+1:=inext (N:=(o0_B.Hanks.length:Int)) (by omega) (by omega) (by omega)
       rw [ew]
       exact hK_16 _ _ rfl (Can.kp (by kernel_rfl))
    ·subst hout
     have h:=Aft.nx hk_16
     refine Sa ⟨[(0,.d (q1 plan)),pR 4 2,pR 5 3,pR 6 4,pR 8 5,(10,jI (plan.length:Int)),(11,jI need),(42,.d (.sl 4 (List.map e62 o0_B.Hanks))),(43,jI (o0_B.Hanks.length:Int)),(44,jI v),(45,.d (.bool (decide (v<(o0_B.Hanks.length:Int)))))],(y30 cut o0_B mf m0_B mf_1),6,(fr_ s_2),[],5⟩ ?_
     refine AW.seqK (fun K_38 hK_38=>?_)
     refine AW.cond rfl (fun hb_39=>False.elim (by have:=of_decide_eq_true hb_39;omega)) (fun hb_39=>?_)
     refine AW.exit ?_
     refine hK_14 _ ?_
     refine Sa ⟨[(9,.d (.bool true))],(y31 o0_B mf m0_B mf_1),6,(fr_ s_2),[],5⟩ ?_
     obtain rfl:=Option.some.inj h
     exact rT hR_0 (.cons (.tmp rfl) .nil)
def g63a {S_:Type} (c_:(List Int)→(Nat→Int)→S_→Option (S_×Bool)) (o0_B:HairBook) (mf:List (Hair_dye×Span)) (m0_B:HairBook) (mf_1:List (Hair_dye×Span)) (s_:S_):Option S_:=(g59).bind fun r0=>(g64a c_ 1000 ([]:(List Int)) r0 o0_B mf m0_B mf_1 s_).bind fun (r0_7,s_5)=>some s_5
def y34 (o0_B:HairBook) (mf:List (Hair_dye×Span)) (m0_B:HairBook) (mf_1:List (Hair_dye×Span)):List (Nat×Blk):=[(4,.var 113 [.clo 64 [] [.ptr 0 0,.ptr 3 0,.ptr 1 0,.ptr 2 0,.ptr 4 0]]),(3,.var 113 [.yld]),(0,.var 81 (hbm o0_B mf)),(1,.var 94 [.d (.fn 61)]),(2,.var 57 [.clo 45 [.agg (hbm m0_B mf_1)] []])]
theorem k63a {S_:Type} (fr_:S_→Fr) (c_:(List Int)→(Nat→Int)→S_→Option (S_×Bool)) (hc_:∀ (a0:(List Int)) (a1:(Nat→Int)) s s2 b,c_ a0 a1 s=some (s2,b)→YCall Tryd.prog Gs (fr_ s) [.d (q1 a0),.agg (cfv a1)] (.d (.bool b)) (fr_ s2)) (o0_B:HairBook) (mf:List (Hair_dye×Span)) (m0_B:HairBook) (mf_1:List (Hair_dye×Span)) (s_:S_) (r:S_) (h:g63a c_ o0_B mf m0_B mf_1 s_=some r):SCall Tryd.prog Gs 63 [.yld,.ptr 0 0,.ptr 1 0,.ptr 2 0] [(0,.var 81 (hbm o0_B mf)),(1,.var 94 [.d (.fn 61)]),(2,.var 57 [.clo 45 [.agg (hbm m0_B mf_1)] []])] 3 (fr_ s_) (.tup []) [(0,.var 81 (hbm o0_B mf)),(1,.var 94 [.d (.fn 61)]),(2,.var 57 [.clo 45 [.agg (hbm m0_B mf_1)] []])] 3 (fr_ r):=by
 unfold g63a at h
 refine SCall.mkK Tryd.func63 c63 rfl rfl (by kernel_rfl) (fun Q_0 hR_0 hN_0=>?_)
 refine Sa ⟨[pR 1 0,pR 2 1,pR 3 2,pR 4 3],[(3,.var 113 [.yld]),(0,.var 81 (hbm o0_B mf)),(1,.var 94 [.d (.fn 61)]),(2,.var 57 [.clo 45 [.agg (hbm m0_B mf_1)] []])],4,(fr_ s_),[],3⟩ ?_
 refine Sa ⟨[pR 1 0,pR 2 1,pR 3 2,pR 4 3,pR 5 4],[(4,.var 113 [.d (.nilFn)]),(3,.var 113 [.yld]),(0,.var 81 (hbm o0_B mf)),(1,.var 94 [.d (.fn 61)]),(2,.var 57 [.clo 45 [.agg (hbm m0_B mf_1)] []])],5,(fr_ s_),[],3⟩ ?_
 refine Sa ⟨[pR 5 4],(y34 o0_B mf m0_B mf_1),5,(fr_ s_),[],3⟩ ?_
 refine AW.drw fokW ?_
 refine aX 1 ⟨[(7,.clo 64 [] [.ptr 0 0,.ptr 3 0,.ptr 1 0,.ptr 2 0,.ptr 4 0])],(y34 o0_B mf m0_B mf_1),5,(fr_ s_),[],3⟩ ?_
 obtain ⟨r0,hx_2,h⟩:=bsome h
 refine r_call trivial rfl (k59 _ hx_2) rfl rfl ?_
 obtain ⟨⟨r0_7,s_5⟩,hx_3,h⟩:=bsome h
 refine r_callvS (zr:=[]) [0,3,1,2,4] trivial rfl (.clo _ _ _) (by kernel_rfl) rfl (k64a fr_ c_ hc_ 1000 ([]:(List Int)) r0 o0_B mf m0_B mf_1 s_ _ hx_3) ⟨rfl,rfl,rfl,rfl,rfl,trivial⟩ rfl rfl ⟨(.nil 1),.refl _,.refl _,.refl _,.refl _,.refl _,.refl _,trivial⟩ rfl rfl rfl ?_
 refine Fi ⟨[],[(0,.var 81 (hbm o0_B mf)),(1,.var 94 [.d (.fn 61)]),(2,.var 57 [.clo 45 [.agg (hbm m0_B mf_1)] []])],5,(fr_ s_5),[],3⟩ ?_
 obtain rfl:=Option.some.inj h
 exact hN_0 _ (retX .nil (.refl _) rfl (by kernel_rfl) (by kernel_rfl))
def g43_r11:((List Int)×(Nat→Int))→(Unit)→Option (Ctl (Unit) (Unit)):=fun (a,a1) _=>some (.brk ())
def g43_16 (rec_:(List HairHank)→HairBook→Option Bool) (hanks:(List HairHank)) (o0:HairBook) (p:HairHank):Int→Unit→Option (Ctl (Unit) (Ctl (Unit) (Ctl (Unit) (Bool)))):=fun v _=>(slcL hanks 0 (hanks.length:Int)).bind fun l=>(appL 32 l [(HairHank.mk p.Weight (Span.mk (wr (p.Shade.Low+v)) (wr (p.Shade.Low+v))))]).bind fun l1=>(rec_ l1 o0).bind fun r0_4_1=>bif r0_4_1 then (some (.brk (.brk (.brk true)))) else (some (.next ()))
def g43:Nat→(List HairHank)→HairBook→Option Bool
 | 0,_,_=>none
 | n_+1,hanks,o0=>bif (decide ((hanks.length:Int)=(o0.Hanks.length:Int))) then ((g31 (HairBook.mk hanks o0.Horses o0.Dark o0.Near o0.Match)).bind fun (r0_B,mf)=>(g40).bind fun _=>(g44a r0_B mf r0_B mf).bind fun (o0_B,mf1)=>(g63a (fun a a1 s=>rndC g43_r11 (a,a1) s) o0_B mf1 r0_B mf (.next ())).bind fun out_11=>match out_11 with | .next _=>some false | .brk _=>some true) else ((ixL o0.Hanks (hanks.length:Int)).bind fun p=>bindC (bindC (bindC (forC (g43_16 (g43 n_) hanks o0 p) ((((wr ((wr (p.Shade.High - p.Shade.Low))+1)):Int) - 0).toNat) 0 ()) fun _=>some (.next ()):Option (Ctl (Unit) (Ctl (Unit) (Bool)))) fun _=>some (.next ()):Option (Ctl (Unit) (Bool))) fun _=>some false)
def y35 (o0:HairBook):List (Nat×Blk):=[(2,.var 4 [.d (.bool false)]),(0,.var 39 (cv39 o0)),(1,.var 97 [.clo 43 [] [.ptr 0 0,.ptr 1 0]])]
theorem k43:∀ (n_:Nat) (hanks:(List HairHank)) (o0:HairBook) (r:Bool) (h:g43 n_ hanks o0=some r),SCall Tryd.prog Gs 43 [.d (.sl 4 (List.map e62 hanks)),.ptr 0 0,.ptr 1 0] [(0,.var 39 (cv39 o0)),(1,.var 97 [.clo 43 [] [.ptr 0 0,.ptr 1 0]])] 2 Fr.emp (.d (.bool r)) [(0,.var 39 (cv39 o0)),(1,.var 97 [.clo 43 [] [.ptr 0 0,.ptr 1 0]])] 2 Fr.emp:=by
 intro n_
 induction n_ with
 | zero=>intro hanks o0 r h;cases h
 | succ n_ ih=>
  intro hanks o0 r h
  rw [g43] at h
  refine SCall.mkK Tryd.func43 c43 rfl rfl (by kernel_rfl) (fun Q_0 hR_0 hN_0=>?_)
  refine Sa (sT [(0,.d (.sl 4 (List.map e62 hanks))),pR 1 0,pR 2 1,pR 4 2] (y35 o0) 3 2) ?_
  refine AW.srwK (fun Q_1 hQ_1=>?_)
  refine Au 1 (sT [(0,.d (.sl 4 (List.map e62 hanks))),pR 1 0,pR 2 1,pR 4 2,(11,.d (.sl 4 (List.map e62 hanks)))] (y35 o0) 3 2) ?_
  refine rL rfl ?_
  refine Au 1 (sT [(0,.d (.sl 4 (List.map e62 hanks))),pR 1 0,pR 2 1,pR 4 2,(5,jI (hanks.length:Int))] (y35 o0) 3 2) ?_
  refine RW.nil (hQ_1 _ ?_)
  refine AW.seqK fun K_2 hK_2=>AW.srwK fun Q_3 hQ_3=>?_
  refine Au 3 (sT [(0,.d (.sl 4 (List.map e62 hanks))),pR 1 0,pR 2 1,pR 4 2,(5,jI (hanks.length:Int)),(13,jI (hanks.length:Int)),(15,.d (.sl 4 (List.map e62 o0.Hanks)))] (y35 o0) 3 2) ?_
  refine rL rfl ?_
  refine Au 1 (sT [(0,.d (.sl 4 (List.map e62 hanks))),pR 1 0,pR 2 1,pR 4 2,(5,jI (hanks.length:Int)),(17,.d (.bool (decide ((hanks.length:Int)=(o0.Hanks.length:Int)))))] (y35 o0) 3 2) ?_
  refine RW.nil (hQ_3 _ ?_)
  refine AW.cond rfl (fun hb_4=>?_) (fun hb_4=>?_)
  ·have h:=ifT hb_4 h
   refine Sa (sT [(0,.d (.sl 4 (List.map e62 hanks))),pR 4 2,pR 6 3] [(3,.var 39 (cv39 o0)),(2,.var 4 [.d (.bool false)]),(0,.var 39 (cv39 o0)),(1,.var 97 [.clo 43 [] [.ptr 0 0,.ptr 1 0]])] 4 2) ?_
   refine Sa (sT [pR 4 2,pR 6 3] [(3,.var 39 [.d (.sl 4 (List.map e62 hanks)),.d (.sl 3 (List.map e64 o0.Horses)),jI o0.Dark,jI o0.Near,jI o0.Match]),(2,.var 4 [.d (.bool false)]),(0,.var 39 (cv39 o0)),(1,.var 97 [.clo 43 [] [.ptr 0 0,.ptr 1 0]])] 4 2) ?_
   refine AW.srwK (fun Q_5 hQ_5=>?_)
   refine Au 1 (sT [pR 4 2,(21,.agg [.d (.sl 4 (List.map e62 hanks)),.d (.sl 3 (List.map e64 o0.Horses)),jI o0.Dark,jI o0.Near,jI o0.Match])] (y35 o0) 4 2) ?_
   obtain ⟨⟨r0_B,mf⟩,hx_6,h⟩:=bsome h
   refine rC (k31 (HairBook.mk hanks o0.Horses o0.Dark o0.Near o0.Match) _ hx_6) ?_
   refine Au 2 (sT [pR 4 2,pR 7 4] [(4,.var 81 (hbm r0_B mf)),(2,.var 4 [.d (.bool false)]),(0,.var 39 (cv39 o0)),(1,.var 97 [.clo 43 [] [.ptr 0 0,.ptr 1 0]])] 5 2) ?_
   refine RW.nil (hQ_5 _ ?_)
   refine AW.seqK (fun K_7 hK_7=>?_)
   refine AW.sdrwK fokW (fun Q_8 hQ_8=>?_)
   refine aX 1 (sT [pR 4 2,pR 7 4,(23,.agg (hbm r0_B mf))] [(4,.var 81 (hbm r0_B mf)),(2,.var 4 [.d (.bool false)]),(0,.var 39 (cv39 o0)),(1,.var 97 [.clo 43 [] [.ptr 0 0,.ptr 1 0]])] 5 2) ?_
   obtain ⟨⟨⟩,hx_9,h⟩:=bsome h
   refine r_call trivial rfl (k40 _ hx_9) rfl rfl ?_
   refine aX 2 (sT [pR 4 2,(23,.agg (hbm r0_B mf)),(24,.agg [.d (.fn 61)]),(26,.clo 45 [.agg (hbm r0_B mf)] [])] [(4,.var 81 (hbm r0_B mf)),(2,.var 4 [.d (.bool false)]),(0,.var 39 (cv39 o0)),(1,.var 97 [.clo 43 [] [.ptr 0 0,.ptr 1 0]])] 5 2) ?_
   obtain ⟨⟨o0_B,mf1⟩,hx_10,h⟩:=bsome h
   refine r_callS (zr:=[]) [] trivial rfl (k44a r0_B mf r0_B mf _ hx_10) trivial rfl rfl ⟨.refl _,.refl _,.refl _,trivial⟩ rfl rfl rfl ?_
   refine Fi (sT [pR 4 2,(27,.clo 63 [] [.ptr 5 0,.ptr 6 0,.ptr 7 0])] [(5,.var 81 (hbm o0_B mf1)),(6,.var 94 [.d (.fn 61)]),(7,.var 57 [.clo 45 [.agg (hbm r0_B mf)] []]),(2,.var 4 [.d (.bool false)]),(0,.var 39 (cv39 o0)),(1,.var 97 [.clo 43 [] [.ptr 0 0,.ptr 1 0]])] 8 2) ?_
   refine hQ_8 _ ?_
   refine AW.block ?_
   obtain ⟨out_11,hx_11,h⟩:=bsome h
   refine AW.rfX (fun (_:Unit)=>[(8,.dm),(2,.var 4 [.d (.bool false)]),(0,.var 39 (cv39 o0)),(1,.var 97 [.clo 43 [] [.ptr 0 0,.ptr 1 0]])]) (fun (_:Unit)=>[(8,.dm),(2,.var 4 [.d (.bool true)]),(0,.var 39 (cv39 o0)),(1,.var 97 [.clo 43 [] [.ptr 0 0,.ptr 1 0]])]) (fun _=>some .ret) g43_r11 (fun (⟨a,a1⟩:(List Int)×(Nat→Int))=>[.d (q1 a),.agg (cfv a1)]) (s0:=()) (out:=out_11) [pR 4 2] [(2,.var 4 [.d (.bool false)]),(0,.var 39 (cv39 o0)),(1,.var 97 [.clo 43 [] [.ptr 0 0,.ptr 1 0]])] [5,6,7] rfl (.clo _ _ _) (by kernel_rfl) (by kernel_rfl) (fun fr_ hY_11=>k63a fr_ _ (fun a a1 s s2 b h=>hY_11 (a,a1) s s2 b h) o0_B mf1 r0_B mf (.next ()) _ hx_11) (by kernel_rfl) ⟨rfl,rfl,rfl,trivial⟩ rfl ⟨rfl,rfl⟩ rfl rfl (fun _=>rfl) (fun _=>rfl) (fun a_11 s_11 c_11 h l_11=>?_) (fun _=>rfl) ?_
   ·obtain ⟨a,a1⟩:=a_11
    unfold g43_r11 at h
    refine AW.skip ?_
    refine AW.block ?_
    refine AW.sa (fokR l_11) [] (sT [pR 4 2] [(2,.var 4 [.d (.bool true)]),(8,.dm),(0,.var 39 (cv39 o0)),(1,.var 97 [.clo 43 [] [.ptr 0 0,.ptr 1 0]])] 9 9) (by kernel_rfl) ?_
    refine AW.ret ?_
    obtain rfl:=Option.some.inj h
    exact ⟨(sT [] [(8,.dm),(2,.var 4 [.d (.bool true)]),(0,.var 39 (cv39 o0)),(1,.var 97 [.clo 43 [] [.ptr 0 0,.ptr 1 0]])] 9 9),Can.kp (by kernel_rfl),rdX trivial rfl (by kernel_rfl) (by kernel_rfl)⟩
   ·rcases out_11 with _ | _
    ·refine hK_7 _ ?_
     refine Sa ⟨[pR 4 2],[(2,.var 4 [.d (.bool false)]),(8,.dm),(0,.var 39 (cv39 o0)),(1,.var 97 [.clo 43 [] [.ptr 0 0,.ptr 1 0]])],9,Fr.emp,[8],2⟩ ?_
     obtain rfl:=Option.some.inj h
     exact rT hR_0 (.cons (.one rfl rfl rfl) .nil)
    ·obtain rfl:=Option.some.inj h
     exact hR_0 _ (retX (.cons (.one rfl rfl rfl) .nil) (.refl _) rfl (by kernel_rfl) (by kernel_rfl))
  ·have h:=ifF hb_4 h
   refine AW.skip (hK_2 _ ?_)
   refine AW.srwK (fun Q_12 hQ_12=>?_)
   refine Au 3 (sT [(0,.d (.sl 4 (List.map e62 hanks))),pR 1 0,pR 2 1,pR 4 2,(5,jI (hanks.length:Int)),(31,.d (.sl 4 (List.map e62 o0.Hanks))),(32,jI (hanks.length:Int))] (y35 o0) 3 2) ?_
   obtain ⟨p,hv_13,h⟩:=bsome h
   refine RW.one fokW (r_iaD trivial rfl rfl (ixL_ok hv_13).1 (row:=e62 p) (mapget (ixL_ok hv_13).2) (r_end ?_))
   refine Au 4 (sT [(0,.d (.sl 4 (List.map e62 hanks))),pR 1 0,pR 2 1,pR 4 2,(5,jI (hanks.length:Int)),pR 8 3] [(3,.var 47 [jI p.Shade.Low,jI p.Shade.High]),(2,.var 4 [.d (.bool false)]),(0,.var 39 (cv39 o0)),(1,.var 97 [.clo 43 [] [.ptr 0 0,.ptr 1 0]])] 4 2) ?_
   refine RW.nil (hQ_12 _ ?_)
   obtain ⟨c_14,hx_14,hk_14⟩:=bsomeC h
   refine AW.jnK (fun (_:Unit)=>(sT [pR 4 2] (y35 o0) 4 2)) (c:=c_14) (fun K_14 hK_14=>?_) (fun j_14 hj_14=>?_)
   ·have h:=hx_14
    refine Sa (sT [(0,.d (.sl 4 (List.map e62 hanks))),pR 1 0,pR 2 1,pR 4 2,(5,jI (hanks.length:Int)),pR 8 3,(41,jI (wr ((wr (p.Shade.High - p.Shade.Low))+1))),(42,jI 0)] [(3,.var 47 [jI p.Shade.Low,jI p.Shade.High]),(2,.var 4 [.d (.bool false)]),(0,.var 39 (cv39 o0)),(1,.var 97 [.clo 43 [] [.ptr 0 0,.ptr 1 0]])] 4 2) ?_
    obtain ⟨c_15,hx_15,hk_15⟩:=bsomeC h
    refine AW.jqK (fun (_:Unit)=>(sT [pR 4 2] (y35 o0) 4 2)) (c:=c_15) (fun K_15 hK_15=>?_) (fun j_15 hj_15=>?_)
    ·have h:=hx_15
     refine AW.block ?_
     have hN_16:(wr ((wr (p.Shade.High - p.Shade.Low))+1))≤9223372036854775807:=(wr_range _).2
     obtain ⟨out_16,hx_16,hk_16⟩:=bsomeC h
     refine AW.lpCK (fun (v:Int) (_:Unit)=>(sT [(0,.d (.sl 4 (List.map e62 hanks))),pR 1 0,pR 2 1,pR 4 2,(5,jI (hanks.length:Int)),pR 8 3,(41,jI (wr ((wr (p.Shade.High - p.Shade.Low))+1))),(42,jI v)] [(3,.var 47 [jI p.Shade.Low,jI p.Shade.High]),(2,.var 4 [.d (.bool false)]),(0,.var 39 (cv39 o0)),(1,.var 97 [.clo 43 [] [.ptr 0 0,.ptr 1 0]])] 4 2)) (g43_16 (g43 n_) hanks o0 p) ((wr ((wr (p.Shade.High - p.Shade.Low))+1))) hx_16 (Can.kp (by kernel_rfl)) (fun v s_16 hi_16 hl_16 c_16 h hb_16 K_16 hK_16=>?_) (fun v s_16 hi_16 hl_16 hout=>?_)
     ·unfold g43_16 at h
      refine Sa (sT [(0,.d (.sl 4 (List.map e62 hanks))),pR 1 0,pR 2 1,pR 4 2,(5,jI (hanks.length:Int)),pR 8 3,(41,jI (wr ((wr (p.Shade.High - p.Shade.Low))+1))),(42,jI v),(43,.d (.bool (decide (v<(wr ((wr (p.Shade.High - p.Shade.Low))+1))))))] [(3,.var 47 [jI p.Shade.Low,jI p.Shade.High]),(2,.var 4 [.d (.bool false)]),(0,.var 39 (cv39 o0)),(1,.var 97 [.clo 43 [] [.ptr 0 0,.ptr 1 0]])] 4 2) ?_
      refine AW.seqK (fun K_17 hK_17=>?_)
      refine AW.cond rfl (fun hb_18=>?_) (fun hb_18=>False.elim (by have:=of_decide_eq_false hb_18;omega))
      refine AW.skip (hK_17 _ ?_)
      refine AW.seqK (fun K_19 hK_19=>?_)
      refine AW.block ?_
      refine Sa (sT [(0,.d (.sl 4 (List.map e62 hanks))),pR 1 0,pR 2 1,pR 4 2,(5,jI (hanks.length:Int)),pR 8 3,(9,jI v),(41,jI (wr ((wr (p.Shade.High - p.Shade.Low))+1))),(42,jI v)] [(3,.var 47 [jI p.Shade.Low,jI p.Shade.High]),(2,.var 4 [.d (.bool false)]),(0,.var 39 (cv39 o0)),(1,.var 97 [.clo 43 [] [.ptr 0 0,.ptr 1 0]])] 4 2) ?_
      refine Sa (sT [(0,.d (.sl 4 (List.map e62 hanks))),pR 1 0,pR 2 1,pR 4 2,(5,jI (hanks.length:Int)),pR 8 3,pR 10 4,(41,jI (wr ((wr (p.Shade.High - p.Shade.Low))+1))),(42,jI v)] [(4,.var 47 [jI (wr (p.Shade.Low+v)),jI (wr (p.Shade.Low+v))]),(3,.var 47 [jI p.Shade.Low,jI p.Shade.High]),(2,.var 4 [.d (.bool false)]),(0,.var 39 (cv39 o0)),(1,.var 97 [.clo 43 [] [.ptr 0 0,.ptr 1 0]])] 5 2) ?_
      refine AW.sdrwK fokW (fun Q_20 hQ_20=>?_)
      refine aX 4 (sT [(0,.d (.sl 4 (List.map e62 hanks))),pR 1 0,pR 2 1,pR 4 2,(5,jI (hanks.length:Int)),pR 8 3,pR 10 4,(41,jI (wr ((wr (p.Shade.High - p.Shade.Low))+1))),(42,jI v),(54,.clo 43 [] [.ptr 0 0,.ptr 1 0]),(55,.d (.sl 4 (List.map e62 hanks))),(56,jI (hanks.length:Int)),(57,jI (hanks.length:Int))] [(4,.var 47 [jI (wr (p.Shade.Low+v)),jI (wr (p.Shade.Low+v))]),(3,.var 47 [jI p.Shade.Low,jI p.Shade.High]),(2,.var 4 [.d (.bool false)]),(0,.var 39 (cv39 o0)),(1,.var 97 [.clo 43 [] [.ptr 0 0,.ptr 1 0]])] 5 2) ?_
      obtain ⟨l,hv_21,h⟩:=bsome h
      refine r_slN trivial rfl rfl rfl DSl.d (slcL_ok hv_21).2.1 (by rw [List.length_map];exact (slcL_ok hv_21).2.2.1) rfl (slz hv_21 e62) ?_
      refine aX 3 (sT [(0,.d (.sl 4 (List.map e62 hanks))),pR 1 0,pR 2 1,pR 4 2,(5,jI (hanks.length:Int)),pR 8 3,pR 10 4,(41,jI (wr ((wr (p.Shade.High - p.Shade.Low))+1))),(42,jI v),(54,.clo 43 [] [.ptr 0 0,.ptr 1 0]),(58,.fsl 4 (List.map e62 l)),(60,.d (.sl 4 (List.map e62 o0.Hanks))),(61,jI (hanks.length:Int))] [(4,.var 47 [jI (wr (p.Shade.Low+v)),jI (wr (p.Shade.Low+v))]),(3,.var 47 [jI p.Shade.Low,jI p.Shade.High]),(2,.var 4 [.d (.bool false)]),(0,.var 39 (cv39 o0)),(1,.var 97 [.clo 43 [] [.ptr 0 0,.ptr 1 0]])] 5 2) ?_
      refine r_iaD trivial rfl rfl (ixL_ok hv_13).1 (row:=e62 p) (mapget (ixL_ok hv_13).2) ?_
      refine aX 5 (sT [(0,.d (.sl 4 (List.map e62 hanks))),pR 1 0,pR 2 1,pR 4 2,(5,jI (hanks.length:Int)),pR 8 3,(41,jI (wr ((wr (p.Shade.High - p.Shade.Low))+1))),(42,jI v),(54,.clo 43 [] [.ptr 0 0,.ptr 1 0]),(58,.fsl 4 (List.map e62 l)),(67,.own 5 (List.map e62 [(HairHank.mk p.Weight (Span.mk (wr (p.Shade.Low+v)) (wr (p.Shade.Low+v))))]).length)] [(5,.row 62 4 (List.map e62 [(HairHank.mk p.Weight (Span.mk (wr (p.Shade.Low+v)) (wr (p.Shade.Low+v))))])),(4,.var 47 [jI (wr (p.Shade.Low+v)),jI (wr (p.Shade.Low+v))]),(3,.var 47 [jI p.Shade.Low,jI p.Shade.High]),(2,.var 4 [.d (.bool false)]),(0,.var 39 (cv39 o0)),(1,.var 97 [.clo 43 [] [.ptr 0 0,.ptr 1 0]])] 6 2) ?_
      obtain ⟨l1,hv_22,h⟩:=bsome h
      refine r_apF trivial rfl rfl rfl rfl (by simp) (zs:=List.map e62 l1) (apz hv_22 e62) (apr hv_22 e62) ?_
      obtain ⟨r0_4_1,hx_23,h⟩:=bsome h
      refine r_callvE (zr:=[(6,.row 62 4 (List.map e62 l1))]) [0,1] trivial rfl (.clo _ _ _) (by kernel_rfl) rfl (ih l1 o0 _ hx_23) ⟨rfl,rfl,rfl,trivial⟩ rfl rfl ⟨(.own rfl rfl),.refl _,.refl _,trivial⟩ rfl rfl rfl ?_
      refine Fi (sT [(0,.d (.sl 4 (List.map e62 hanks))),pR 1 0,pR 2 1,pR 4 2,(5,jI (hanks.length:Int)),pR 8 3,(41,jI (wr ((wr (p.Shade.High - p.Shade.Low))+1))),(42,jI v),(69,.d (.bool r0_4_1))] [(0,.var 39 (cv39 o0)),(1,.var 97 [.clo 43 [] [.ptr 0 0,.ptr 1 0]]),(3,.var 47 [jI p.Shade.Low,jI p.Shade.High]),(2,.var 4 [.d (.bool false)])] 7 2) ?_
      refine hQ_20 _ ?_
      refine AW.cond rfl (fun hb_24=>?_) (fun hb_24=>?_)
      ·have h:=ifT hb_24 h
       refine Sa (sT [pR 4 2] [(2,.var 4 [.d (.bool true)]),(0,.var 39 (cv39 o0)),(1,.var 97 [.clo 43 [] [.ptr 0 0,.ptr 1 0]])] 7 2) ?_
       obtain rfl:=Option.some.inj h
       have e_3:=hb_16 _ rfl
       subst e_3
       obtain rfl:=Aft.bk hk_16
       obtain rfl:=Aft.bk hk_15
       obtain rfl:=Aft.bk hk_14
       exact rT hR_0 (.cons (.one rfl rfl rfl) .nil)
      ·have h:=ifF hb_24 h
       refine AW.skip (hK_19 _ ?_)
       refine Ra (sT [(0,.d (.sl 4 (List.map e62 hanks))),pR 1 0,pR 2 1,pR 4 2,(5,jI (hanks.length:Int)),pR 8 3,(41,jI (wr ((wr (p.Shade.High - p.Shade.Low))+1))),(42,jI (wr (v+1)))] [(0,.var 39 (cv39 o0)),(1,.var 97 [.clo 43 [] [.ptr 0 0,.ptr 1 0]]),(3,.var 47 [jI p.Shade.Low,jI p.Shade.High]),(2,.var 4 [.d (.bool false)])] 7 2) ?_
       obtain rfl:=Option.some.inj h
       have ew:wr (v+1)=v+1:=inext (N:=(wr ((wr (p.Shade.High - p.Shade.Low))+1))) (by omega) (by omega) (by omega)
       rw [ew]
       exact hK_16 _ _ rfl (Can.kp (by kernel_rfl))
     ·subst hout
      have h:=Aft.nx hk_16
      refine Sa (sT [(0,.d (.sl 4 (List.map e62 hanks))),pR 1 0,pR 2 1,pR 4 2,(5,jI (hanks.length:Int)),pR 8 3,(41,jI (wr ((wr (p.Shade.High - p.Shade.Low))+1))),(42,jI v),(43,.d (.bool (decide (v<(wr ((wr (p.Shade.High - p.Shade.Low))+1))))))] [(3,.var 47 [jI p.Shade.Low,jI p.Shade.High]),(2,.var 4 [.d (.bool false)]),(0,.var 39 (cv39 o0)),(1,.var 97 [.clo 43 [] [.ptr 0 0,.ptr 1 0]])] 4 2) ?_
      refine AW.seqK (fun K_25 hK_25=>?_)
      refine AW.cond rfl (fun hb_26=>False.elim (by have:=of_decide_eq_true hb_26;omega)) (fun hb_26=>?_)
      refine AW.exit ?_
      obtain rfl:=Option.some.inj h
      exact hK_15 _ _ rfl (Can.kp (by kernel_rfl))
    ·subst hj_15
     have h:=Aft.nx hk_15
     obtain rfl:=Option.some.inj h
     exact hK_14 _ _ rfl (Can.kp (by kernel_rfl))
   ·subst hj_14
    have h:=Aft.nx hk_14
    refine Sa (sT [pR 4 2] (y35 o0) 4 2) ?_
    obtain rfl:=Option.some.inj h
    exact rT hR_0 (.cons (.one rfl rfl rfl) .nil)
def g16 (x:HairBook):Option (Bool×Int):=(g30 x).bind fun r0_9=>bif (decide (r0_9≠0)) then (some (false,r0_9)) else ((g43 1000 ([]:(List HairHank)) x).bind fun r0_4=>some (r0_4,0))
def y36 (x:HairBook):List (Nat×Blk):=[(1,.var 97 [.clo 43 [] [.ptr 0 0,.ptr 1 0]]),(0,.var 39 (cv39 x))]
theorem k16 (x:HairBook) (r:Bool×Int) (h:g16 x=some r):SCall Tryd.prog Gs 16 [.agg (cv39 x)] [] 0 Fr.emp (match r with | (r0_1,r1_1)=>.tup [.d (.bool r0_1),jI r1_1]) [] 0 Fr.emp:=by
 unfold g16 at h
 refine SCall.mkK Tryd.func16 c16 rfl rfl (by kernel_rfl) (fun Q_0 hR_0 hN_0=>?_)
 refine Sa (sT [pR 1 0] [(0,.var 39 (cv39 x))] 1 0) ?_
 refine AW.seqK fun K_1 hK_1=>AW.srwK fun Q_2 hQ_2=>?_
 refine Au 1 (sT [pR 1 0,(6,.agg (cv39 x))] [(0,.var 39 (cv39 x))] 1 0) ?_
 obtain ⟨r0_9,hx_3,h⟩:=bsome h
 refine rC (k30 x _ hx_3) ?_
 refine Au 1 (sT [pR 1 0,(4,jI r0_9)] [(0,.var 39 (cv39 x))] 1 0) ?_
 refine RW.nil (hQ_2 _ ?_)
 refine Sa (sT [pR 1 0,(4,jI r0_9),(9,.d (.bool (decide (r0_9≠0))))] [(0,.var 39 (cv39 x))] 1 0) ?_
 refine AW.cond rfl (fun hb_4=>?_) (fun hb_4=>?_)
 ·have h:=ifT hb_4 h
  refine Sa (sT [(2,.d (.bool false)),(3,jI r0_9)] [] 1 0) ?_
  obtain rfl:=Option.some.inj h
  exact rT hR_0 (.cons (.tmp rfl) (.cons (.tmp rfl) .nil))
 ·have h:=ifF hb_4 h
  refine AW.skip (hK_1 _ ?_)
  refine Sa (sT [pR 1 0,pR 5 1] [(1,.var 97 [.d (.nilFn)]),(0,.var 39 (cv39 x))] 2 0) ?_
  refine Sa (sT [pR 5 1] (y36 x) 2 0) ?_
  refine AW.srwK (fun Q_5 hQ_5=>?_)
  refine Au 1 (sT [(12,.clo 43 [] [.ptr 0 0,.ptr 1 0])] (y36 x) 2 0) ?_
  obtain ⟨r0_4,hx_6,h⟩:=bsome h
  refine RW.one fokW (r_callvE (zr:=[]) [0,1] trivial rfl (.clo _ _ _) (by kernel_rfl) rfl (k43 1000 ([]:(List HairHank)) x _ hx_6) ⟨rfl,rfl,trivial⟩ rfl rfl ⟨(.nil 4),.refl _,.refl _,trivial⟩ rfl rfl rfl (r_end ?_))
  refine Au 2 (sT [(2,.d (.bool r0_4)),(3,jI 0)] [] 2 0) ?_
  refine RW.nil (hQ_5 _ ?_)
  obtain rfl:=Option.some.inj h
  exact rT hR_0 (.cons (.tmp rfl) (.cons (.tmp rfl) .nil))
def g51 (x:PlankBook) (n:Int):Option Bool:=(g48 n 0 (wr ((x.Planks.length:Int) - 1))).bind fun r0=>some r0
theorem k51 (x:PlankBook) (n:Int) (r:Bool) (h:g51 x n=some r):SCall Tryd.prog Gs 51 [.agg (pbv x),jI n] [] 0 Fr.emp (.d (.bool r)) [] 0 Fr.emp:=by
 unfold g51 at h
 refine SCall.mkK Tryd.func51 c51 rfl rfl (by kernel_rfl) (fun Q_0 hR_0 hN_0=>?_)
 refine Sa (sT [(1,jI n),pR 2 0] [(0,.var 25 (pbv x))] 1 0) ?_
 refine AW.srwK (fun Q_1 hQ_1=>?_)
 refine Au 3 (sT [(5,jI n),(7,.d (.sl 2 (List.map e32 x.Planks)))] [] 1 0) ?_
 refine rL rfl ?_
 refine Au 1 (sT [(5,jI n),(9,jI (wr ((x.Planks.length:Int) - 1)))] [] 1 0) ?_
 obtain ⟨r0,hx_2,h⟩:=bsome h
 refine rC (k48 n 0 (wr ((x.Planks.length:Int) - 1)) _ hx_2) ?_
 refine Au 1 (sT [(4,.d (.bool r0))] [] 1 0) ?_
 refine RW.nil (hQ_1 _ ?_)
 obtain rfl:=Option.some.inj h
 exact rT hR_0 (.cons (.tmp rfl) .nil)
def g52 (x:PlankBook) (n:Int):Option Bool:=(g48 n 0 (wr ((x.Parts.length:Int) - 1))).bind fun r0=>some r0
theorem k52 (x:PlankBook) (n:Int) (r:Bool) (h:g52 x n=some r):SCall Tryd.prog Gs 52 [.agg (pbv x),jI n] [] 0 Fr.emp (.d (.bool r)) [] 0 Fr.emp:=by
 unfold g52 at h
 refine SCall.mkK Tryd.func52 c52 rfl rfl (by kernel_rfl) (fun Q_0 hR_0 hN_0=>?_)
 refine Sa (sT [(1,jI n),pR 2 0] [(0,.var 25 (pbv x))] 1 0) ?_
 refine AW.srwK (fun Q_1 hQ_1=>?_)
 refine Au 3 (sT [(5,jI n),(7,.d (.sl 3 (List.map e35 x.Parts)))] [] 1 0) ?_
 refine rL rfl ?_
 refine Au 1 (sT [(5,jI n),(9,jI (wr ((x.Parts.length:Int) - 1)))] [] 1 0) ?_
 obtain ⟨r0,hx_2,h⟩:=bsome h
 refine rC (k48 n 0 (wr ((x.Parts.length:Int) - 1)) _ hx_2) ?_
 refine Au 1 (sT [(4,.d (.bool r0))] [] 1 0) ?_
 refine RW.nil (hQ_1 _ ?_)
 obtain rfl:=Option.some.inj h
 exact rT hR_0 (.cons (.tmp rfl) .nil)
def g21_9 (x:PlankBook):Int→Int→(Bool×Int)→Option (Bool×Int):=fun v p (ok,last)=>(bif ok then ((g52 x p).bind fun r0_1_1=>some r0_1_1) else (some false)).bind fun v1=>some ((v1&&(decide (last<p))),p)
def g21 (x:PlankBook) (plank:Int) (parts:(List Int)):Option ((List Int)×Int):=(g18 x).bind fun r0_4=>bif (decide (r0_4≠0)) then (some ([],r0_4)) else ((g51 x plank).bind fun r0_1=>(eachS (g21_9 x) parts 0 (r0_1,(-1))).bind fun (ok,last)=>bif (!ok) then (some ([],11)) else ((g23 x).bind fun (r0_K,m2)=>(must (wimB m2)).bind fun _=>(g53 r0_K plank parts).bind fun (r0_1_2,r1)=>bif (!r1) then (some ([],4)) else ((slcL r0_1_2 0 (r0_1_2.length:Int)).bind fun l=>some (l,0))))
theorem k21 (x:PlankBook) (plank:Int) (parts:(List Int)) (r:(List Int)×Int) (h:g21 x plank parts=some r):SCall Tryd.prog Gs 21 [.agg (pbv x),jI plank,.d (q1 parts)] [] 0 Fr.emp (match r with | (r0_5,r1_4)=>.tup [.d (q1 r0_5),jI r1_4]) [] 0 Fr.emp:=by
 unfold g21 at h
 refine SCall.mkK Tryd.func21 c21 rfl rfl (by kernel_rfl) (fun Q_0 hR_0 hN_0=>?_)
 refine Sa (sT [(1,jI plank),(2,.d (q1 parts)),pR 3 0] [(0,.var 25 (pbv x))] 1 0) ?_
 refine AW.seqK fun K_1 hK_1=>AW.srwK fun Q_2 hQ_2=>?_
 refine Au 1 (sT [(1,jI plank),(2,.d (q1 parts)),pR 3 0,(15,.agg (pbv x))] [(0,.var 25 (pbv x))] 1 0) ?_
 obtain ⟨r0_4,hx_3,h⟩:=bsome h
 refine rC (k18 x _ hx_3) ?_
 refine Au 1 (sT [(1,jI plank),(2,.d (q1 parts)),pR 3 0,(8,jI r0_4)] [(0,.var 25 (pbv x))] 1 0) ?_
 refine RW.nil (hQ_2 _ ?_)
 refine Sa (sT [(1,jI plank),(2,.d (q1 parts)),pR 3 0,(8,jI r0_4),(18,.d (.bool (decide (r0_4≠0))))] [(0,.var 25 (pbv x))] 1 0) ?_
 refine AW.cond rfl (fun hb_4=>?_) (fun hb_4=>?_)
 ·have h:=ifT hb_4 h
  refine Sa (sT [(6,.d (.nilSl)),(7,jI r0_4)] [] 1 0) ?_
  obtain rfl:=Option.some.inj h
  exact AW.ret (hR_0 _ (retX (.cons (.tmp rfl) (.cons (.tmp rfl) .nil)) (Frz.tup_of ⟨.nil 1,.refl _,trivial⟩) rfl (by kernel_rfl) (by kernel_rfl)))
 ·have h:=ifF hb_4 h
  refine AW.skip (hK_1 _ ?_)
  refine AW.srwK (fun Q_5 hQ_5=>?_)
  refine Au 2 (sT [(1,jI plank),(2,.d (q1 parts)),pR 3 0,(20,.agg (pbv x)),(21,jI plank)] [(0,.var 25 (pbv x))] 1 0) ?_
  obtain ⟨r0_1,hx_6,h⟩:=bsome h
  refine rC (k51 x plank _ hx_6) ?_
  refine Au 1 (sT [(1,jI plank),(2,.d (q1 parts)),pR 3 0,(9,.d (.bool r0_1))] [(0,.var 25 (pbv x))] 1 0) ?_
  refine RW.nil (hQ_5 _ ?_)
  refine Sa (sT [(1,jI plank),(2,.d (q1 parts)),pR 3 0,(9,.d (.bool r0_1)),(10,jI (-1))] [(0,.var 25 (pbv x))] 1 0) ?_
  refine AW.seqK fun K_7 hK_7=>AW.srwK fun Q_8 hQ_8=>?_
  refine Au 1 (sT [(1,jI plank),(2,.d (q1 parts)),pR 3 0,(9,.d (.bool r0_1)),(10,jI (-1)),(23,.d (q1 parts))] [(0,.var 25 (pbv x))] 1 0) ?_
  refine rL rfl ?_
  refine Au 1 (sT [(1,jI plank),(2,.d (q1 parts)),pR 3 0,(9,.d (.bool r0_1)),(10,jI (-1)),(23,.d (q1 parts)),(24,jI (parts.length:Int)),(25,jI 0)] [(0,.var 25 (pbv x))] 1 0) ?_
  refine RW.nil (hQ_8 _ ?_)
  refine AW.block ?_
  refine AW.sln (t:=2) rfl (fun hN_9=>?_)
  rw [List.length_map] at hN_9
  obtain ⟨out_9,hx_9,h⟩:=bsome h
  refine AW.evSK (fun (v:Int) (⟨ok,last⟩:Bool×Int)=>(sT [(1,jI plank),(2,.d (q1 parts)),pR 3 0,(9,.d (.bool ok)),(10,jI last),(23,.d (q1 parts)),(24,jI (parts.length:Int)),(25,jI v)] [(0,.var 25 (pbv x))] 1 0)) (g21_9 x) hx_9 (Can.kp (by kernel_rfl)) (fun v p s_9 hi_9 hl_9 hp_9 c_9 h K_9 hK_9=>?_) (fun v s_9 hi_9 hl_9 hout=>?_)
  ·obtain ⟨ok,last⟩:=s_9
   unfold g21_9 at h
   refine Sa (sT [(1,jI plank),(2,.d (q1 parts)),pR 3 0,(9,.d (.bool ok)),(10,jI last),(23,.d (q1 parts)),(24,jI (parts.length:Int)),(25,jI v),(26,.d (.bool (decide (v<(parts.length:Int)))))] [(0,.var 25 (pbv x))] 1 0) ?_
   refine AW.seqK (fun K_10 hK_10=>?_)
   refine AW.cond rfl (fun hb_11=>?_) (fun hb_11=>False.elim (by have:=of_decide_eq_false hb_11;omega))
   refine AW.skip (hK_10 _ ?_)
   refine AW.seqK (fun K_12 hK_12=>?_)
   refine AW.block ?_
   refine AW.srwK (fun Q_13 hQ_13=>?_)
   refine RW.one fokW (r_iaD trivial rfl rfl hi_9 (row:=e3 p) (mapget hp_9) (r_end ?_))
   refine Au 2 (sT [(1,jI plank),(2,.d (q1 parts)),pR 3 0,(9,.d (.bool ok)),(10,jI last),(12,jI p),(23,.d (q1 parts)),(24,jI (parts.length:Int)),(25,jI v)] [(0,.var 25 (pbv x))] 1 0) ?_
   refine RW.nil (hQ_13 _ ?_)
   refine AW.srwK (fun Q_14 hQ_14=>?_)
   refine Au 2 (sT [(1,jI plank),(2,.d (q1 parts)),pR 3 0,(10,jI last),(12,jI p),(23,.d (q1 parts)),(24,jI (parts.length:Int)),(25,jI v),(30,.d (.bool ok))] [(0,.var 25 (pbv x))] 1 0) ?_
   obtain ⟨v1,hx_15,h⟩:=bsome h
   refine RW.cut fokW 4 ((sT [(1,jI plank),(2,.d (q1 parts)),pR 3 0,(10,jI last),(12,jI p),(23,.d (q1 parts)),(24,jI (parts.length:Int)),(25,jI v),(34,.d (.bool v1))] [(0,.var 25 (pbv x))] 1 0)) ?_ ?_
   ·refine r_split 30 rfl (fun hb_17=>?_) (fun hb_17=>?_)
    ·have h:=ifT hb_17 hx_15
     refine aX 2 (sT [(1,jI plank),(2,.d (q1 parts)),pR 3 0,(10,jI last),(12,jI p),(23,.d (q1 parts)),(24,jI (parts.length:Int)),(25,jI v),(30,.d (.bool true)),(31,.agg (pbv x)),(32,jI p)] [(0,.var 25 (pbv x))] 1 0) ?_
     obtain ⟨r0_1_1,hx_16,h⟩:=bsome h
     refine r_call rfl rfl (k52 x p _ hx_16) rfl rfl ?_
     refine aX 1 (sT [(1,jI plank),(2,.d (q1 parts)),pR 3 0,(10,jI last),(12,jI p),(23,.d (q1 parts)),(24,jI (parts.length:Int)),(25,jI v),(34,.d (.bool r0_1_1))] [(0,.var 25 (pbv x))] 1 0) ?_
     obtain rfl:=Option.some.inj h
     refine RunC.finJ (Can.kp (by kernel_rfl))
    ·have h:=ifF hb_17 hx_15
     refine aX 4 (sT [(1,jI plank),(2,.d (q1 parts)),pR 3 0,(10,jI last),(12,jI p),(23,.d (q1 parts)),(24,jI (parts.length:Int)),(25,jI v),(34,.d (.bool false))] [(0,.var 25 (pbv x))] 1 0) ?_
     obtain rfl:=Option.some.inj h
     refine RunC.finJ (Can.kp (by kernel_rfl))
   ·refine RW.au fokW 6 [35] (sT [(1,jI plank),(2,.d (q1 parts)),pR 3 0,(9,.d (.bool (v1&&(decide (last<p))))),(12,jI p),(23,.d (q1 parts)),(24,jI (parts.length:Int)),(25,jI v)] [(0,.var 25 (pbv x))] 1 0) (by kernel_rfl) ?_
    refine RW.nil (hQ_14 _ ?_)
    refine Ra (sT [(1,jI plank),(2,.d (q1 parts)),pR 3 0,(9,.d (.bool (v1&&(decide (last<p))))),(10,jI p),(23,.d (q1 parts)),(24,jI (parts.length:Int)),(25,jI v)] [(0,.var 25 (pbv x))] 1 0) ?_
    refine hK_12 _ ?_
    refine Ra (sT [(1,jI plank),(2,.d (q1 parts)),pR 3 0,(9,.d (.bool (v1&&(decide (last<p))))),(10,jI p),(23,.d (q1 parts)),(24,jI (parts.length:Int)),(25,jI (wr (v+1)))] [(0,.var 25 (pbv x))] 1 0) ?_
    obtain rfl:=Option.some.inj h
    have ew:wr (v+1)=v+1:=inext (N:=(parts.length:Int)) (by omega) (by omega) (by omega)
    rw [ew]
    exact hK_9 _ (Can.kp (by kernel_rfl))
  ·obtain ⟨ok,last⟩:=s_9
   subst hout
   refine Sa (sT [(1,jI plank),(2,.d (q1 parts)),pR 3 0,(9,.d (.bool ok)),(10,jI last),(23,.d (q1 parts)),(24,jI (parts.length:Int)),(25,jI v),(26,.d (.bool (decide (v<(parts.length:Int)))))] [(0,.var 25 (pbv x))] 1 0) ?_
   refine AW.seqK (fun K_18 hK_18=>?_)
   refine AW.cond rfl (fun hb_19=>False.elim (by have:=of_decide_eq_true hb_19;omega)) (fun hb_19=>?_)
   refine AW.exit ?_
   refine hK_7 _ ?_
   refine AW.seqK (fun K_20 hK_20=>?_)
   refine Sa (sT [(1,jI plank),(2,.d (q1 parts)),pR 3 0,(43,.d (.bool (!ok)))] [(0,.var 25 (pbv x))] 1 0) ?_
   refine AW.cond rfl (fun hb_21=>?_) (fun hb_21=>?_)
   ·have h:=ifT hb_21 h
    refine Sa (sT [(6,.d (.nilSl)),(7,jI 11)] [] 1 0) ?_
    obtain rfl:=Option.some.inj h
    exact AW.ret (hR_0 _ (retX (.cons (.tmp rfl) (.cons (.tmp rfl) .nil)) (Frz.tup_of ⟨.nil 1,.refl _,trivial⟩) rfl (by kernel_rfl) (by kernel_rfl)))
   ·have h:=ifF hb_21 h
    refine AW.skip (hK_20 _ ?_)
    refine AW.srwK (fun Q_22 hQ_22=>?_)
    refine Au 1 (sT [(1,jI plank),(2,.d (q1 parts)),(45,.agg (pbv x))] [] 1 0) ?_
    obtain ⟨⟨r0_K,m2⟩,hx_23,h⟩:=bsome h
    refine RW.one fokW (r_callS (zr:=[]) [] trivial rfl (k23 x _ hx_23) trivial rfl rfl ⟨.refl _,trivial⟩ rfl rfl rfl (r_end ?_))
    refine Au 2 (sT [(46,.agg (pbm r0_K (.map 3))),(47,jI plank),(48,.d (q1 parts))] [(3,.mp (List.map m104_3 m2))] 4 0) ?_
    obtain ⟨_,hv_24,h⟩:=bsome h
    refine Au 0 (sT [(46,.agg (pbm r0_K (.map 3))),(47,jI plank),(48,.d (q1 parts))] [(3,.mp (List.map m104_3 m2))] 4 0) ?_
    refine RW.hide 3 WIm_pl (WIm_of (must_ok hv_24)) rfl rfl (by kernel_rfl) (σ':=fun g_=>⟨[(46,.agg (pbm r0_K (.wmp g_))),(47,jI plank),(48,.d (q1 parts))],[],4,(FrTop g_ WI),[],0⟩) (fun g_=>by kernel_rfl) (fun g_=>?_)
    obtain ⟨⟨r0_1_2,r1⟩,hx_25,h⟩:=bsome h
    refine RW.one fokW (r_callSW (zr:=[]) [] trivial rfl (k53 g_ (FrTop g_ WI) (FrTop.ok g_ WI) r0_K plank parts _ hx_25) trivial rfl rfl ⟨.refl _,.refl _,.refl _,trivial⟩ rfl rfl rfl (r_end ?_))
    refine Au 5 ⟨[(13,.d (q1 r0_1_2)),(14,.d (.bool r1))],[],4,(FrTop g_ WI),[],0⟩ ?_
    refine RW.nil (hQ_22 _ ?_)
    refine AW.can (σ1:=(sT [(13,.d (q1 r0_1_2)),(14,.d (.bool r1))] [] 4 0)) (Can.unhide (by kernel_rfl)) ?_
    refine AW.seqK (fun K_26 hK_26=>?_)
    refine Sa (sT [(13,.d (q1 r0_1_2)),(53,.d (.bool (!r1)))] [] 4 0) ?_
    refine AW.cond rfl (fun hb_27=>?_) (fun hb_27=>?_)
    ·have h:=ifT hb_27 h
     refine Sa (sT [(6,.d (.nilSl)),(7,jI 4)] [] 4 0) ?_
     obtain rfl:=Option.some.inj h
     exact AW.ret (hR_0 _ (retX (.cons (.tmp rfl) (.cons (.tmp rfl) .nil)) (Frz.tup_of ⟨.nil 1,.refl _,trivial⟩) rfl (by kernel_rfl) (by kernel_rfl)))
    ·have h:=ifF hb_27 h
     refine AW.skip (hK_26 _ ?_)
     refine AW.srwK (fun Q_28 hQ_28=>?_)
     refine Au 2 (sT [(13,.d (q1 r0_1_2)),(54,.d (q1 r0_1_2)),(55,.d (q1 r0_1_2))] [] 4 0) ?_
     refine rL rfl ?_
     refine Au 1 (sT [(54,.d (q1 r0_1_2)),(56,jI (r0_1_2.length:Int)),(57,.d (q1 r0_1_2))] [] 4 0) ?_
     refine rL rfl ?_
     obtain ⟨l,hv_29,h⟩:=bsome h
     refine RW.one fokW (r_slN trivial rfl rfl rfl DSl.d (slcL_ok hv_29).2.1 (by rw [List.length_map];exact (slcL_ok hv_29).2.2.1) rfl (slz hv_29 e3) (r_end ?_))
     refine Au 2 (sT [(6,.fsl 1 (List.map e3 l)),(7,jI 0)] [] 4 0) ?_
     refine RW.nil (hQ_28 _ ?_)
     obtain rfl:=Option.some.inj h
     exact AW.ret (hR_0 _ (retX (.cons (.tmp rfl) (.cons (.tmp rfl) .nil)) (Frz.tup_of ⟨.fsl _ _,.refl _,trivial⟩) rfl (by kernel_rfl) (by kernel_rfl)))
end Go.Proofs.Tp
