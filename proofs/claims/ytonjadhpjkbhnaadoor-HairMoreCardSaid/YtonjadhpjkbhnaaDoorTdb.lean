/- Told functions, and that the program does so, part 2. Conditions: none. -/
import Derived.Test.YtonjadhpjkbhnaaDoorTda
set_option linter.unusedVariables false
set_option linter.unusedSimpArgs false
namespace Go.Proofs.Th
open Go Go.Abs Go.Proofs
def g55d (x:HairBook) (o0:Int):Option (Ctl (HairBook×Int) (HairBook×(List (Hair_dye×Span))×Int)):=(g17 x).bind fun r0_9=>bif (decide (r0_9≠0)) then (some (.next ((HairBook.mk [] [] 0 0 0),r0_9))) else ((g80 x).bind fun (r0_B,mf)=>(g87 r0_B mf o0).bind fun r0_1=>bif (!r0_1) then (some (.brk (r0_B,mf,61))) else (some (.brk (r0_B,mf,0))))
def y33 (x:HairBook) (o0:Int):List (Nat×Blk):=[(2,.var 78 [.d (.nilSl),.d (.nilSl),jI 0,jI 0,jI 0,.d (.nilMap)]),(1,.var 25 (cv25 x)),(0,.var 3 [jI o0])]
def y34 (o0:Int):List (Nat×Blk):=[(2,.var 78 [.d (.nilSl),.d (.nilSl),jI 0,jI 0,jI 0,.d (.nilMap)]),(0,.var 3 [jI o0])]
theorem k55d (x:HairBook) (o0:Int) (r:Ctl (HairBook×Int) (HairBook×(List (Hair_dye×Span))×Int)) (h:g55d x o0=some r):SCall Tryd.prog Gs 55 [.agg (cv25 x),.clo 87 [] [.ptr 0 0]] [(0,.var 3 [jI o0])] 1 Fr.emp (match r with | .next (r0_B4,r1_1)=>.tup [.agg [.d (.sl 4 (List.map e58 r0_B4.Hanks)),.d (.sl 3 (List.map e69 r0_B4.Horses)),jI r0_B4.Dark,jI r0_B4.Near,jI r0_B4.Match,.d (.nilMap)],jI r1_1] | .brk (r0_B5,mf2,r1_2)=>.tup [.agg (hbm r0_B5 mf2),jI r1_2]) (match r with | .next (r0_B4,r1_1)=>[(0,.var 3 [jI o0])] | .brk (r0_B5,mf2,r1_2)=>[(0,.var 3 [jI o0])]) 1 Fr.emp:=by
 unfold g55d at h
 refine SCall.mkK Tryd.func55 c55 rfl (by rcases r with _ | _<;>rfl) (by rcases r with _ | _<;>kernel_rfl) (fun Q_0 hR_0 hN_0=>?_)
 refine Sa (sT [(1,.clo 87 [] [.ptr 0 0]),pR 2 1,pR 4 2] (y33 x o0) 3 1) ?_
 refine AW.seqK fun K_1 hK_1=>AW.srwK fun Q_2 hQ_2=>?_
 refine Au 1 (sT [(1,.clo 87 [] [.ptr 0 0]),pR 2 1,pR 4 2,(8,.agg (cv25 x))] (y33 x o0) 3 1) ?_
 obtain ⟨r0_9,hx_3,h⟩:=bsome h
 refine rC (k17 x _ hx_3) ?_
 refine Au 1 (sT [(1,.clo 87 [] [.ptr 0 0]),pR 2 1,pR 4 2,(6,jI r0_9)] (y33 x o0) 3 1) ?_
 refine RW.nil (hQ_2 _ ?_)
 refine Sa (sT [(1,.clo 87 [] [.ptr 0 0]),pR 2 1,pR 4 2,(6,jI r0_9),(11,.d (.bool (decide (r0_9≠0))))] (y33 x o0) 3 1) ?_
 refine AW.cond rfl (fun hb_4=>?_) (fun hb_4=>?_)
 ·have h:=ifT hb_4 h
  refine Sa (sT [pR 4 2,(5,jI r0_9)] (y34 o0) 3 1) ?_
  obtain rfl:=Option.some.inj h
  exact AW.ret (hR_0 _ (retX (.cons (.agg rfl rfl (Nat.le_of_ble_eq_true rfl)) (.cons (.tmp rfl) .nil)) (Frz.tup_of ⟨Frz.agg_of ⟨(.nil 4),(.nil 3),.refl _,.refl _,.refl _,.refl _,trivial⟩,.refl _,trivial⟩) rfl (by kernel_rfl) (by kernel_rfl)))
 ·have h:=ifF hb_4 h
  refine AW.skip (hK_1 _ ?_)
  refine AW.srwK (fun Q_5 hQ_5=>?_)
  refine Au 1 (sT [(1,.clo 87 [] [.ptr 0 0]),pR 4 2,(14,.agg (cv25 x))] (y34 o0) 3 1) ?_
  obtain ⟨⟨r0_B,mf⟩,hx_6,h⟩:=bsome h
  refine rC (k80 x _ hx_6) ?_
  refine Au 2 (sT [(1,.clo 87 [] [.ptr 0 0]),pR 4 2,pR 7 3] [(3,.var 78 (hbm r0_B mf)),(2,.var 78 [.d (.nilSl),.d (.nilSl),jI 0,jI 0,jI 0,.d (.nilMap)]),(0,.var 3 [jI o0])] 4 1) ?_
  refine RW.nil (hQ_5 _ ?_)
  refine AW.seqK fun K_7 hK_7=>AW.srwK fun Q_8 hQ_8=>?_
  refine Au 2 (sT [pR 4 2,pR 7 3,(16,.clo 87 [] [.ptr 0 0]),(17,.agg (hbm r0_B mf))] [(3,.var 78 (hbm r0_B mf)),(2,.var 78 [.d (.nilSl),.d (.nilSl),jI 0,jI 0,jI 0,.d (.nilMap)]),(0,.var 3 [jI o0])] 4 1) ?_
  obtain ⟨r0_1,hx_9,h⟩:=bsome h
  refine RW.one fokW (r_callvE (zr:=[]) [0] trivial rfl (.clo _ _ _) (by kernel_rfl) rfl (k87 r0_B mf o0 _ hx_9) ⟨rfl,trivial⟩ rfl rfl ⟨.refl _,.refl _,trivial⟩ rfl rfl rfl (r_end ?_))
  refine Au 1 (sT [pR 4 2,pR 7 3,(19,.d (.bool (!r0_1)))] [(0,.var 3 [jI o0]),(3,.var 78 (hbm r0_B mf)),(2,.var 78 [.d (.nilSl),.d (.nilSl),jI 0,jI 0,jI 0,.d (.nilMap)])] 4 1) ?_
  refine RW.nil (hQ_8 _ ?_)
  refine AW.cond rfl (fun hb_10=>?_) (fun hb_10=>?_)
  ·have h:=ifT hb_10 h
   refine Sa (sT [pR 4 2,(5,jI 61)] [(2,.var 78 (hbm r0_B mf)),(0,.var 3 [jI o0])] 4 1) ?_
   obtain rfl:=Option.some.inj h
   exact rT hR_0 (.cons (.agg rfl rfl (Nat.le_of_ble_eq_true rfl)) (.cons (.tmp rfl) .nil))
  ·have h:=ifF hb_10 h
   refine AW.skip (hK_7 _ ?_)
   refine Sa (sT [pR 4 2,(5,jI 0)] [(2,.var 78 (hbm r0_B mf)),(0,.var 3 [jI o0])] 4 1) ?_
   obtain rfl:=Option.some.inj h
   exact rT hR_0 (.cons (.agg rfl rfl (Nat.le_of_ble_eq_true rfl)) (.cons (.tmp rfl) .nil))
def g31_r22 (l1:List HairHank):((List Int)×(Nat→Int))→(Int)→Option (Ctl (Int) (Unit)):=fun (a,a1) v=>(ixN 5 (wr ((l1.length:Int) - 1))).bind fun j=>some (.next (min v (a1 j)))
def g31 (x:HairBook) (shade:Int):Option (Int×Int):=(g55d x shade).bind fun r_26=>match r_26 with | .next (r0_B4,r1_1)=>(must (decide (r1_1≠0))).bind fun _=>some (0,r1_1) | .brk (r0_B5,mf2,r1_2)=>bif (decide (r1_2≠0)) then (some (0,r1_2)) else ((g84 r0_B5 mf2).bind fun r0_1=>bif r0_1 then (some (0,0)) else ((slcL x.Hanks 0 (x.Hanks.length:Int)).bind fun l=>(appL 32 l [(HairHank.mk (Span.mk 60 60) (Span.mk shade shade))]).bind fun l1=>(g80 (HairBook.mk l1 x.Horses x.Dark x.Near x.Match)).bind fun (r0_B,mf)=>(g76).bind fun _=>(g88 r0_B mf r0_B mf).bind fun (o0_B,mf1)=>(g111 (fun a a1 s=>rndC (g31_r22 l1) (a,a1) s) o0_B mf1 r0_B mf (.next 61)).bind fun out_22=>match out_22 with | .next v=>bif (decide (60<v)) then (some (0,4)) else (some (v,0)) | .brk _=>none))
def y35 (shade:Int) (x:HairBook):List (Nat×Blk):=[(4,.var 35 [jI shade,jI shade]),(3,.var 35 [jI 60,jI 60]),(0,.var 25 (cv25 x))]
def y36 (l1:List HairHank) (x:HairBook):List (Nat×Blk):=[(0,.var 25 [.own 6 (List.map e58 l1).length,.d (.sl 3 (List.map e69 x.Horses)),jI x.Dark,jI x.Near,jI x.Match]),(6,.row 58 4 (List.map e58 l1))]
def y37 (a1:Nat→Int) (v:Int) (l1:List HairHank) (x:HairBook):List (Nat×Blk):=[(13,.var 92 (c5 a1)),(12,.dm),(8,.var 3 [jI v]),(6,.dead),(0,.var 25 [.own 6 (List.map e58 l1).length,.d (.sl 3 (List.map e69 x.Horses)),jI x.Dark,jI x.Near,jI x.Match])]
theorem k31 (x:HairBook) (shade:Int) (r:Int×Int) (h:g31 x shade=some r):SCall Tryd.prog Gs 31 [.agg (cv25 x),jI shade] [] 0 Fr.emp (match r with | (r0_5,r1_6)=>.tup [jI r0_5,jI r1_6]) [] 0 Fr.emp:=by
 unfold g31 at h
 refine SCall.mkK Tryd.func31 c31 rfl rfl (by kernel_rfl) (fun Q_0 hR_0 hN_0=>?_)
 refine Sa (sT [pR 2 0,pR 3 1] [(1,.var 3 [jI shade]),(0,.var 25 (cv25 x))] 2 0) ?_
 refine AW.srwK (fun Q_1 hQ_1=>?_)
 refine Au 2 (sT [pR 2 0,pR 3 1,(15,.agg (cv25 x)),(16,.clo 87 [] [.ptr 1 0])] [(1,.var 3 [jI shade]),(0,.var 25 (cv25 x))] 2 0) ?_
 obtain ⟨r_26,hx_2,h⟩:=bsome h
 rcases r_26 with (⟨r0_B4,r1_1⟩ | (⟨r0_B5,mf2,r1_2⟩))
 ·refine RW.one fokW (r_callS (zr:=[]) [1] trivial rfl (k55d x shade _ hx_2) ⟨rfl,trivial⟩ rfl rfl ⟨.refl _,.refl _,trivial⟩ rfl rfl rfl (r_end ?_))
  obtain ⟨_,hv_3,h⟩:=bsome h
  have hf_4:=must_ok hv_3
  refine Au 6 (sT [pR 2 0,pR 3 1,pR 6 2,(7,jI r1_1)] [(2,.var 78 (catV (cv25 r0_B4) [.d (.nilMap)])),(1,.var 3 [jI shade]),(0,.var 25 (cv25 x))] 3 0) ?_
  refine RW.nil (hQ_1 _ ?_)
  refine AW.seqK (fun K_5 hK_5=>?_)
  refine Sa (sT [pR 2 0,pR 3 1,pR 6 2,(7,jI r1_1),(21,.d (.bool (decide (r1_1≠0))))] [(2,.var 78 (catV (cv25 r0_B4) [.d (.nilMap)])),(1,.var 3 [jI shade]),(0,.var 25 (cv25 x))] 3 0) ?_
  refine AW.cond rfl (fun hb_6=>?_) (fun hb_6=>False.elim (by rw [hf_4] at hb_6;cases hb_6))
  refine Sa (sT [(4,jI 0),(5,jI r1_1)] [] 3 0) ?_
  obtain rfl:=Option.some.inj h
  exact rT hR_0 (.cons (.tmp rfl) (.cons (.tmp rfl) .nil))
 ·refine RW.one fokW (r_callS (zr:=[]) [1] trivial rfl (k55d x shade _ hx_2) ⟨rfl,trivial⟩ rfl rfl ⟨.refl _,.refl _,trivial⟩ rfl rfl rfl (r_end ?_))
  refine Au 6 (sT [pR 2 0,pR 3 1,pR 6 2,(7,jI r1_2)] [(2,.var 78 (hbm r0_B5 mf2)),(1,.var 3 [jI shade]),(0,.var 25 (cv25 x))] 3 0) ?_
  refine RW.nil (hQ_1 _ ?_)
  refine AW.seqK (fun K_7 hK_7=>?_)
  refine Sa (sT [pR 2 0,pR 3 1,pR 6 2,(7,jI r1_2),(21,.d (.bool (decide (r1_2≠0))))] [(2,.var 78 (hbm r0_B5 mf2)),(1,.var 3 [jI shade]),(0,.var 25 (cv25 x))] 3 0) ?_
  refine AW.cond rfl (fun hb_8=>?_) (fun hb_8=>?_)
  ·have h:=ifT hb_8 h
   refine Sa (sT [(4,jI 0),(5,jI r1_2)] [] 3 0) ?_
   obtain rfl:=Option.some.inj h
   exact rT hR_0 (.cons (.tmp rfl) (.cons (.tmp rfl) .nil))
  ·have h:=ifF hb_8 h
   refine AW.skip (hK_7 _ ?_)
   refine AW.seqK fun K_9 hK_9=>AW.srwK fun Q_10 hQ_10=>?_
   refine Au 1 (sT [pR 2 0,pR 3 1,(23,.agg (hbm r0_B5 mf2))] [(1,.var 3 [jI shade]),(0,.var 25 (cv25 x))] 3 0) ?_
   obtain ⟨r0_1,hx_11,h⟩:=bsome h
   refine rC (k84 r0_B5 mf2 _ hx_11) ?_
   refine RW.nil (hQ_10 _ ?_)
   refine AW.cond rfl (fun hb_12=>?_) (fun hb_12=>?_)
   ·have h:=ifT hb_12 h
    refine Sa (sT [(4,jI 0),(5,jI 0)] [] 3 0) ?_
    obtain rfl:=Option.some.inj h
    exact rT hR_0 (.cons (.tmp rfl) (.cons (.tmp rfl) .nil))
   ·have h:=ifF hb_12 h
    refine AW.skip (hK_9 _ ?_)
    refine Sa (sT [pR 2 0,pR 8 3,pR 9 4] (y35 shade x) 5 0) ?_
    refine AW.sdrwK fokW (fun Q_13 hQ_13=>?_)
    refine aX 4 (sT [pR 2 0,pR 8 3,pR 9 4,(30,.d (.sl 4 (List.map e58 x.Hanks))),(32,.d (.sl 4 (List.map e58 x.Hanks)))] (y35 shade x) 5 0) ?_
    refine r_lenX trivial rfl lenm ?_
    refine aX 2 (sT [pR 2 0,pR 8 3,pR 9 4,(30,.d (.sl 4 (List.map e58 x.Hanks))),(33,jI (x.Hanks.length:Int)),(35,.d (.sl 4 (List.map e58 x.Hanks)))] (y35 shade x) 5 0) ?_
    refine r_lenX trivial rfl lenm ?_
    obtain ⟨l,hv_14,h⟩:=bsome h
    refine r_slN trivial rfl rfl rfl DSl.d (slcL_ok hv_14).2.1 (by rw [List.length_map];exact (slcL_ok hv_14).2.2.1) rfl (slz hv_14 e58) ?_
    refine aX 4 (sT [pR 2 0,(37,.fsl 4 (List.map e58 l)),(41,.own 5 (List.map e58 [(HairHank.mk (Span.mk 60 60) (Span.mk shade shade))]).length)] [(5,.row 58 4 (List.map e58 [(HairHank.mk (Span.mk 60 60) (Span.mk shade shade))])),(4,.var 35 [jI shade,jI shade]),(3,.var 35 [jI 60,jI 60]),(0,.var 25 (cv25 x))] 6 0) ?_
    obtain ⟨l1,hv_15,h⟩:=bsome h
    refine r_apF trivial rfl rfl rfl rfl (by simp) (zs:=List.map e58 l1) (apz hv_15 e58) (apr hv_15 e58) ?_
    refine aX 2 (sT [pR 2 0] [(0,.var 25 [.own 6 (List.map e58 l1).length,.d (.sl 3 (List.map e69 x.Horses)),jI x.Dark,jI x.Near,jI x.Match]),(6,.row 58 4 (List.map e58 l1)),(5,.row 58 4 (List.map e58 [(HairHank.mk (Span.mk 60 60) (Span.mk shade shade))])),(4,.var 35 [jI shade,jI shade]),(3,.var 35 [jI 60,jI 60])] 7 0) ?_
    refine Fi (sT [pR 2 0] (y36 l1 x) 7 0) ?_
    refine hQ_13 _ ?_
    refine AW.srwK (fun Q_16 hQ_16=>?_)
    refine Au 1 (sT [pR 2 0,(44,.agg [.own 6 (List.map e58 l1).length,.d (.sl 3 (List.map e69 x.Horses)),jI x.Dark,jI x.Near,jI x.Match])] (y36 l1 x) 7 0) ?_
    obtain ⟨⟨r0_B,mf⟩,hx_17,h⟩:=bsome h
    refine RW.one fokW (r_callZ (zr:=[(6,.row 58 4 (List.map e58 l1))]) trivial rfl (k80 (HairBook.mk l1 x.Horses x.Dark x.Near x.Match) _ hx_17) ⟨rfl,trivial⟩ ⟨(Frz.agg_of ⟨(.own rfl rfl),.refl _,.refl _,.refl _,.refl _,trivial⟩),trivial⟩ rfl rfl rfl rfl (r_end ?_))
    refine Au 4 (sT [pR 2 0,pR 10 7,pR 11 8] [(8,.var 3 [jI 61]),(7,.var 78 (hbm r0_B mf)),(6,.dead),(0,.var 25 [.own 6 (List.map e58 l1).length,.d (.sl 3 (List.map e69 x.Horses)),jI x.Dark,jI x.Near,jI x.Match])] 9 0) ?_
    refine RW.nil (hQ_16 _ ?_)
    refine AW.seqK (fun K_18 hK_18=>?_)
    refine AW.sdrwK fokW (fun Q_19 hQ_19=>?_)
    refine aX 1 (sT [pR 2 0,pR 10 7,pR 11 8,(46,.agg (hbm r0_B mf))] [(8,.var 3 [jI 61]),(7,.var 78 (hbm r0_B mf)),(6,.dead),(0,.var 25 [.own 6 (List.map e58 l1).length,.d (.sl 3 (List.map e69 x.Horses)),jI x.Dark,jI x.Near,jI x.Match])] 9 0) ?_
    obtain ⟨⟨⟩,hx_20,h⟩:=bsome h
    refine r_call trivial rfl (k76 _ hx_20) rfl rfl ?_
    refine aX 2 (sT [pR 2 0,pR 11 8,(46,.agg (hbm r0_B mf)),(47,.agg [.d (.fn 107)]),(49,.clo 89 [.agg (hbm r0_B mf)] [])] [(8,.var 3 [jI 61]),(7,.var 78 (hbm r0_B mf)),(6,.dead),(0,.var 25 [.own 6 (List.map e58 l1).length,.d (.sl 3 (List.map e69 x.Horses)),jI x.Dark,jI x.Near,jI x.Match])] 9 0) ?_
    obtain ⟨⟨o0_B,mf1⟩,hx_21,h⟩:=bsome h
    refine r_callS (zr:=[]) [] trivial rfl (k88 r0_B mf r0_B mf _ hx_21) trivial rfl rfl ⟨.refl _,.refl _,.refl _,trivial⟩ rfl rfl rfl ?_
    refine Fi (sT [pR 2 0,pR 11 8,(50,.clo 111 [] [.ptr 9 0,.ptr 10 0,.ptr 11 0])] [(9,.var 78 (hbm o0_B mf1)),(10,.var 99 [.d (.fn 107)]),(11,.var 65 [.clo 89 [.agg (hbm r0_B mf)] []]),(8,.var 3 [jI 61]),(6,.dead),(0,.var 25 [.own 6 (List.map e58 l1).length,.d (.sl 3 (List.map e69 x.Horses)),jI x.Dark,jI x.Near,jI x.Match])] 12 0) ?_
    refine hQ_19 _ ?_
    refine AW.block ?_
    obtain ⟨out_22,hx_22,h⟩:=bsome h
    refine AW.rfX (fun (v:Int)=>[(12,.dm),(8,.var 3 [jI v]),(6,.dead),(0,.var 25 [.own 6 (List.map e58 l1).length,.d (.sl 3 (List.map e69 x.Horses)),jI x.Dark,jI x.Near,jI x.Match])]) (fun (_:Unit)=>[]) (fun _=>some .ret) (g31_r22 l1) (fun (⟨a,a1⟩:(List Int)×(Nat→Int))=>[.d (q1 a),.agg (c5 a1)]) (s0:=61) (out:=out_22) [pR 2 0,pR 11 8] [(8,.var 3 [jI 61]),(6,.dead),(0,.var 25 [.own 6 (List.map e58 l1).length,.d (.sl 3 (List.map e69 x.Horses)),jI x.Dark,jI x.Near,jI x.Match])] [9,10,11] rfl (.clo _ _ _) (by kernel_rfl) (by kernel_rfl) (fun fr_ hY_22=>k111 fr_ _ (fun a a1 s s2 b h=>hY_22 (a,a1) s s2 b h) o0_B mf1 r0_B mf (.next 61) _ hx_22) (by kernel_rfl) ⟨rfl,rfl,rfl,trivial⟩ rfl ⟨rfl,rfl⟩ rfl rfl (fun _=>rfl) (fun _=>rfl) (fun a_22 s_22 c_22 h l_22=>?_) (fun _=>rfl) ?_
    ·obtain ⟨a,a1⟩:=a_22
     have ⟨v,e_22⟩:∃ x,x=s_22:=⟨_,rfl⟩
     subst e_22
     unfold g31_r22 at h
     refine AW.ra (fokR l_22) [] (sT [pR 2 0,pR 11 8,pR 13 13] (y37 a1 v l1 x) 14 13) (by kernel_rfl) ?_
     refine AW.block ?_
     refine AW.drw (fokR l_22) ?_
     refine aX 3 (sT [pR 11 8,pR 13 13,(53,jI v),(55,.own 6 (List.map e58 l1).length)] (y37 a1 v l1 x) 14 13) ?_
     refine r_lenY trivial rfl lenm ?_
     refine aX 1 (sT [pR 11 8,pR 13 13,(53,jI v),(57,jI (wr ((l1.length:Int) - 1)))] (y37 a1 v l1 x) 14 13) ?_
     obtain ⟨j,hv_24,h⟩:=bsome h
     refine r_iaV trivial rfl rfl rfl (ixN_ok hv_24).1 (ixN_ok hv_24).2.1 ?_
     refine r_loadV trivial rfl rfl (u:=jI (a1 j)) (agt (f:=fun k=>jI (a1 k)) hv_24) ?_
     refine aX 2 (sT [] [(8,.var 3 [jI (min v (a1 j))]),(13,.var 92 (c5 a1)),(12,.dm),(6,.dead),(0,.var 25 [.own 6 (List.map e58 l1).length,.d (.sl 3 (List.map e69 x.Horses)),jI x.Dark,jI x.Near,jI x.Match])] 14 13) ?_
     refine Fi (sT [] [(8,.var 3 [jI (min v (a1 j))]),(12,.dm),(6,.dead),(0,.var 25 [.own 6 (List.map e58 l1).length,.d (.sl 3 (List.map e69 x.Horses)),jI x.Dark,jI x.Near,jI x.Match])] 14 13) ?_
     obtain rfl:=Option.some.inj h
     exact ⟨(sT [] [(12,.dm),(8,.var 3 [jI (min v (a1 j))]),(6,.dead),(0,.var 25 [.own 6 (List.map e58 l1).length,.d (.sl 3 (List.map e69 x.Horses)),jI x.Dark,jI x.Near,jI x.Match])] 13 13),Can.kp (by kernel_rfl),rdX trivial rfl (by kernel_rfl) (by kernel_rfl)⟩
    ·rcases out_22 with v | _
     ·refine hK_18 _ ?_
      refine AW.seqK (fun K_25 hK_25=>?_)
      refine Sa ⟨[pR 11 8,(62,.d (.bool (decide (60<v))))],[(12,.dm),(8,.var 3 [jI v])],13,Fr.emp,[12],0⟩ ?_
      refine AW.cond rfl (fun hb_26=>?_) (fun hb_26=>?_)
      ·have h:=ifT hb_26 h
       refine Sa ⟨[(4,jI 0),(5,jI 4)],[(12,.dm)],13,Fr.emp,[12],0⟩ ?_
       obtain rfl:=Option.some.inj h
       exact rT hR_0 (.cons (.tmp rfl) (.cons (.tmp rfl) .nil))
      ·have h:=ifF hb_26 h
       refine AW.skip (hK_25 _ ?_)
       refine Sa ⟨[(4,jI v),(5,jI 0)],[(12,.dm)],13,Fr.emp,[12],0⟩ ?_
       obtain rfl:=Option.some.inj h
       exact rT hR_0 (.cons (.tmp rfl) (.cons (.tmp rfl) .nil))
     ·cases h
def g88a (b_B:HairBook) (mf:List (Hair_dye×Span)) (m0_B:HairBook) (mf_1:List (Hair_dye×Span)):Option (HairBook×(List (Hair_dye×Span))):=some (b_B,mf)
theorem k88a (b_B:HairBook) (mf:List (Hair_dye×Span)) (m0_B:HairBook) (mf_1:List (Hair_dye×Span)) (r:HairBook×(List (Hair_dye×Span))) (h:g88a b_B mf m0_B mf_1=some r):SCall Tryd.prog Gs 88 [.agg (hbm b_B mf),.agg [.d (.fn 108)],.clo 89 [.agg (hbm m0_B mf_1)] []] [] 0 Fr.emp (match r with | (o0_B,mf1)=>.clo 111 [] [.ptr 0 0,.ptr 1 0,.ptr 2 0]) (match r with | (o0_B,mf1)=>[(0,.var 78 (hbm o0_B mf1)),(1,.var 99 [.d (.fn 108)]),(2,.var 65 [.clo 89 [.agg (hbm m0_B mf_1)] []])]) 3 Fr.emp:=by
 unfold g88a at h
 refine SCall.mkK Tryd.func88 c88 rfl rfl (by kernel_rfl) (fun Q_0 hR_0 hN_0=>?_)
 refine Sa (sT [pR 3 0,pR 4 1,pR 5 2] [(2,.var 65 [.clo 89 [.agg (hbm m0_B mf_1)] []]),(1,.var 99 [.d (.fn 108)]),(0,.var 78 (hbm b_B mf))] 3 0) ?_
 refine Sa (sT [(6,.clo 111 [] [.ptr 0 0,.ptr 1 0,.ptr 2 0])] [(2,.var 65 [.clo 89 [.agg (hbm m0_B mf_1)] []]),(1,.var 99 [.d (.fn 108)]),(0,.var 78 (hbm b_B mf))] 3 0) ?_
 obtain rfl:=Option.some.inj h
 exact rT hR_0 (.cons (.tmp rfl) .nil)
def g112a_16 {S_:Type} (rec_:(List Int)→(Nat→Int)→HairBook→(List (Hair_dye×Span))→HairBook→(List (Hair_dye×Span))→S_→Option (Bool×S_)) (plan:(List Int)) (cut:(Nat→Int)) (o0_B:HairBook) (mf:List (Hair_dye×Span)) (m0_B:HairBook) (mf_1:List (Hair_dye×Span)) (need:Int):Int→HairHank→S_→Option (Ctl (S_) (Bool×S_)):=fun v p2 s_2=>bindC ((ixN 5 v).bind fun j1=>(g108 p2.Weight).bind fun r0_2=>bif (decide (r0_2<(wr ((cut j1)+need)))) then (some (.brk (.next s_2))) else (bif (decide (((plan.length:Int).tmod 2)=1)) then ((ixL plan (wr ((plan.length:Int) - 1))).bind fun p3=>(g89 m0_B mf_1 (wr ((plan.length:Int).tdiv 2)) p3 v).bind fun r0_3=>bif (!r0_3) then (some (.brk (.next s_2))) else (some (.next ()))) else (some (.next ()))):Option (Ctl (Unit) (Ctl (S_) (Bool×S_)))) fun _=>(ixN 5 v).bind fun j2=>(ixN 5 v).bind fun j3=>(slcL plan 0 (plan.length:Int)).bind fun l=>(appL 8 l [v]).bind fun l1=>(rec_ l1 (aset cut j3 (wr ((cut j2)+need))) o0_B mf m0_B mf_1 s_2).bind fun (r0_7_1,s_5_1)=>bif (!r0_7_1) then (some (.brk (false,s_5_1))) else (some (.next s_5_1))
def g112a {S_:Type} (c_:(List Int)→(Nat→Int)→S_→Option (S_×Bool)):Nat→(List Int)→(Nat→Int)→HairBook→(List (Hair_dye×Span))→HairBook→(List (Hair_dye×Span))→S_→Option (Bool×S_)
 | 0,_,_,_,_,_,_,_=>none
 | n_+1,plan,cut,o0_B,mf,m0_B,mf_1,s_=>bif (decide ((plan.length:Int)=(wr (2*(o0_B.Horses.length:Int))))) then ((c_ plan cut s_).bind fun (s_1,go)=>some (go,s_1)) else (((ixN 2 ((plan.length:Int).tmod 2)).bind fun j=>match j with | 0=>(ixL o0_B.Horses (wr ((plan.length:Int).tdiv 2))).bind fun p=>(g133 p).bind fun r0=>some r0 | 1=>(ixL o0_B.Horses (wr ((plan.length:Int).tdiv 2))).bind fun p1=>(g135 p1).bind fun r0_1=>some r0_1 | _=>none).bind fun need=>bindC (eachC (g112a_16 (g112a c_ n_) plan cut o0_B mf m0_B mf_1 need) o0_B.Hanks 0 s_) fun s_2=>some (true,s_2))
def y38 (cut:(Nat→Int)) (o0_B:HairBook) (mf:List (Hair_dye×Span)) (m0_B:HairBook) (mf_1:List (Hair_dye×Span)):List (Nat×Blk):=[(5,.var 92 (c5 cut)),(0,.var 78 (hbm o0_B mf)),(1,.var 127 [.yld]),(2,.var 99 [.d (.fn 108)]),(3,.var 65 [.clo 89 [.agg (hbm m0_B mf_1)] []]),(4,.var 127 [.clo 112 [] [.ptr 0 0,.ptr 1 0,.ptr 2 0,.ptr 3 0,.ptr 4 0]])]
def y39 (o0_B:HairBook) (mf:List (Hair_dye×Span)) (m0_B:HairBook) (mf_1:List (Hair_dye×Span)):List (Nat×Blk):=[(0,.var 78 (hbm o0_B mf)),(1,.var 127 [.yld]),(2,.var 99 [.d (.fn 108)]),(3,.var 65 [.clo 89 [.agg (hbm m0_B mf_1)] []]),(4,.var 127 [.clo 112 [] [.ptr 0 0,.ptr 1 0,.ptr 2 0,.ptr 3 0,.ptr 4 0]])]
def y40 (cut:(Nat→Int)) (o0_B:HairBook) (mf:List (Hair_dye×Span)) (m0_B:HairBook) (mf_1:List (Hair_dye×Span)):List (Nat×Blk):=[(7,.var 92 (c5 cut)),(5,.var 92 (c5 cut)),(0,.var 78 (hbm o0_B mf)),(1,.var 127 [.yld]),(2,.var 99 [.d (.fn 108)]),(3,.var 65 [.clo 89 [.agg (hbm m0_B mf_1)] []]),(4,.var 127 [.clo 112 [] [.ptr 0 0,.ptr 1 0,.ptr 2 0,.ptr 3 0,.ptr 4 0]])]
def y41 (o0_B:HairBook) (mf:List (Hair_dye×Span)) (m0_B:HairBook) (mf_1:List (Hair_dye×Span)) (cut:(Nat→Int)):List (Nat×Blk):=[(0,.var 78 (hbm o0_B mf)),(1,.var 127 [.yld]),(2,.var 99 [.d (.fn 108)]),(3,.var 65 [.clo 89 [.agg (hbm m0_B mf_1)] []]),(4,.var 127 [.clo 112 [] [.ptr 0 0,.ptr 1 0,.ptr 2 0,.ptr 3 0,.ptr 4 0]]),(5,.var 92 (c5 cut))]
theorem k112a {S_:Type} (fr_:S_→Fr) (c_:(List Int)→(Nat→Int)→S_→Option (S_×Bool)) (hc_:∀ (a0:(List Int)) (a1:(Nat→Int)) s s2 b,c_ a0 a1 s=some (s2,b)→YCall Tryd.prog Gs (fr_ s) [.d (q1 a0),.agg (c5 a1)] (.d (.bool b)) (fr_ s2)):∀ (n_:Nat) (plan:(List Int)) (cut:(Nat→Int)) (o0_B:HairBook) (mf:List (Hair_dye×Span)) (m0_B:HairBook) (mf_1:List (Hair_dye×Span)) (s_:S_) (r:Bool×S_) (h:g112a c_ n_ plan cut o0_B mf m0_B mf_1 s_=some r),SCall Tryd.prog Gs 112 [.d (q1 plan),.agg (c5 cut),.ptr 0 0,.ptr 1 0,.ptr 2 0,.ptr 3 0,.ptr 4 0] [(0,.var 78 (hbm o0_B mf)),(1,.var 127 [.yld]),(2,.var 99 [.d (.fn 108)]),(3,.var 65 [.clo 89 [.agg (hbm m0_B mf_1)] []]),(4,.var 127 [.clo 112 [] [.ptr 0 0,.ptr 1 0,.ptr 2 0,.ptr 3 0,.ptr 4 0]])] 5 (fr_ s_) (match r with | (r0_7,s_5)=>.d (.bool r0_7)) (match r with | (r0_7,s_5)=>[(0,.var 78 (hbm o0_B mf)),(1,.var 127 [.yld]),(2,.var 99 [.d (.fn 108)]),(3,.var 65 [.clo 89 [.agg (hbm m0_B mf_1)] []]),(4,.var 127 [.clo 112 [] [.ptr 0 0,.ptr 1 0,.ptr 2 0,.ptr 3 0,.ptr 4 0]])]) 5 (fr_ (match r with | (r0_7,s_5)=>s_5)):=by
 intro n_
 induction n_ with
 | zero=>intro plan cut o0_B mf m0_B mf_1 s_ r h;cases h
 | succ n_ ih=>
  intro plan cut o0_B mf m0_B mf_1 s_ r h
  rw [g112a] at h
  refine SCall.mkK Tryd.func112 c112 rfl rfl (by kernel_rfl) (fun Q_0 hR_0 hN_0=>?_)
  refine Sa ⟨[(0,.d (q1 plan)),pR 2 0,pR 3 1,pR 4 2,pR 5 3,pR 6 4,pR 8 5],(y38 cut o0_B mf m0_B mf_1),6,(fr_ s_),[],5⟩ ?_
  refine AW.scope ?_
  refine AW.srwK (fun Q_1 hQ_1=>?_)
  refine Au 1 ⟨[(0,.d (q1 plan)),pR 2 0,pR 3 1,pR 4 2,pR 5 3,pR 6 4,pR 8 5,(15,.d (q1 plan))],(y38 cut o0_B mf m0_B mf_1),6,(fr_ s_),[],5⟩ ?_
  refine rL rfl ?_
  refine Au 1 ⟨[(0,.d (q1 plan)),pR 2 0,pR 3 1,pR 4 2,pR 5 3,pR 6 4,pR 8 5,(10,jI (plan.length:Int))],(y38 cut o0_B mf m0_B mf_1),6,(fr_ s_),[],5⟩ ?_
  refine RW.nil (hQ_1 _ ?_)
  refine AW.seqK fun K_2 hK_2=>AW.srwK fun Q_3 hQ_3=>?_
  refine Au 4 ⟨[(0,.d (q1 plan)),pR 2 0,pR 3 1,pR 4 2,pR 5 3,pR 6 4,pR 8 5,(10,jI (plan.length:Int)),(17,jI (plan.length:Int)),(20,.d (.sl 3 (List.map e69 o0_B.Horses)))],(y38 cut o0_B mf m0_B mf_1),6,(fr_ s_),[],5⟩ ?_
  refine rL rfl ?_
  refine Au 2 ⟨[(0,.d (q1 plan)),pR 2 0,pR 3 1,pR 4 2,pR 5 3,pR 6 4,pR 8 5,(10,jI (plan.length:Int)),(23,.d (.bool (decide ((plan.length:Int)=(wr (2*(o0_B.Horses.length:Int)))))))],(y38 cut o0_B mf m0_B mf_1),6,(fr_ s_),[],5⟩ ?_
  refine RW.nil (hQ_3 _ ?_)
  refine AW.cond rfl (fun hb_4=>?_) (fun hb_4=>?_)
  ·have h:=ifT hb_4 h
   refine AW.srwK (fun Q_5 hQ_5=>?_)
   refine Au 3 ⟨[(24,.yld),(25,.d (q1 plan)),(26,.agg (c5 cut))],(y39 o0_B mf m0_B mf_1),6,(fr_ s_),[],5⟩ ?_
   obtain ⟨⟨s_1,go⟩,hx_6,h⟩:=bsome h
   refine RW.one fokW (r_yield (zr:=[]) trivial rfl rfl (hc_ plan cut _ _ _ hx_6) trivial ⟨.refl _,.refl _,trivial⟩ rfl rfl rfl rfl (r_end ?_))
   refine Au 1 ⟨[(9,.d (.bool go))],(y39 o0_B mf m0_B mf_1),6,(fr_ s_1),[],5⟩ ?_
   refine RW.nil (hQ_5 _ ?_)
   obtain rfl:=Option.some.inj h
   exact rT hR_0 (.cons (.tmp rfl) .nil)
  ·have h:=ifF hb_4 h
   refine AW.skip (hK_2 _ ?_)
   obtain ⟨need,hx_7,h⟩:=bsome h
   refine AW.jnSK (fun (need:Int)=>⟨[(0,.d (q1 plan)),pR 2 0,pR 4 2,pR 5 3,pR 6 4,pR 8 5,(10,jI (plan.length:Int)),(11,jI need)],(y38 cut o0_B mf m0_B mf_1),6,(fr_ s_),[],5⟩) (c:=need) (fun K_7 hK_7=>?_) ?_
   ·have h:=hx_7
    refine AW.drw fokW ?_
    refine aX 2 ⟨[(0,.d (q1 plan)),pR 2 0,pR 4 2,pR 5 3,pR 6 4,pR 8 5,(10,jI (plan.length:Int)),(29,jI ((plan.length:Int).tmod 2))],(y38 cut o0_B mf m0_B mf_1),6,(fr_ s_),[],5⟩ ?_
    obtain ⟨j,hv_9,h⟩:=bsome h
    rcases j with _ | _ | j
    ·refine r_iaF trivial rfl rfl (ixN_ok hv_9).1 (ixN_ok hv_9).2.1 ?_
     refine r_loadF trivial rfl (u:=.fn 133) (by rw [(ixN_ok hv_9).2.2];rfl) ?_
     refine aX 5 ⟨[(0,.d (q1 plan)),pR 2 0,pR 4 2,pR 5 3,pR 6 4,pR 8 5,(10,jI (plan.length:Int)),(31,.d (.fn 133)),(34,.d (.sl 3 (List.map e69 o0_B.Horses))),(36,jI (wr ((plan.length:Int).tdiv 2)))],(y38 cut o0_B mf m0_B mf_1),6,(fr_ s_),[],5⟩ ?_
     obtain ⟨p,hv_10,h⟩:=bsome h
     refine r_iaD trivial rfl rfl (ixL_ok hv_10).1 (row:=e69 p) (mapget (ixL_ok hv_10).2) ?_
     refine aX 1 ⟨[(0,.d (q1 plan)),pR 2 0,pR 4 2,pR 5 3,pR 6 4,pR 8 5,(10,jI (plan.length:Int)),(31,.d (.fn 133)),(38,.agg [jI p.Mane,jI p.Tail,jI p.Shade])],(y38 cut o0_B mf m0_B mf_1),6,(fr_ s_),[],5⟩ ?_
     obtain ⟨r0,hx_11,h⟩:=bsome h
     refine r_callvZ (zr:=[]) trivial rfl (.fn _) (by kernel_rfl) rfl (k133 p _ hx_11) trivial ⟨.refl _,trivial⟩ rfl rfl rfl rfl ?_
     refine aX 1 ⟨[(0,.d (q1 plan)),pR 2 0,pR 4 2,pR 5 3,pR 6 4,pR 8 5,(10,jI (plan.length:Int)),(11,jI r0)],(y38 cut o0_B mf m0_B mf_1),6,(fr_ s_),[],5⟩ ?_
     refine Fi ⟨[(0,.d (q1 plan)),pR 2 0,pR 4 2,pR 5 3,pR 6 4,pR 8 5,(10,jI (plan.length:Int)),(11,jI r0)],(y38 cut o0_B mf m0_B mf_1),6,(fr_ s_),[],5⟩ ?_
     obtain rfl:=Option.some.inj h
     exact hK_7 _ (Can.kp (by kernel_rfl))
    ·refine r_iaF trivial rfl rfl (ixN_ok hv_9).1 (ixN_ok hv_9).2.1 ?_
     refine r_loadF trivial rfl (u:=.fn 135) (by rw [(ixN_ok hv_9).2.2];rfl) ?_
     refine aX 5 ⟨[(0,.d (q1 plan)),pR 2 0,pR 4 2,pR 5 3,pR 6 4,pR 8 5,(10,jI (plan.length:Int)),(31,.d (.fn 135)),(34,.d (.sl 3 (List.map e69 o0_B.Horses))),(36,jI (wr ((plan.length:Int).tdiv 2)))],(y38 cut o0_B mf m0_B mf_1),6,(fr_ s_),[],5⟩ ?_
     obtain ⟨p1,hv_12,h⟩:=bsome h
     refine r_iaD trivial rfl rfl (ixL_ok hv_12).1 (row:=e69 p1) (mapget (ixL_ok hv_12).2) ?_
     refine aX 1 ⟨[(0,.d (q1 plan)),pR 2 0,pR 4 2,pR 5 3,pR 6 4,pR 8 5,(10,jI (plan.length:Int)),(31,.d (.fn 135)),(38,.agg [jI p1.Mane,jI p1.Tail,jI p1.Shade])],(y38 cut o0_B mf m0_B mf_1),6,(fr_ s_),[],5⟩ ?_
     obtain ⟨r0_1,hx_13,h⟩:=bsome h
     refine r_callvZ (zr:=[]) trivial rfl (.fn _) (by kernel_rfl) rfl (k135 p1 _ hx_13) trivial ⟨.refl _,trivial⟩ rfl rfl rfl rfl ?_
     refine aX 1 ⟨[(0,.d (q1 plan)),pR 2 0,pR 4 2,pR 5 3,pR 6 4,pR 8 5,(10,jI (plan.length:Int)),(11,jI r0_1)],(y38 cut o0_B mf m0_B mf_1),6,(fr_ s_),[],5⟩ ?_
     refine Fi ⟨[(0,.d (q1 plan)),pR 2 0,pR 4 2,pR 5 3,pR 6 4,pR 8 5,(10,jI (plan.length:Int)),(11,jI r0_1)],(y38 cut o0_B mf m0_B mf_1),6,(fr_ s_),[],5⟩ ?_
     obtain rfl:=Option.some.inj h
     exact hK_7 _ (Can.kp (by kernel_rfl))
    ·cases h
   ·refine AW.seq (AW.skip ?_)
    refine AW.seqK fun K_14 hK_14=>AW.srwK fun Q_15 hQ_15=>?_
    refine Au 3 ⟨[(0,.d (q1 plan)),pR 4 2,pR 5 3,pR 6 4,pR 8 5,(10,jI (plan.length:Int)),(11,jI need),(42,.d (.sl 4 (List.map e58 o0_B.Hanks)))],(y38 cut o0_B mf m0_B mf_1),6,(fr_ s_),[],5⟩ ?_
    refine rL rfl ?_
    refine Au 1 ⟨[(0,.d (q1 plan)),pR 4 2,pR 5 3,pR 6 4,pR 8 5,(10,jI (plan.length:Int)),(11,jI need),(42,.d (.sl 4 (List.map e58 o0_B.Hanks))),(43,jI (o0_B.Hanks.length:Int)),(44,jI 0)],(y38 cut o0_B mf m0_B mf_1),6,(fr_ s_),[],5⟩ ?_
    refine RW.nil (hQ_15 _ ?_)
    refine AW.block ?_
    refine AW.sln (t:=42) rfl (fun hN_16=>?_)
    rw [List.length_map] at hN_16
    obtain ⟨out_16,hx_16,hk_16⟩:=bsomeC h
    refine AW.evCK (fun (v:Int) (s_2:S_)=>⟨[(0,.d (q1 plan)),pR 4 2,pR 5 3,pR 6 4,pR 8 5,(10,jI (plan.length:Int)),(11,jI need),(42,.d (.sl 4 (List.map e58 o0_B.Hanks))),(43,jI (o0_B.Hanks.length:Int)),(44,jI v)],(y38 cut o0_B mf m0_B mf_1),6,(fr_ s_2),[],5⟩) (g112a_16 (g112a c_ n_) plan cut o0_B mf m0_B mf_1 need) hx_16 (Can.kp (by kernel_rfl)) (fun v p2 s_2 hi_16 hl_16 hp_16 c_16 h hb_16 K_16 hK_16=>?_) (fun v s_2 hi_16 hl_16 hout=>?_)
    ·unfold g112a_16 at h
     refine Sa ⟨[(0,.d (q1 plan)),pR 4 2,pR 5 3,pR 6 4,pR 8 5,(10,jI (plan.length:Int)),(11,jI need),(42,.d (.sl 4 (List.map e58 o0_B.Hanks))),(43,jI (o0_B.Hanks.length:Int)),(44,jI v),(45,.d (.bool (decide (v<(o0_B.Hanks.length:Int)))))],(y38 cut o0_B mf m0_B mf_1),6,(fr_ s_2),[],5⟩ ?_
     refine AW.seqK (fun K_17 hK_17=>?_)
     refine AW.cond rfl (fun hb_18=>?_) (fun hb_18=>False.elim (by have:=of_decide_eq_false hb_18;omega))
     refine AW.skip (hK_17 _ ?_)
     refine AW.seqK (fun K_19 hK_19=>?_)
     refine AW.block ?_
     refine AW.srwK (fun Q_20 hQ_20=>?_)
     refine Au 1 ⟨[(0,.d (q1 plan)),pR 4 2,pR 5 3,pR 6 4,pR 8 5,(10,jI (plan.length:Int)),(11,jI need),(42,.d (.sl 4 (List.map e58 o0_B.Hanks))),(43,jI (o0_B.Hanks.length:Int)),(44,jI v),(46,jI v)],(y38 cut o0_B mf m0_B mf_1),6,(fr_ s_2),[],5⟩ ?_
     refine RW.one fokW (r_iaD trivial rfl rfl hi_16 (row:=e58 p2) (mapget hp_16) (r_end ?_))
     refine Au 4 ⟨[(0,.d (q1 plan)),pR 4 2,pR 5 3,pR 6 4,pR 8 5,(10,jI (plan.length:Int)),(11,jI need),(12,jI v),pR 13 6,(42,.d (.sl 4 (List.map e58 o0_B.Hanks))),(43,jI (o0_B.Hanks.length:Int)),(44,jI v)],[(6,.var 58 (cv58 p2)),(5,.var 92 (c5 cut)),(0,.var 78 (hbm o0_B mf)),(1,.var 127 [.yld]),(2,.var 99 [.d (.fn 108)]),(3,.var 65 [.clo 89 [.agg (hbm m0_B mf_1)] []]),(4,.var 127 [.clo 112 [] [.ptr 0 0,.ptr 1 0,.ptr 2 0,.ptr 3 0,.ptr 4 0]])],7,(fr_ s_2),[],5⟩ ?_
     refine RW.nil (hQ_20 _ ?_)
     obtain ⟨c_21,hx_21,hk_21⟩:=bsomeC h
     refine AW.jnK (fun (_:Unit)=>⟨[(0,.d (q1 plan)),pR 4 2,pR 5 3,pR 6 4,pR 8 5,(10,jI (plan.length:Int)),(11,jI need),(12,jI v),(42,.d (.sl 4 (List.map e58 o0_B.Hanks))),(43,jI (o0_B.Hanks.length:Int)),(44,jI v)],(y38 cut o0_B mf m0_B mf_1),7,(fr_ s_2),[],5⟩) (c:=c_21) (fun K_21 hK_21=>?_) (fun j_21 hj_21=>?_)
     ·have h:=hx_21
      refine AW.sdrwK fokW (fun Q_22 hQ_22=>?_)
      refine aX 1 ⟨[(0,.d (q1 plan)),pR 4 2,pR 5 3,pR 6 4,pR 8 5,(10,jI (plan.length:Int)),(11,jI need),(12,jI v),pR 13 6,(42,.d (.sl 4 (List.map e58 o0_B.Hanks))),(43,jI (o0_B.Hanks.length:Int)),(44,jI v),(49,jI v)],[(6,.var 58 (cv58 p2)),(5,.var 92 (c5 cut)),(0,.var 78 (hbm o0_B mf)),(1,.var 127 [.yld]),(2,.var 99 [.d (.fn 108)]),(3,.var 65 [.clo 89 [.agg (hbm m0_B mf_1)] []]),(4,.var 127 [.clo 112 [] [.ptr 0 0,.ptr 1 0,.ptr 2 0,.ptr 3 0,.ptr 4 0]])],7,(fr_ s_2),[],5⟩ ?_
      obtain ⟨j1,hv_23,h⟩:=bsome h
      refine r_iaV trivial rfl rfl rfl (ixN_ok hv_23).1 (ixN_ok hv_23).2.1 ?_
      refine r_loadV trivial rfl rfl (u:=jI (cut j1)) (agt (f:=fun k=>jI (cut k)) hv_23) ?_
      refine aX 6 ⟨[(0,.d (q1 plan)),pR 4 2,pR 5 3,pR 6 4,pR 8 5,(10,jI (plan.length:Int)),(11,jI need),(12,jI v),(42,.d (.sl 4 (List.map e58 o0_B.Hanks))),(43,jI (o0_B.Hanks.length:Int)),(44,jI v),(53,jI (wr ((cut j1)+need))),(55,.d (.fn 108)),(57,.agg [jI p2.Weight.Low,jI p2.Weight.High])],[(6,.var 58 (cv58 p2)),(5,.var 92 (c5 cut)),(0,.var 78 (hbm o0_B mf)),(1,.var 127 [.yld]),(2,.var 99 [.d (.fn 108)]),(3,.var 65 [.clo 89 [.agg (hbm m0_B mf_1)] []]),(4,.var 127 [.clo 112 [] [.ptr 0 0,.ptr 1 0,.ptr 2 0,.ptr 3 0,.ptr 4 0]])],7,(fr_ s_2),[],5⟩ ?_
      obtain ⟨r0_2,hx_24,h⟩:=bsome h
      refine r_callvZ (zr:=[]) trivial rfl (.fn _) (by kernel_rfl) rfl (k108 p2.Weight _ hx_24) trivial ⟨.refl _,trivial⟩ rfl rfl rfl rfl ?_
      refine aX 2 ⟨[(0,.d (q1 plan)),pR 4 2,pR 5 3,pR 6 4,pR 8 5,(10,jI (plan.length:Int)),(11,jI need),(12,jI v),(42,.d (.sl 4 (List.map e58 o0_B.Hanks))),(43,jI (o0_B.Hanks.length:Int)),(44,jI v),(60,.d (.bool (decide (r0_2<(wr ((cut j1)+need))))))],[(6,.var 58 (cv58 p2)),(5,.var 92 (c5 cut)),(0,.var 78 (hbm o0_B mf)),(1,.var 127 [.yld]),(2,.var 99 [.d (.fn 108)]),(3,.var 65 [.clo 89 [.agg (hbm m0_B mf_1)] []]),(4,.var 127 [.clo 112 [] [.ptr 0 0,.ptr 1 0,.ptr 2 0,.ptr 3 0,.ptr 4 0]])],7,(fr_ s_2),[],5⟩ ?_
      refine r_split 60 rfl (fun hb_25=>?_) (fun hb_25=>?_)
      ·have h:=ifT hb_25 h
       refine aX 17 ⟨[(0,.d (q1 plan)),pR 4 2,pR 5 3,pR 6 4,pR 8 5,(10,jI (plan.length:Int)),(11,jI need),(12,jI v),(42,.d (.sl 4 (List.map e58 o0_B.Hanks))),(43,jI (o0_B.Hanks.length:Int)),(44,jI v),(77,.d (.bool true))],[(6,.var 58 (cv58 p2)),(5,.var 92 (c5 cut)),(0,.var 78 (hbm o0_B mf)),(1,.var 127 [.yld]),(2,.var 99 [.d (.fn 108)]),(3,.var 65 [.clo 89 [.agg (hbm m0_B mf_1)] []]),(4,.var 127 [.clo 112 [] [.ptr 0 0,.ptr 1 0,.ptr 2 0,.ptr 3 0,.ptr 4 0]])],7,(fr_ s_2),[],5⟩ ?_
       refine Fi ⟨[(0,.d (q1 plan)),pR 4 2,pR 5 3,pR 6 4,pR 8 5,(10,jI (plan.length:Int)),(11,jI need),(12,jI v),(42,.d (.sl 4 (List.map e58 o0_B.Hanks))),(43,jI (o0_B.Hanks.length:Int)),(44,jI v),(77,.d (.bool true))],(y38 cut o0_B mf m0_B mf_1),7,(fr_ s_2),[],5⟩ ?_
       refine hQ_22 _ ?_
       refine AW.condT rfl ?_
       refine AW.exit ?_
       refine hK_19 _ ?_
       refine Ra ⟨[(0,.d (q1 plan)),pR 4 2,pR 5 3,pR 6 4,pR 8 5,(10,jI (plan.length:Int)),(11,jI need),(42,.d (.sl 4 (List.map e58 o0_B.Hanks))),(43,jI (o0_B.Hanks.length:Int)),(44,jI (wr (v+1)))],(y38 cut o0_B mf m0_B mf_1),7,(fr_ s_2),[],5⟩ ?_
       obtain rfl:=Option.some.inj h
       obtain rfl:=Aft.bk hk_21
       have ew:wr (v+1)=v+1:=inext (N:=(o0_B.Hanks.length:Int)) (by omega) (by omega) (by omega)
       rw [ew]
       exact hK_16 _ _ rfl (Can.kp (by kernel_rfl))
      ·have h:=ifF hb_25 h
       refine aX 4 ⟨[(0,.d (q1 plan)),pR 4 2,pR 5 3,pR 6 4,pR 8 5,(10,jI (plan.length:Int)),(11,jI need),(12,jI v),(42,.d (.sl 4 (List.map e58 o0_B.Hanks))),(43,jI (o0_B.Hanks.length:Int)),(44,jI v),(60,.d (.bool false)),(64,.d (.bool (decide (((plan.length:Int).tmod 2)=1))))],[(6,.var 58 (cv58 p2)),(5,.var 92 (c5 cut)),(0,.var 78 (hbm o0_B mf)),(1,.var 127 [.yld]),(2,.var 99 [.d (.fn 108)]),(3,.var 65 [.clo 89 [.agg (hbm m0_B mf_1)] []]),(4,.var 127 [.clo 112 [] [.ptr 0 0,.ptr 1 0,.ptr 2 0,.ptr 3 0,.ptr 4 0]])],7,(fr_ s_2),[],5⟩ ?_
       refine r_split 64 rfl (fun hb_26=>?_) (fun hb_26=>?_)
       ·have h:=ifT hb_26 h
        refine aX 6 ⟨[(0,.d (q1 plan)),pR 4 2,pR 5 3,pR 6 4,pR 8 5,(10,jI (plan.length:Int)),(11,jI need),(12,jI v),(42,.d (.sl 4 (List.map e58 o0_B.Hanks))),(43,jI (o0_B.Hanks.length:Int)),(44,jI v),(60,.d (.bool false)),(64,.d (.bool true)),(65,.clo 89 [.agg (hbm m0_B mf_1)] []),(67,jI (wr ((plan.length:Int).tdiv 2))),(68,.d (q1 plan)),(70,jI (wr ((plan.length:Int) - 1)))],[(6,.var 58 (cv58 p2)),(5,.var 92 (c5 cut)),(0,.var 78 (hbm o0_B mf)),(1,.var 127 [.yld]),(2,.var 99 [.d (.fn 108)]),(3,.var 65 [.clo 89 [.agg (hbm m0_B mf_1)] []]),(4,.var 127 [.clo 112 [] [.ptr 0 0,.ptr 1 0,.ptr 2 0,.ptr 3 0,.ptr 4 0]])],7,(fr_ s_2),[],5⟩ ?_
        obtain ⟨p3,hv_27,h⟩:=bsome h
        refine r_iaD rfl rfl rfl (ixL_ok hv_27).1 (row:=e3 p3) (mapget (ixL_ok hv_27).2) ?_
        refine aX 2 ⟨[(0,.d (q1 plan)),pR 4 2,pR 5 3,pR 6 4,pR 8 5,(10,jI (plan.length:Int)),(11,jI need),(12,jI v),(42,.d (.sl 4 (List.map e58 o0_B.Hanks))),(43,jI (o0_B.Hanks.length:Int)),(44,jI v),(60,.d (.bool false)),(64,.d (.bool true)),(65,.clo 89 [.agg (hbm m0_B mf_1)] []),(67,jI (wr ((plan.length:Int).tdiv 2))),(72,jI p3),(73,jI v)],[(6,.var 58 (cv58 p2)),(5,.var 92 (c5 cut)),(0,.var 78 (hbm o0_B mf)),(1,.var 127 [.yld]),(2,.var 99 [.d (.fn 108)]),(3,.var 65 [.clo 89 [.agg (hbm m0_B mf_1)] []]),(4,.var 127 [.clo 112 [] [.ptr 0 0,.ptr 1 0,.ptr 2 0,.ptr 3 0,.ptr 4 0]])],7,(fr_ s_2),[],5⟩ ?_
        obtain ⟨r0_3,hx_28,h⟩:=bsome h
        refine r_callvZ (zr:=[]) rfl rfl (.clo _ _ _) (by kernel_rfl) rfl (k89 m0_B mf_1 (wr ((plan.length:Int).tdiv 2)) p3 v _ hx_28) trivial ⟨.refl _,.refl _,.refl _,.refl _,trivial⟩ rfl rfl rfl rfl ?_
        refine aX 3 ⟨[(0,.d (q1 plan)),pR 4 2,pR 5 3,pR 6 4,pR 8 5,(10,jI (plan.length:Int)),(11,jI need),(12,jI v),(42,.d (.sl 4 (List.map e58 o0_B.Hanks))),(43,jI (o0_B.Hanks.length:Int)),(44,jI v),(77,.d (.bool (!r0_3)))],[(6,.var 58 (cv58 p2)),(5,.var 92 (c5 cut)),(0,.var 78 (hbm o0_B mf)),(1,.var 127 [.yld]),(2,.var 99 [.d (.fn 108)]),(3,.var 65 [.clo 89 [.agg (hbm m0_B mf_1)] []]),(4,.var 127 [.clo 112 [] [.ptr 0 0,.ptr 1 0,.ptr 2 0,.ptr 3 0,.ptr 4 0]])],7,(fr_ s_2),[],5⟩ ?_
        refine Fi ⟨[(0,.d (q1 plan)),pR 4 2,pR 5 3,pR 6 4,pR 8 5,(10,jI (plan.length:Int)),(11,jI need),(12,jI v),(42,.d (.sl 4 (List.map e58 o0_B.Hanks))),(43,jI (o0_B.Hanks.length:Int)),(44,jI v),(77,.d (.bool (!r0_3)))],(y38 cut o0_B mf m0_B mf_1),7,(fr_ s_2),[],5⟩ ?_
        refine hQ_22 _ ?_
        refine AW.cond rfl (fun hb_29=>?_) (fun hb_29=>?_)
        ·have h:=ifT hb_29 h
         refine AW.exit ?_
         refine hK_19 _ ?_
         refine Ra ⟨[(0,.d (q1 plan)),pR 4 2,pR 5 3,pR 6 4,pR 8 5,(10,jI (plan.length:Int)),(11,jI need),(42,.d (.sl 4 (List.map e58 o0_B.Hanks))),(43,jI (o0_B.Hanks.length:Int)),(44,jI (wr (v+1)))],(y38 cut o0_B mf m0_B mf_1),7,(fr_ s_2),[],5⟩ ?_
         obtain rfl:=Option.some.inj h
         obtain rfl:=Aft.bk hk_21
         have ew:wr (v+1)=v+1:=inext (N:=(o0_B.Hanks.length:Int)) (by omega) (by omega) (by omega)
         rw [ew]
         exact hK_16 _ _ rfl (Can.kp (by kernel_rfl))
        ·have h:=ifF hb_29 h
         refine AW.skip ?_
         obtain rfl:=Option.some.inj h
         exact hK_21 _ _ rfl (Can.kp (by kernel_rfl))
       ·have h:=ifF hb_26 h
        refine aX 13 ⟨[(0,.d (q1 plan)),pR 4 2,pR 5 3,pR 6 4,pR 8 5,(10,jI (plan.length:Int)),(11,jI need),(12,jI v),(42,.d (.sl 4 (List.map e58 o0_B.Hanks))),(43,jI (o0_B.Hanks.length:Int)),(44,jI v),(77,.d (.bool false))],[(6,.var 58 (cv58 p2)),(5,.var 92 (c5 cut)),(0,.var 78 (hbm o0_B mf)),(1,.var 127 [.yld]),(2,.var 99 [.d (.fn 108)]),(3,.var 65 [.clo 89 [.agg (hbm m0_B mf_1)] []]),(4,.var 127 [.clo 112 [] [.ptr 0 0,.ptr 1 0,.ptr 2 0,.ptr 3 0,.ptr 4 0]])],7,(fr_ s_2),[],5⟩ ?_
        refine Fi ⟨[(0,.d (q1 plan)),pR 4 2,pR 5 3,pR 6 4,pR 8 5,(10,jI (plan.length:Int)),(11,jI need),(12,jI v),(42,.d (.sl 4 (List.map e58 o0_B.Hanks))),(43,jI (o0_B.Hanks.length:Int)),(44,jI v),(77,.d (.bool false))],(y38 cut o0_B mf m0_B mf_1),7,(fr_ s_2),[],5⟩ ?_
        refine hQ_22 _ ?_
        refine AW.condF rfl ?_
        refine AW.skip ?_
        obtain rfl:=Option.some.inj h
        exact hK_21 _ _ rfl (Can.kp (by kernel_rfl))
     ·subst hj_21
      have h:=Aft.nx hk_21
      refine Sa ⟨[(0,.d (q1 plan)),pR 4 2,pR 5 3,pR 6 4,pR 8 5,(10,jI (plan.length:Int)),(11,jI need),(12,jI v),pR 14 7,(42,.d (.sl 4 (List.map e58 o0_B.Hanks))),(43,jI (o0_B.Hanks.length:Int)),(44,jI v)],(y40 cut o0_B mf m0_B mf_1),8,(fr_ s_2),[],5⟩ ?_
      refine AW.srwK (fun Q_30 hQ_30=>?_)
      refine Au 1 ⟨[(0,.d (q1 plan)),pR 4 2,pR 5 3,pR 6 4,pR 8 5,(10,jI (plan.length:Int)),(11,jI need),(12,jI v),pR 14 7,(42,.d (.sl 4 (List.map e58 o0_B.Hanks))),(43,jI (o0_B.Hanks.length:Int)),(44,jI v),(79,jI v)],(y40 cut o0_B mf m0_B mf_1),8,(fr_ s_2),[],5⟩ ?_
      obtain ⟨j2,hv_31,h⟩:=bsome h
      refine RW.one fokW (r_iaV trivial rfl rfl rfl (ixN_ok hv_31).1 (ixN_ok hv_31).2.1 (r_end ?_))
      refine RW.one fokW (r_loadV trivial rfl rfl (u:=jI (cut j2)) (agt (f:=fun k=>jI (cut k)) hv_31) (r_end ?_))
      refine Au 2 ⟨[(0,.d (q1 plan)),pR 4 2,pR 5 3,pR 6 4,pR 8 5,(10,jI (plan.length:Int)),(11,jI need),(12,jI v),pR 14 7,(42,.d (.sl 4 (List.map e58 o0_B.Hanks))),(43,jI (o0_B.Hanks.length:Int)),(44,jI v),(79,jI v),(83,jI (wr ((cut j2)+need)))],(y40 cut o0_B mf m0_B mf_1),8,(fr_ s_2),[],5⟩ ?_
      obtain ⟨j3,hv_32,h⟩:=bsome h
      refine RW.one fokW (r_iaV trivial rfl rfl rfl (ixN_ok hv_32).1 (ixN_ok hv_32).2.1 (r_end ?_))
      refine RW.one fokW (r_stX trivial rfl rfl rfl rfl rfl (aslot hv_32 rfl) (cs':=[jI ((aset cut j3 (wr ((cut j2)+need))) 0),jI ((aset cut j3 (wr ((cut j2)+need))) 1),jI ((aset cut j3 (wr ((cut j2)+need))) 2),jI ((aset cut j3 (wr ((cut j2)+need))) 3),jI ((aset cut j3 (wr ((cut j2)+need))) 4)]) (ast (w:=cut) (c:=fun z=>jI z) hv_32) (r_end ?_))
      refine RW.nil (hQ_30 _ ?_)
      refine AW.sdrwK fokW (fun Q_33 hQ_33=>?_)
      refine aX 4 ⟨[(0,.d (q1 plan)),pR 4 2,pR 5 3,pR 6 4,pR 8 5,(10,jI (plan.length:Int)),(11,jI need),(12,jI v),pR 14 7,(42,.d (.sl 4 (List.map e58 o0_B.Hanks))),(43,jI (o0_B.Hanks.length:Int)),(44,jI v),(85,.clo 112 [] [.ptr 0 0,.ptr 1 0,.ptr 2 0,.ptr 3 0,.ptr 4 0]),(86,.d (q1 plan)),(87,jI (plan.length:Int)),(88,jI (plan.length:Int))],[(7,.var 92 [jI ((aset cut j3 (wr ((cut j2)+need))) 0),jI ((aset cut j3 (wr ((cut j2)+need))) 1),jI ((aset cut j3 (wr ((cut j2)+need))) 2),jI ((aset cut j3 (wr ((cut j2)+need))) 3),jI ((aset cut j3 (wr ((cut j2)+need))) 4)]),(5,.var 92 (c5 cut)),(0,.var 78 (hbm o0_B mf)),(1,.var 127 [.yld]),(2,.var 99 [.d (.fn 108)]),(3,.var 65 [.clo 89 [.agg (hbm m0_B mf_1)] []]),(4,.var 127 [.clo 112 [] [.ptr 0 0,.ptr 1 0,.ptr 2 0,.ptr 3 0,.ptr 4 0]])],8,(fr_ s_2),[],5⟩ ?_
      obtain ⟨l,hv_34,h⟩:=bsome h
      refine r_slN trivial rfl rfl rfl DSl.d (slcL_ok hv_34).2.1 (by rw [List.length_map];exact (slcL_ok hv_34).2.2.1) rfl (slz hv_34 e3) ?_
      refine aX 2 ⟨[(0,.d (q1 plan)),pR 4 2,pR 5 3,pR 6 4,pR 8 5,(10,jI (plan.length:Int)),(11,jI need),pR 14 7,(42,.d (.sl 4 (List.map e58 o0_B.Hanks))),(43,jI (o0_B.Hanks.length:Int)),(44,jI v),(85,.clo 112 [] [.ptr 0 0,.ptr 1 0,.ptr 2 0,.ptr 3 0,.ptr 4 0]),(89,.fsl 1 (List.map e3 l)),(91,.own 8 (List.map e3 [v]).length)],[(8,.row 3 1 (List.map e3 [v])),(7,.var 92 [jI ((aset cut j3 (wr ((cut j2)+need))) 0),jI ((aset cut j3 (wr ((cut j2)+need))) 1),jI ((aset cut j3 (wr ((cut j2)+need))) 2),jI ((aset cut j3 (wr ((cut j2)+need))) 3),jI ((aset cut j3 (wr ((cut j2)+need))) 4)]),(5,.var 92 (c5 cut)),(0,.var 78 (hbm o0_B mf)),(1,.var 127 [.yld]),(2,.var 99 [.d (.fn 108)]),(3,.var 65 [.clo 89 [.agg (hbm m0_B mf_1)] []]),(4,.var 127 [.clo 112 [] [.ptr 0 0,.ptr 1 0,.ptr 2 0,.ptr 3 0,.ptr 4 0]])],9,(fr_ s_2),[],5⟩ ?_
      obtain ⟨l1,hv_35,h⟩:=bsome h
      refine r_apF trivial rfl rfl rfl rfl (by simp) (zs:=List.map e3 l1) (apz hv_35 e3) (apr hv_35 e3) ?_
      refine aX 1 ⟨[(0,.d (q1 plan)),pR 4 2,pR 5 3,pR 6 4,pR 8 5,(10,jI (plan.length:Int)),(11,jI need),(42,.d (.sl 4 (List.map e58 o0_B.Hanks))),(43,jI (o0_B.Hanks.length:Int)),(44,jI v),(85,.clo 112 [] [.ptr 0 0,.ptr 1 0,.ptr 2 0,.ptr 3 0,.ptr 4 0]),(92,.own 9 (List.map e3 l1).length),(93,.agg [jI ((aset cut j3 (wr ((cut j2)+need))) 0),jI ((aset cut j3 (wr ((cut j2)+need))) 1),jI ((aset cut j3 (wr ((cut j2)+need))) 2),jI ((aset cut j3 (wr ((cut j2)+need))) 3),jI ((aset cut j3 (wr ((cut j2)+need))) 4)])],[(9,.row 3 1 (List.map e3 l1)),(8,.row 3 1 (List.map e3 [v])),(7,.var 92 [jI ((aset cut j3 (wr ((cut j2)+need))) 0),jI ((aset cut j3 (wr ((cut j2)+need))) 1),jI ((aset cut j3 (wr ((cut j2)+need))) 2),jI ((aset cut j3 (wr ((cut j2)+need))) 3),jI ((aset cut j3 (wr ((cut j2)+need))) 4)]),(5,.var 92 (c5 cut)),(0,.var 78 (hbm o0_B mf)),(1,.var 127 [.yld]),(2,.var 99 [.d (.fn 108)]),(3,.var 65 [.clo 89 [.agg (hbm m0_B mf_1)] []]),(4,.var 127 [.clo 112 [] [.ptr 0 0,.ptr 1 0,.ptr 2 0,.ptr 3 0,.ptr 4 0]])],10,(fr_ s_2),[],5⟩ ?_
      obtain ⟨⟨r0_7_1,s_5_1⟩,hx_36,h⟩:=bsome h
      refine r_callvS (zr:=[(9,.row 3 1 (List.map e3 l1))]) [0,1,2,3,4] trivial rfl (.clo _ _ _) (by kernel_rfl) rfl (ih l1 (aset cut j3 (wr ((cut j2)+need))) o0_B mf m0_B mf_1 s_2 _ hx_36) ⟨rfl,rfl,rfl,rfl,rfl,rfl,trivial⟩ rfl rfl ⟨(.own rfl rfl),.refl _,.refl _,.refl _,.refl _,.refl _,.refl _,trivial⟩ rfl rfl rfl ?_
      refine aX 1 ⟨[(0,.d (q1 plan)),pR 4 2,pR 5 3,pR 6 4,pR 8 5,(10,jI (plan.length:Int)),(11,jI need),(42,.d (.sl 4 (List.map e58 o0_B.Hanks))),(43,jI (o0_B.Hanks.length:Int)),(44,jI v),(95,.d (.bool (!r0_7_1)))],[(0,.var 78 (hbm o0_B mf)),(1,.var 127 [.yld]),(2,.var 99 [.d (.fn 108)]),(3,.var 65 [.clo 89 [.agg (hbm m0_B mf_1)] []]),(4,.var 127 [.clo 112 [] [.ptr 0 0,.ptr 1 0,.ptr 2 0,.ptr 3 0,.ptr 4 0]]),(9,.dead),(8,.row 3 1 (List.map e3 [v])),(7,.var 92 [jI ((aset cut j3 (wr ((cut j2)+need))) 0),jI ((aset cut j3 (wr ((cut j2)+need))) 1),jI ((aset cut j3 (wr ((cut j2)+need))) 2),jI ((aset cut j3 (wr ((cut j2)+need))) 3),jI ((aset cut j3 (wr ((cut j2)+need))) 4)]),(5,.var 92 (c5 cut))],10,(fr_ s_5_1),[],5⟩ ?_
      refine Fi ⟨[(0,.d (q1 plan)),pR 4 2,pR 5 3,pR 6 4,pR 8 5,(10,jI (plan.length:Int)),(11,jI need),(42,.d (.sl 4 (List.map e58 o0_B.Hanks))),(43,jI (o0_B.Hanks.length:Int)),(44,jI v),(95,.d (.bool (!r0_7_1)))],(y41 o0_B mf m0_B mf_1 cut),10,(fr_ s_5_1),[],5⟩ ?_
      refine hQ_33 _ ?_
      refine AW.cond rfl (fun hb_37=>?_) (fun hb_37=>?_)
      ·have h:=ifT hb_37 h
       refine Sa ⟨[(9,.d (.bool false))],(y39 o0_B mf m0_B mf_1),10,(fr_ s_5_1),[],5⟩ ?_
       obtain rfl:=Option.some.inj h
       have e_1:=hb_16 _ rfl
       subst e_1
       obtain rfl:=Aft.bk hk_16
       exact rT hR_0 (.cons (.tmp rfl) .nil)
      ·have h:=ifF hb_37 h
       refine AW.skip (hK_19 _ ?_)
       refine Ra ⟨[(0,.d (q1 plan)),pR 4 2,pR 5 3,pR 6 4,pR 8 5,(10,jI (plan.length:Int)),(11,jI need),(42,.d (.sl 4 (List.map e58 o0_B.Hanks))),(43,jI (o0_B.Hanks.length:Int)),(44,jI (wr (v+1)))],(y41 o0_B mf m0_B mf_1 cut),10,(fr_ s_5_1),[],5⟩ ?_
       obtain rfl:=Option.some.inj h
       have ew:wr (v+1)=v+1:=inext (N:=(o0_B.Hanks.length:Int)) (by omega) (by omega) (by omega)
       rw [ew]
       exact hK_16 _ _ rfl (Can.kp (by kernel_rfl))
    ·subst hout
     have h:=Aft.nx hk_16
     refine Sa ⟨[(0,.d (q1 plan)),pR 4 2,pR 5 3,pR 6 4,pR 8 5,(10,jI (plan.length:Int)),(11,jI need),(42,.d (.sl 4 (List.map e58 o0_B.Hanks))),(43,jI (o0_B.Hanks.length:Int)),(44,jI v),(45,.d (.bool (decide (v<(o0_B.Hanks.length:Int)))))],(y38 cut o0_B mf m0_B mf_1),6,(fr_ s_2),[],5⟩ ?_
     refine AW.seqK (fun K_38 hK_38=>?_)
     refine AW.cond rfl (fun hb_39=>False.elim (by have:=of_decide_eq_true hb_39;omega)) (fun hb_39=>?_)
     refine AW.exit ?_
     refine hK_14 _ ?_
     refine Sa ⟨[(9,.d (.bool true))],(y39 o0_B mf m0_B mf_1),6,(fr_ s_2),[],5⟩ ?_
     obtain rfl:=Option.some.inj h
     exact rT hR_0 (.cons (.tmp rfl) .nil)
def g111a {S_:Type} (c_:(List Int)→(Nat→Int)→S_→Option (S_×Bool)) (o0_B:HairBook) (mf:List (Hair_dye×Span)) (m0_B:HairBook) (mf_1:List (Hair_dye×Span)) (s_:S_):Option S_:=(g105).bind fun r0=>(g112a c_ 1000 ([]:(List Int)) r0 o0_B mf m0_B mf_1 s_).bind fun (r0_7,s_5)=>some s_5
def y42 (o0_B:HairBook) (mf:List (Hair_dye×Span)) (m0_B:HairBook) (mf_1:List (Hair_dye×Span)):List (Nat×Blk):=[(4,.var 127 [.clo 112 [] [.ptr 0 0,.ptr 3 0,.ptr 1 0,.ptr 2 0,.ptr 4 0]]),(3,.var 127 [.yld]),(0,.var 78 (hbm o0_B mf)),(1,.var 99 [.d (.fn 108)]),(2,.var 65 [.clo 89 [.agg (hbm m0_B mf_1)] []])]
theorem k111a {S_:Type} (fr_:S_→Fr) (c_:(List Int)→(Nat→Int)→S_→Option (S_×Bool)) (hc_:∀ (a0:(List Int)) (a1:(Nat→Int)) s s2 b,c_ a0 a1 s=some (s2,b)→YCall Tryd.prog Gs (fr_ s) [.d (q1 a0),.agg (c5 a1)] (.d (.bool b)) (fr_ s2)) (o0_B:HairBook) (mf:List (Hair_dye×Span)) (m0_B:HairBook) (mf_1:List (Hair_dye×Span)) (s_:S_) (r:S_) (h:g111a c_ o0_B mf m0_B mf_1 s_=some r):SCall Tryd.prog Gs 111 [.yld,.ptr 0 0,.ptr 1 0,.ptr 2 0] [(0,.var 78 (hbm o0_B mf)),(1,.var 99 [.d (.fn 108)]),(2,.var 65 [.clo 89 [.agg (hbm m0_B mf_1)] []])] 3 (fr_ s_) (.tup []) [(0,.var 78 (hbm o0_B mf)),(1,.var 99 [.d (.fn 108)]),(2,.var 65 [.clo 89 [.agg (hbm m0_B mf_1)] []])] 3 (fr_ r):=by
 unfold g111a at h
 refine SCall.mkK Tryd.func111 c111 rfl rfl (by kernel_rfl) (fun Q_0 hR_0 hN_0=>?_)
 refine Sa ⟨[pR 1 0,pR 2 1,pR 3 2,pR 4 3],[(3,.var 127 [.yld]),(0,.var 78 (hbm o0_B mf)),(1,.var 99 [.d (.fn 108)]),(2,.var 65 [.clo 89 [.agg (hbm m0_B mf_1)] []])],4,(fr_ s_),[],3⟩ ?_
 refine Sa ⟨[pR 1 0,pR 2 1,pR 3 2,pR 4 3,pR 5 4],[(4,.var 127 [.d (.nilFn)]),(3,.var 127 [.yld]),(0,.var 78 (hbm o0_B mf)),(1,.var 99 [.d (.fn 108)]),(2,.var 65 [.clo 89 [.agg (hbm m0_B mf_1)] []])],5,(fr_ s_),[],3⟩ ?_
 refine Sa ⟨[pR 5 4],(y42 o0_B mf m0_B mf_1),5,(fr_ s_),[],3⟩ ?_
 refine AW.drw fokW ?_
 refine aX 1 ⟨[(7,.clo 112 [] [.ptr 0 0,.ptr 3 0,.ptr 1 0,.ptr 2 0,.ptr 4 0])],(y42 o0_B mf m0_B mf_1),5,(fr_ s_),[],3⟩ ?_
 obtain ⟨r0,hx_2,h⟩:=bsome h
 refine r_call trivial rfl (k105 _ hx_2) rfl rfl ?_
 obtain ⟨⟨r0_7,s_5⟩,hx_3,h⟩:=bsome h
 refine r_callvS (zr:=[]) [0,3,1,2,4] trivial rfl (.clo _ _ _) (by kernel_rfl) rfl (k112a fr_ c_ hc_ 1000 ([]:(List Int)) r0 o0_B mf m0_B mf_1 s_ _ hx_3) ⟨rfl,rfl,rfl,rfl,rfl,trivial⟩ rfl rfl ⟨(.nil 1),.refl _,.refl _,.refl _,.refl _,.refl _,.refl _,trivial⟩ rfl rfl rfl ?_
 refine Fi ⟨[],[(0,.var 78 (hbm o0_B mf)),(1,.var 99 [.d (.fn 108)]),(2,.var 65 [.clo 89 [.agg (hbm m0_B mf_1)] []])],5,(fr_ s_5),[],3⟩ ?_
 obtain rfl:=Option.some.inj h
 exact hN_0 _ (retX .nil (.refl _) rfl (by kernel_rfl) (by kernel_rfl))
def g91_r11:((List Int)×(Nat→Int))→(Unit)→Option (Ctl (Unit) (Unit)):=fun (a,a1) _=>some (.brk ())
def g91_16 (rec_:(List HairHank)→HairBook→Option Bool) (hanks:(List HairHank)) (o0:HairBook) (p:HairHank):Int→Unit→Option (Ctl (Unit) (Ctl (Unit) (Ctl (Unit) (Bool)))):=fun v _=>(slcL hanks 0 (hanks.length:Int)).bind fun l=>(appL 32 l [(HairHank.mk p.Weight (Span.mk (wr (p.Shade.Low+v)) (wr (p.Shade.Low+v))))]).bind fun l1=>(rec_ l1 o0).bind fun r0_4_1=>bif r0_4_1 then (some (.brk (.brk (.brk true)))) else (some (.next ()))
def g91:Nat→(List HairHank)→HairBook→Option Bool
 | 0,_,_=>none
 | n_+1,hanks,o0=>bif (decide ((hanks.length:Int)=(o0.Hanks.length:Int))) then ((g80 (HairBook.mk hanks o0.Horses o0.Dark o0.Near o0.Match)).bind fun (r0_B,mf)=>(g77).bind fun _=>(g88a r0_B mf r0_B mf).bind fun (o0_B,mf1)=>(g111a (fun a a1 s=>rndC g91_r11 (a,a1) s) o0_B mf1 r0_B mf (.next ())).bind fun out_11=>match out_11 with | .next _=>some false | .brk _=>some true) else ((ixL o0.Hanks (hanks.length:Int)).bind fun p=>bindC (bindC (bindC (forC (g91_16 (g91 n_) hanks o0 p) ((((wr ((wr (p.Shade.High - p.Shade.Low))+1)):Int) - 0).toNat) 0 ()) fun _=>some (.next ()):Option (Ctl (Unit) (Ctl (Unit) (Bool)))) fun _=>some (.next ()):Option (Ctl (Unit) (Bool))) fun _=>some false)
def y43 (o0:HairBook):List (Nat×Blk):=[(2,.var 4 [.d (.bool false)]),(0,.var 25 (cv25 o0)),(1,.var 110 [.clo 91 [] [.ptr 0 0,.ptr 1 0]])]
theorem k91:∀ (n_:Nat) (hanks:(List HairHank)) (o0:HairBook) (r:Bool) (h:g91 n_ hanks o0=some r),SCall Tryd.prog Gs 91 [.d (.sl 4 (List.map e58 hanks)),.ptr 0 0,.ptr 1 0] [(0,.var 25 (cv25 o0)),(1,.var 110 [.clo 91 [] [.ptr 0 0,.ptr 1 0]])] 2 Fr.emp (.d (.bool r)) [(0,.var 25 (cv25 o0)),(1,.var 110 [.clo 91 [] [.ptr 0 0,.ptr 1 0]])] 2 Fr.emp:=by
 intro n_
 induction n_ with
 | zero=>intro hanks o0 r h;cases h
 | succ n_ ih=>
  intro hanks o0 r h
  rw [g91] at h
  refine SCall.mkK Tryd.func91 c91 rfl rfl (by kernel_rfl) (fun Q_0 hR_0 hN_0=>?_)
  refine Sa (sT [(0,.d (.sl 4 (List.map e58 hanks))),pR 1 0,pR 2 1,pR 4 2] (y43 o0) 3 2) ?_
  refine AW.srwK (fun Q_1 hQ_1=>?_)
  refine Au 1 (sT [(0,.d (.sl 4 (List.map e58 hanks))),pR 1 0,pR 2 1,pR 4 2,(11,.d (.sl 4 (List.map e58 hanks)))] (y43 o0) 3 2) ?_
  refine rL rfl ?_
  refine Au 1 (sT [(0,.d (.sl 4 (List.map e58 hanks))),pR 1 0,pR 2 1,pR 4 2,(5,jI (hanks.length:Int))] (y43 o0) 3 2) ?_
  refine RW.nil (hQ_1 _ ?_)
  refine AW.seqK fun K_2 hK_2=>AW.srwK fun Q_3 hQ_3=>?_
  refine Au 3 (sT [(0,.d (.sl 4 (List.map e58 hanks))),pR 1 0,pR 2 1,pR 4 2,(5,jI (hanks.length:Int)),(13,jI (hanks.length:Int)),(15,.d (.sl 4 (List.map e58 o0.Hanks)))] (y43 o0) 3 2) ?_
  refine rL rfl ?_
  refine Au 1 (sT [(0,.d (.sl 4 (List.map e58 hanks))),pR 1 0,pR 2 1,pR 4 2,(5,jI (hanks.length:Int)),(17,.d (.bool (decide ((hanks.length:Int)=(o0.Hanks.length:Int)))))] (y43 o0) 3 2) ?_
  refine RW.nil (hQ_3 _ ?_)
  refine AW.cond rfl (fun hb_4=>?_) (fun hb_4=>?_)
  ·have h:=ifT hb_4 h
   refine Sa (sT [(0,.d (.sl 4 (List.map e58 hanks))),pR 4 2,pR 6 3] [(3,.var 25 (cv25 o0)),(2,.var 4 [.d (.bool false)]),(0,.var 25 (cv25 o0)),(1,.var 110 [.clo 91 [] [.ptr 0 0,.ptr 1 0]])] 4 2) ?_
   refine Sa (sT [pR 4 2,pR 6 3] [(3,.var 25 [.d (.sl 4 (List.map e58 hanks)),.d (.sl 3 (List.map e69 o0.Horses)),jI o0.Dark,jI o0.Near,jI o0.Match]),(2,.var 4 [.d (.bool false)]),(0,.var 25 (cv25 o0)),(1,.var 110 [.clo 91 [] [.ptr 0 0,.ptr 1 0]])] 4 2) ?_
   refine AW.srwK (fun Q_5 hQ_5=>?_)
   refine Au 1 (sT [pR 4 2,(21,.agg [.d (.sl 4 (List.map e58 hanks)),.d (.sl 3 (List.map e69 o0.Horses)),jI o0.Dark,jI o0.Near,jI o0.Match])] (y43 o0) 4 2) ?_
   obtain ⟨⟨r0_B,mf⟩,hx_6,h⟩:=bsome h
   refine rC (k80 (HairBook.mk hanks o0.Horses o0.Dark o0.Near o0.Match) _ hx_6) ?_
   refine Au 2 (sT [pR 4 2,pR 7 4] [(4,.var 78 (hbm r0_B mf)),(2,.var 4 [.d (.bool false)]),(0,.var 25 (cv25 o0)),(1,.var 110 [.clo 91 [] [.ptr 0 0,.ptr 1 0]])] 5 2) ?_
   refine RW.nil (hQ_5 _ ?_)
   refine AW.seqK (fun K_7 hK_7=>?_)
   refine AW.sdrwK fokW (fun Q_8 hQ_8=>?_)
   refine aX 1 (sT [pR 4 2,pR 7 4,(23,.agg (hbm r0_B mf))] [(4,.var 78 (hbm r0_B mf)),(2,.var 4 [.d (.bool false)]),(0,.var 25 (cv25 o0)),(1,.var 110 [.clo 91 [] [.ptr 0 0,.ptr 1 0]])] 5 2) ?_
   obtain ⟨⟨⟩,hx_9,h⟩:=bsome h
   refine r_call trivial rfl (k77 _ hx_9) rfl rfl ?_
   refine aX 2 (sT [pR 4 2,(23,.agg (hbm r0_B mf)),(24,.agg [.d (.fn 108)]),(26,.clo 89 [.agg (hbm r0_B mf)] [])] [(4,.var 78 (hbm r0_B mf)),(2,.var 4 [.d (.bool false)]),(0,.var 25 (cv25 o0)),(1,.var 110 [.clo 91 [] [.ptr 0 0,.ptr 1 0]])] 5 2) ?_
   obtain ⟨⟨o0_B,mf1⟩,hx_10,h⟩:=bsome h
   refine r_callS (zr:=[]) [] trivial rfl (k88a r0_B mf r0_B mf _ hx_10) trivial rfl rfl ⟨.refl _,.refl _,.refl _,trivial⟩ rfl rfl rfl ?_
   refine Fi (sT [pR 4 2,(27,.clo 111 [] [.ptr 5 0,.ptr 6 0,.ptr 7 0])] [(5,.var 78 (hbm o0_B mf1)),(6,.var 99 [.d (.fn 108)]),(7,.var 65 [.clo 89 [.agg (hbm r0_B mf)] []]),(2,.var 4 [.d (.bool false)]),(0,.var 25 (cv25 o0)),(1,.var 110 [.clo 91 [] [.ptr 0 0,.ptr 1 0]])] 8 2) ?_
   refine hQ_8 _ ?_
   refine AW.block ?_
   obtain ⟨out_11,hx_11,h⟩:=bsome h
   refine AW.rfX (fun (_:Unit)=>[(8,.dm),(2,.var 4 [.d (.bool false)]),(0,.var 25 (cv25 o0)),(1,.var 110 [.clo 91 [] [.ptr 0 0,.ptr 1 0]])]) (fun (_:Unit)=>[(8,.dm),(2,.var 4 [.d (.bool true)]),(0,.var 25 (cv25 o0)),(1,.var 110 [.clo 91 [] [.ptr 0 0,.ptr 1 0]])]) (fun _=>some .ret) g91_r11 (fun (⟨a,a1⟩:(List Int)×(Nat→Int))=>[.d (q1 a),.agg (c5 a1)]) (s0:=()) (out:=out_11) [pR 4 2] [(2,.var 4 [.d (.bool false)]),(0,.var 25 (cv25 o0)),(1,.var 110 [.clo 91 [] [.ptr 0 0,.ptr 1 0]])] [5,6,7] rfl (.clo _ _ _) (by kernel_rfl) (by kernel_rfl) (fun fr_ hY_11=>k111a fr_ _ (fun a a1 s s2 b h=>hY_11 (a,a1) s s2 b h) o0_B mf1 r0_B mf (.next ()) _ hx_11) (by kernel_rfl) ⟨rfl,rfl,rfl,trivial⟩ rfl ⟨rfl,rfl⟩ rfl rfl (fun _=>rfl) (fun _=>rfl) (fun a_11 s_11 c_11 h l_11=>?_) (fun _=>rfl) ?_
   ·obtain ⟨a,a1⟩:=a_11
    unfold g91_r11 at h
    refine AW.skip ?_
    refine AW.block ?_
    refine AW.sa (fokR l_11) [] (sT [pR 4 2] [(2,.var 4 [.d (.bool true)]),(8,.dm),(0,.var 25 (cv25 o0)),(1,.var 110 [.clo 91 [] [.ptr 0 0,.ptr 1 0]])] 9 9) (by kernel_rfl) ?_
    refine AW.ret ?_
    obtain rfl:=Option.some.inj h
    exact ⟨(sT [] [(8,.dm),(2,.var 4 [.d (.bool true)]),(0,.var 25 (cv25 o0)),(1,.var 110 [.clo 91 [] [.ptr 0 0,.ptr 1 0]])] 9 9),Can.kp (by kernel_rfl),rdX trivial rfl (by kernel_rfl) (by kernel_rfl)⟩
   ·rcases out_11 with _ | _
    ·refine hK_7 _ ?_
     refine Sa ⟨[pR 4 2],[(2,.var 4 [.d (.bool false)]),(8,.dm),(0,.var 25 (cv25 o0)),(1,.var 110 [.clo 91 [] [.ptr 0 0,.ptr 1 0]])],9,Fr.emp,[8],2⟩ ?_
     obtain rfl:=Option.some.inj h
     exact rT hR_0 (.cons (.one rfl rfl rfl) .nil)
    ·obtain rfl:=Option.some.inj h
     exact hR_0 _ (retX (.cons (.one rfl rfl rfl) .nil) (.refl _) rfl (by kernel_rfl) (by kernel_rfl))
  ·have h:=ifF hb_4 h
   refine AW.skip (hK_2 _ ?_)
   refine AW.srwK (fun Q_12 hQ_12=>?_)
   refine Au 3 (sT [(0,.d (.sl 4 (List.map e58 hanks))),pR 1 0,pR 2 1,pR 4 2,(5,jI (hanks.length:Int)),(31,.d (.sl 4 (List.map e58 o0.Hanks))),(32,jI (hanks.length:Int))] (y43 o0) 3 2) ?_
   obtain ⟨p,hv_13,h⟩:=bsome h
   refine RW.one fokW (r_iaD trivial rfl rfl (ixL_ok hv_13).1 (row:=e58 p) (mapget (ixL_ok hv_13).2) (r_end ?_))
   refine Au 4 (sT [(0,.d (.sl 4 (List.map e58 hanks))),pR 1 0,pR 2 1,pR 4 2,(5,jI (hanks.length:Int)),pR 8 3] [(3,.var 35 [jI p.Shade.Low,jI p.Shade.High]),(2,.var 4 [.d (.bool false)]),(0,.var 25 (cv25 o0)),(1,.var 110 [.clo 91 [] [.ptr 0 0,.ptr 1 0]])] 4 2) ?_
   refine RW.nil (hQ_12 _ ?_)
   obtain ⟨c_14,hx_14,hk_14⟩:=bsomeC h
   refine AW.jnK (fun (_:Unit)=>(sT [pR 4 2] (y43 o0) 4 2)) (c:=c_14) (fun K_14 hK_14=>?_) (fun j_14 hj_14=>?_)
   ·have h:=hx_14
    refine Sa (sT [(0,.d (.sl 4 (List.map e58 hanks))),pR 1 0,pR 2 1,pR 4 2,(5,jI (hanks.length:Int)),pR 8 3,(41,jI (wr ((wr (p.Shade.High - p.Shade.Low))+1))),(42,jI 0)] [(3,.var 35 [jI p.Shade.Low,jI p.Shade.High]),(2,.var 4 [.d (.bool false)]),(0,.var 25 (cv25 o0)),(1,.var 110 [.clo 91 [] [.ptr 0 0,.ptr 1 0]])] 4 2) ?_
    obtain ⟨c_15,hx_15,hk_15⟩:=bsomeC h
    refine AW.jqK (fun (_:Unit)=>(sT [pR 4 2] (y43 o0) 4 2)) (c:=c_15) (fun K_15 hK_15=>?_) (fun j_15 hj_15=>?_)
    ·have h:=hx_15
     refine AW.block ?_
     have hN_16:(wr ((wr (p.Shade.High - p.Shade.Low))+1))≤9223372036854775807:=(wr_range _).2
     obtain ⟨out_16,hx_16,hk_16⟩:=bsomeC h
     refine AW.lpCK (fun (v:Int) (_:Unit)=>(sT [(0,.d (.sl 4 (List.map e58 hanks))),pR 1 0,pR 2 1,pR 4 2,(5,jI (hanks.length:Int)),pR 8 3,(41,jI (wr ((wr (p.Shade.High - p.Shade.Low))+1))),(42,jI v)] [(3,.var 35 [jI p.Shade.Low,jI p.Shade.High]),(2,.var 4 [.d (.bool false)]),(0,.var 25 (cv25 o0)),(1,.var 110 [.clo 91 [] [.ptr 0 0,.ptr 1 0]])] 4 2)) (g91_16 (g91 n_) hanks o0 p) ((wr ((wr (p.Shade.High - p.Shade.Low))+1))) hx_16 (Can.kp (by kernel_rfl)) (fun v s_16 hi_16 hl_16 c_16 h hb_16 K_16 hK_16=>?_) (fun v s_16 hi_16 hl_16 hout=>?_)
     ·unfold g91_16 at h
      refine Sa (sT [(0,.d (.sl 4 (List.map e58 hanks))),pR 1 0,pR 2 1,pR 4 2,(5,jI (hanks.length:Int)),pR 8 3,(41,jI (wr ((wr (p.Shade.High - p.Shade.Low))+1))),(42,jI v),(43,.d (.bool (decide (v<(wr ((wr (p.Shade.High - p.Shade.Low))+1))))))] [(3,.var 35 [jI p.Shade.Low,jI p.Shade.High]),(2,.var 4 [.d (.bool false)]),(0,.var 25 (cv25 o0)),(1,.var 110 [.clo 91 [] [.ptr 0 0,.ptr 1 0]])] 4 2) ?_
      refine AW.seqK (fun K_17 hK_17=>?_)
      refine AW.cond rfl (fun hb_18=>?_) (fun hb_18=>False.elim (by have:=of_decide_eq_false hb_18;omega))
      refine AW.skip (hK_17 _ ?_)
      refine AW.seqK (fun K_19 hK_19=>?_)
      refine AW.block ?_
      refine Sa (sT [(0,.d (.sl 4 (List.map e58 hanks))),pR 1 0,pR 2 1,pR 4 2,(5,jI (hanks.length:Int)),pR 8 3,(9,jI v),(41,jI (wr ((wr (p.Shade.High - p.Shade.Low))+1))),(42,jI v)] [(3,.var 35 [jI p.Shade.Low,jI p.Shade.High]),(2,.var 4 [.d (.bool false)]),(0,.var 25 (cv25 o0)),(1,.var 110 [.clo 91 [] [.ptr 0 0,.ptr 1 0]])] 4 2) ?_
      refine Sa (sT [(0,.d (.sl 4 (List.map e58 hanks))),pR 1 0,pR 2 1,pR 4 2,(5,jI (hanks.length:Int)),pR 8 3,pR 10 4,(41,jI (wr ((wr (p.Shade.High - p.Shade.Low))+1))),(42,jI v)] [(4,.var 35 [jI (wr (p.Shade.Low+v)),jI (wr (p.Shade.Low+v))]),(3,.var 35 [jI p.Shade.Low,jI p.Shade.High]),(2,.var 4 [.d (.bool false)]),(0,.var 25 (cv25 o0)),(1,.var 110 [.clo 91 [] [.ptr 0 0,.ptr 1 0]])] 5 2) ?_
      refine AW.sdrwK fokW (fun Q_20 hQ_20=>?_)
      refine aX 4 (sT [(0,.d (.sl 4 (List.map e58 hanks))),pR 1 0,pR 2 1,pR 4 2,(5,jI (hanks.length:Int)),pR 8 3,pR 10 4,(41,jI (wr ((wr (p.Shade.High - p.Shade.Low))+1))),(42,jI v),(54,.clo 91 [] [.ptr 0 0,.ptr 1 0]),(55,.d (.sl 4 (List.map e58 hanks))),(56,jI (hanks.length:Int)),(57,jI (hanks.length:Int))] [(4,.var 35 [jI (wr (p.Shade.Low+v)),jI (wr (p.Shade.Low+v))]),(3,.var 35 [jI p.Shade.Low,jI p.Shade.High]),(2,.var 4 [.d (.bool false)]),(0,.var 25 (cv25 o0)),(1,.var 110 [.clo 91 [] [.ptr 0 0,.ptr 1 0]])] 5 2) ?_
      obtain ⟨l,hv_21,h⟩:=bsome h
      refine r_slN trivial rfl rfl rfl DSl.d (slcL_ok hv_21).2.1 (by rw [List.length_map];exact (slcL_ok hv_21).2.2.1) rfl (slz hv_21 e58) ?_
      refine aX 3 (sT [(0,.d (.sl 4 (List.map e58 hanks))),pR 1 0,pR 2 1,pR 4 2,(5,jI (hanks.length:Int)),pR 8 3,pR 10 4,(41,jI (wr ((wr (p.Shade.High - p.Shade.Low))+1))),(42,jI v),(54,.clo 91 [] [.ptr 0 0,.ptr 1 0]),(58,.fsl 4 (List.map e58 l)),(60,.d (.sl 4 (List.map e58 o0.Hanks))),(61,jI (hanks.length:Int))] [(4,.var 35 [jI (wr (p.Shade.Low+v)),jI (wr (p.Shade.Low+v))]),(3,.var 35 [jI p.Shade.Low,jI p.Shade.High]),(2,.var 4 [.d (.bool false)]),(0,.var 25 (cv25 o0)),(1,.var 110 [.clo 91 [] [.ptr 0 0,.ptr 1 0]])] 5 2) ?_
      refine r_iaD trivial rfl rfl (ixL_ok hv_13).1 (row:=e58 p) (mapget (ixL_ok hv_13).2) ?_
      refine aX 5 (sT [(0,.d (.sl 4 (List.map e58 hanks))),pR 1 0,pR 2 1,pR 4 2,(5,jI (hanks.length:Int)),pR 8 3,(41,jI (wr ((wr (p.Shade.High - p.Shade.Low))+1))),(42,jI v),(54,.clo 91 [] [.ptr 0 0,.ptr 1 0]),(58,.fsl 4 (List.map e58 l)),(67,.own 5 (List.map e58 [(HairHank.mk p.Weight (Span.mk (wr (p.Shade.Low+v)) (wr (p.Shade.Low+v))))]).length)] [(5,.row 58 4 (List.map e58 [(HairHank.mk p.Weight (Span.mk (wr (p.Shade.Low+v)) (wr (p.Shade.Low+v))))])),(4,.var 35 [jI (wr (p.Shade.Low+v)),jI (wr (p.Shade.Low+v))]),(3,.var 35 [jI p.Shade.Low,jI p.Shade.High]),(2,.var 4 [.d (.bool false)]),(0,.var 25 (cv25 o0)),(1,.var 110 [.clo 91 [] [.ptr 0 0,.ptr 1 0]])] 6 2) ?_
      obtain ⟨l1,hv_22,h⟩:=bsome h
      refine r_apF trivial rfl rfl rfl rfl (by simp) (zs:=List.map e58 l1) (apz hv_22 e58) (apr hv_22 e58) ?_
      obtain ⟨r0_4_1,hx_23,h⟩:=bsome h
      refine r_callvE (zr:=[(6,.row 58 4 (List.map e58 l1))]) [0,1] trivial rfl (.clo _ _ _) (by kernel_rfl) rfl (ih l1 o0 _ hx_23) ⟨rfl,rfl,rfl,trivial⟩ rfl rfl ⟨(.own rfl rfl),.refl _,.refl _,trivial⟩ rfl rfl rfl ?_
      refine Fi (sT [(0,.d (.sl 4 (List.map e58 hanks))),pR 1 0,pR 2 1,pR 4 2,(5,jI (hanks.length:Int)),pR 8 3,(41,jI (wr ((wr (p.Shade.High - p.Shade.Low))+1))),(42,jI v),(69,.d (.bool r0_4_1))] [(0,.var 25 (cv25 o0)),(1,.var 110 [.clo 91 [] [.ptr 0 0,.ptr 1 0]]),(3,.var 35 [jI p.Shade.Low,jI p.Shade.High]),(2,.var 4 [.d (.bool false)])] 7 2) ?_
      refine hQ_20 _ ?_
      refine AW.cond rfl (fun hb_24=>?_) (fun hb_24=>?_)
      ·have h:=ifT hb_24 h
       refine Sa (sT [pR 4 2] [(2,.var 4 [.d (.bool true)]),(0,.var 25 (cv25 o0)),(1,.var 110 [.clo 91 [] [.ptr 0 0,.ptr 1 0]])] 7 2) ?_
       obtain rfl:=Option.some.inj h
       have e_3:=hb_16 _ rfl
       subst e_3
       obtain rfl:=Aft.bk hk_16
       obtain rfl:=Aft.bk hk_15
       obtain rfl:=Aft.bk hk_14
       exact rT hR_0 (.cons (.one rfl rfl rfl) .nil)
      ·have h:=ifF hb_24 h
       refine AW.skip (hK_19 _ ?_)
       refine Ra (sT [(0,.d (.sl 4 (List.map e58 hanks))),pR 1 0,pR 2 1,pR 4 2,(5,jI (hanks.length:Int)),pR 8 3,(41,jI (wr ((wr (p.Shade.High - p.Shade.Low))+1))),(42,jI (wr (v+1)))] [(0,.var 25 (cv25 o0)),(1,.var 110 [.clo 91 [] [.ptr 0 0,.ptr 1 0]]),(3,.var 35 [jI p.Shade.Low,jI p.Shade.High]),(2,.var 4 [.d (.bool false)])] 7 2) ?_
       obtain rfl:=Option.some.inj h
       have ew:wr (v+1)=v+1:=inext (N:=(wr ((wr (p.Shade.High - p.Shade.Low))+1))) (by omega) (by omega) (by omega)
       rw [ew]
       exact hK_16 _ _ rfl (Can.kp (by kernel_rfl))
     ·subst hout
      have h:=Aft.nx hk_16
      refine Sa (sT [(0,.d (.sl 4 (List.map e58 hanks))),pR 1 0,pR 2 1,pR 4 2,(5,jI (hanks.length:Int)),pR 8 3,(41,jI (wr ((wr (p.Shade.High - p.Shade.Low))+1))),(42,jI v),(43,.d (.bool (decide (v<(wr ((wr (p.Shade.High - p.Shade.Low))+1))))))] [(3,.var 35 [jI p.Shade.Low,jI p.Shade.High]),(2,.var 4 [.d (.bool false)]),(0,.var 25 (cv25 o0)),(1,.var 110 [.clo 91 [] [.ptr 0 0,.ptr 1 0]])] 4 2) ?_
      refine AW.seqK (fun K_25 hK_25=>?_)
      refine AW.cond rfl (fun hb_26=>False.elim (by have:=of_decide_eq_true hb_26;omega)) (fun hb_26=>?_)
      refine AW.exit ?_
      obtain rfl:=Option.some.inj h
      exact hK_15 _ _ rfl (Can.kp (by kernel_rfl))
    ·subst hj_15
     have h:=Aft.nx hk_15
     obtain rfl:=Option.some.inj h
     exact hK_14 _ _ rfl (Can.kp (by kernel_rfl))
   ·subst hj_14
    have h:=Aft.nx hk_14
    refine Sa (sT [pR 4 2] (y43 o0) 4 2) ?_
    obtain rfl:=Option.some.inj h
    exact rT hR_0 (.cons (.one rfl rfl rfl) .nil)
def g33 (x:HairBook):Option (Bool×Int):=(g17 x).bind fun r0_9=>bif (decide (r0_9≠0)) then (some (false,r0_9)) else ((g91 1000 ([]:(List HairHank)) x).bind fun r0_4=>some (r0_4,0))
def y44 (x:HairBook):List (Nat×Blk):=[(1,.var 110 [.clo 91 [] [.ptr 0 0,.ptr 1 0]]),(0,.var 25 (cv25 x))]
theorem k33 (x:HairBook) (r:Bool×Int) (h:g33 x=some r):SCall Tryd.prog Gs 33 [.agg (cv25 x)] [] 0 Fr.emp (match r with | (r0_1,r1_1)=>.tup [.d (.bool r0_1),jI r1_1]) [] 0 Fr.emp:=by
 unfold g33 at h
 refine SCall.mkK Tryd.func33 c33 rfl rfl (by kernel_rfl) (fun Q_0 hR_0 hN_0=>?_)
 refine Sa (sT [pR 1 0] [(0,.var 25 (cv25 x))] 1 0) ?_
 refine AW.seqK fun K_1 hK_1=>AW.srwK fun Q_2 hQ_2=>?_
 refine Au 1 (sT [pR 1 0,(6,.agg (cv25 x))] [(0,.var 25 (cv25 x))] 1 0) ?_
 obtain ⟨r0_9,hx_3,h⟩:=bsome h
 refine rC (k17 x _ hx_3) ?_
 refine Au 1 (sT [pR 1 0,(4,jI r0_9)] [(0,.var 25 (cv25 x))] 1 0) ?_
 refine RW.nil (hQ_2 _ ?_)
 refine Sa (sT [pR 1 0,(4,jI r0_9),(9,.d (.bool (decide (r0_9≠0))))] [(0,.var 25 (cv25 x))] 1 0) ?_
 refine AW.cond rfl (fun hb_4=>?_) (fun hb_4=>?_)
 ·have h:=ifT hb_4 h
  refine Sa (sT [(2,.d (.bool false)),(3,jI r0_9)] [] 1 0) ?_
  obtain rfl:=Option.some.inj h
  exact rT hR_0 (.cons (.tmp rfl) (.cons (.tmp rfl) .nil))
 ·have h:=ifF hb_4 h
  refine AW.skip (hK_1 _ ?_)
  refine Sa (sT [pR 1 0,pR 5 1] [(1,.var 110 [.d (.nilFn)]),(0,.var 25 (cv25 x))] 2 0) ?_
  refine Sa (sT [pR 5 1] (y44 x) 2 0) ?_
  refine AW.srwK (fun Q_5 hQ_5=>?_)
  refine Au 1 (sT [(12,.clo 91 [] [.ptr 0 0,.ptr 1 0])] (y44 x) 2 0) ?_
  obtain ⟨r0_4,hx_6,h⟩:=bsome h
  refine RW.one fokW (r_callvE (zr:=[]) [0,1] trivial rfl (.clo _ _ _) (by kernel_rfl) rfl (k91 1000 ([]:(List HairHank)) x _ hx_6) ⟨rfl,rfl,trivial⟩ rfl rfl ⟨(.nil 4),.refl _,.refl _,trivial⟩ rfl rfl rfl (r_end ?_))
  refine Au 2 (sT [(2,.d (.bool r0_4)),(3,jI 0)] [] 2 0) ?_
  refine RW.nil (hQ_5 _ ?_)
  obtain rfl:=Option.some.inj h
  exact rT hR_0 (.cons (.tmp rfl) (.cons (.tmp rfl) .nil))
def g25 :Option Bool:=(g53).bind fun (r0_Hanks,r0_Horses,r0_Dark,r0_Near,r0_Match)=>(g15 (HairBook.mk r0_Hanks r0_Horses r0_Dark r0_Near r0_Match) 0 1 2).bind fun (r0_4,r1_5,r2_4)=>(g53).bind fun (r0_Hanks1,r0_Horses1,r0_Dark1,r0_Near1,r0_Match1)=>(g19 (HairBook.mk r0_Hanks1 r0_Horses1 r0_Dark1 r0_Near1 r0_Match1) [2,2,1,1]).bind fun (r0_2,r1_4)=>(g53).bind fun (r0_Hanks2,r0_Horses2,r0_Dark2,r0_Near2,r0_Match2)=>(g23 (HairBook.mk r0_Hanks2 r0_Horses2 r0_Dark2 r0_Near2 r0_Match2) [2,2,1,1]).bind fun (r0_2_1,r1_4_1)=>(g53).bind fun (r0_Hanks3,r0_Horses3,r0_Dark3,r0_Near3,r0_Match3)=>(g21 (HairBook.mk r0_Hanks3 r0_Horses3 r0_Dark3 r0_Near3 r0_Match3) [0,0,1,1] 0).bind fun (r0_2_2,r1_4_2)=>(g79).bind fun r0_1=>(g26 r0_1).bind fun (r0_3,r1_3)=>bindC ((bif (decide (r2_4≠0)) then (some true) else (bif (decide (r1_4≠0)) then (some true) else (bif (decide (r1_4_1≠0)) then (some true) else (bif (decide (r1_4_2≠0)) then (some true) else (bif (decide (r1_3≠0)) then (some true) else (bif (decide (r0_4≠0)) then (some true) else (bif (decide (r1_5≠2)) then (some true) else (bif (!r0_2) then (some true) else ((g44 10 13).bind fun r0=>bif (true != ((r0_2_1.Low==r0.Low)&&((r0_2_1.High==r0.High)&&true))) then (some true) else ((g44 0 1).bind fun r0_5=>bif (true != ((r0_2_2.Low==r0_5.Low)&&((r0_2_2.High==r0_5.High)&&true))) then (some true) else ((g28 r0_3 [2,2,0,0]).bind fun r0_6=>some (!r0_6)))))))))))).bind fun v=>bif v then (some (.brk false)) else (some (.next ())):Option (Ctl (Unit) (Bool))) fun _=>(g54).bind fun r0_7=>(g29 r0_7).bind fun (r0_2_3,r1_1)=>(g54).bind fun r0_8=>(g31 r0_8 6).bind fun (r0_5_1,r1_6)=>(g54).bind fun r0_9=>(g33 r0_9).bind fun (r0_1_1,r1_1_1)=>(bif (((decide (r1_1=0))&&(decide (r1_6=0)))&&(decide (r1_1_1=0))) then ((g28 r0_2_3 [0]).bind fun r0_10=>some r0_10) else (some false)).bind fun v1=>some ((v1&&(decide (r0_5_1=3)))&&r0_1_1)
theorem k25  (r:Bool) (h:g25=some r):SCall Tryd.prog Gs 25 [] [] 0 Fr.emp (.d (.bool r)) [] 0 Fr.emp:=by
 unfold g25 at h
 refine SCall.mkK Tryd.func25 c25 rfl rfl (by kernel_rfl) (fun Q_0 hR_0 hN_0=>?_)
 refine Sa (sT [] [] 0 0) ?_
 refine AW.srwK (fun Q_1 hQ_1=>?_)
 obtain ⟨⟨r0_Hanks,r0_Horses,r0_Dark,r0_Near,r0_Match⟩,hx_2,h⟩:=bsome h
 refine RW.one fokW (r_callS (zr:=[]) [] trivial rfl (k53 _ hx_2) trivial rfl rfl trivial rfl rfl rfl (r_end ?_))
 obtain ⟨⟨r0_4,r1_5,r2_4⟩,hx_3,h⟩:=bsome h
 refine RW.one fokW (r_callF (rs:=[(1,.row 58 4 (List.map e58 r0_Hanks)),(2,.row 69 3 (List.map e69 r0_Horses))]) trivial rfl (k15 (HairBook.mk r0_Hanks r0_Horses r0_Dark r0_Near r0_Match) 0 1 2 _ hx_3) ⟨rfl,rfl,trivial⟩ ⟨(Frz.agg_of ⟨(.own rfl rfl),(.own rfl rfl),.refl _,.refl _,.refl _,trivial⟩),.refl _,.refl _,.refl _,trivial⟩ rfl rfl rfl (r_end ?_))
 refine Au 7 (sT [(1,jI r0_4),(2,jI r1_5),(3,jI r2_4)] [] 3 0) ?_
 refine RW.nil (hQ_1 _ ?_)
 refine AW.srwK (fun Q_4 hQ_4=>?_)
 obtain ⟨⟨r0_Hanks1,r0_Horses1,r0_Dark1,r0_Near1,r0_Match1⟩,hx_5,h⟩:=bsome h
 refine RW.one fokW (r_callS (zr:=[]) [] trivial rfl (k53 _ hx_5) trivial rfl rfl trivial rfl rfl rfl (r_end ?_))
 refine Au 1 (sT [(1,jI r0_4),(2,jI r1_5),(3,jI r2_4),(22,.agg [.own 4 (List.map e58 r0_Hanks1).length,.own 5 (List.map e69 r0_Horses1).length,jI r0_Dark1,jI r0_Near1,jI r0_Match1]),(23,.own 6 (List.map e3 [2,2,1,1]).length)] [(6,.row 3 1 (List.map e3 [2,2,1,1])),(4,.row 58 4 (List.map e58 r0_Hanks1)),(5,.row 69 3 (List.map e69 r0_Horses1))] 7 0) ?_
 obtain ⟨⟨r0_2,r1_4⟩,hx_6,h⟩:=bsome h
 refine RW.one fokW (r_callF (rs:=[(4,.row 58 4 (List.map e58 r0_Hanks1)),(5,.row 69 3 (List.map e69 r0_Horses1)),(6,.row 3 1 (List.map e3 [2,2,1,1]))]) trivial rfl (k19 (HairBook.mk r0_Hanks1 r0_Horses1 r0_Dark1 r0_Near1 r0_Match1) [2,2,1,1] _ hx_6) ⟨rfl,rfl,rfl,trivial⟩ ⟨(Frz.agg_of ⟨(.own rfl rfl),(.own rfl rfl),.refl _,.refl _,.refl _,trivial⟩),(.own rfl rfl),trivial⟩ rfl rfl rfl (r_end ?_))
 refine Au 5 (sT [(1,jI r0_4),(2,jI r1_5),(3,jI r2_4),(4,.d (.bool r0_2)),(5,jI r1_4)] [] 7 0) ?_
 refine RW.nil (hQ_4 _ ?_)
 refine AW.srwK (fun Q_7 hQ_7=>?_)
 obtain ⟨⟨r0_Hanks2,r0_Horses2,r0_Dark2,r0_Near2,r0_Match2⟩,hx_8,h⟩:=bsome h
 refine RW.one fokW (r_callS (zr:=[]) [] trivial rfl (k53 _ hx_8) trivial rfl rfl trivial rfl rfl rfl (r_end ?_))
 refine Au 1 (sT [(1,jI r0_4),(2,jI r1_5),(3,jI r2_4),(4,.d (.bool r0_2)),(5,jI r1_4),(28,.agg [.own 8 (List.map e58 r0_Hanks2).length,.own 9 (List.map e69 r0_Horses2).length,jI r0_Dark2,jI r0_Near2,jI r0_Match2]),(29,.own 10 (List.map e3 [2,2,1,1]).length)] [(10,.row 3 1 (List.map e3 [2,2,1,1])),(8,.row 58 4 (List.map e58 r0_Hanks2)),(9,.row 69 3 (List.map e69 r0_Horses2))] 11 0) ?_
 obtain ⟨⟨r0_2_1,r1_4_1⟩,hx_9,h⟩:=bsome h
 refine RW.one fokW (r_callF (rs:=[(8,.row 58 4 (List.map e58 r0_Hanks2)),(9,.row 69 3 (List.map e69 r0_Horses2)),(10,.row 3 1 (List.map e3 [2,2,1,1]))]) trivial rfl (k23 (HairBook.mk r0_Hanks2 r0_Horses2 r0_Dark2 r0_Near2 r0_Match2) [2,2,1,1] _ hx_9) ⟨rfl,rfl,rfl,trivial⟩ ⟨(Frz.agg_of ⟨(.own rfl rfl),(.own rfl rfl),.refl _,.refl _,.refl _,trivial⟩),(.own rfl rfl),trivial⟩ rfl rfl rfl (r_end ?_))
 refine Au 6 (sT [(1,jI r0_4),(2,jI r1_5),(3,jI r2_4),(4,.d (.bool r0_2)),(5,jI r1_4),pR 6 11,(7,jI r1_4_1)] [(11,.var 35 [jI r0_2_1.Low,jI r0_2_1.High])] 12 0) ?_
 refine RW.nil (hQ_7 _ ?_)
 refine AW.srwK (fun Q_10 hQ_10=>?_)
 obtain ⟨⟨r0_Hanks3,r0_Horses3,r0_Dark3,r0_Near3,r0_Match3⟩,hx_11,h⟩:=bsome h
 refine RW.one fokW (r_callS (zr:=[]) [] trivial rfl (k53 _ hx_11) trivial rfl rfl trivial rfl rfl rfl (r_end ?_))
 refine Au 1 (sT [(1,jI r0_4),(2,jI r1_5),(3,jI r2_4),(4,.d (.bool r0_2)),(5,jI r1_4),pR 6 11,(7,jI r1_4_1),(34,.agg [.own 13 (List.map e58 r0_Hanks3).length,.own 14 (List.map e69 r0_Horses3).length,jI r0_Dark3,jI r0_Near3,jI r0_Match3]),(35,.own 15 (List.map e3 [0,0,1,1]).length)] [(15,.row 3 1 (List.map e3 [0,0,1,1])),(13,.row 58 4 (List.map e58 r0_Hanks3)),(14,.row 69 3 (List.map e69 r0_Horses3)),(11,.var 35 [jI r0_2_1.Low,jI r0_2_1.High])] 16 0) ?_
 obtain ⟨⟨r0_2_2,r1_4_2⟩,hx_12,h⟩:=bsome h
 refine RW.one fokW (r_callF (rs:=[(13,.row 58 4 (List.map e58 r0_Hanks3)),(14,.row 69 3 (List.map e69 r0_Horses3)),(15,.row 3 1 (List.map e3 [0,0,1,1]))]) trivial rfl (k21 (HairBook.mk r0_Hanks3 r0_Horses3 r0_Dark3 r0_Near3 r0_Match3) [0,0,1,1] 0 _ hx_12) ⟨rfl,rfl,rfl,trivial⟩ ⟨(Frz.agg_of ⟨(.own rfl rfl),(.own rfl rfl),.refl _,.refl _,.refl _,trivial⟩),(.own rfl rfl),.refl _,trivial⟩ rfl rfl rfl (r_end ?_))
 refine Au 6 (sT [(1,jI r0_4),(2,jI r1_5),(3,jI r2_4),(4,.d (.bool r0_2)),(5,jI r1_4),pR 6 11,(7,jI r1_4_1),pR 8 16,(9,jI r1_4_2)] [(16,.var 35 [jI r0_2_2.Low,jI r0_2_2.High]),(11,.var 35 [jI r0_2_1.Low,jI r0_2_1.High])] 17 0) ?_
 refine RW.nil (hQ_10 _ ?_)
 refine AW.srwK (fun Q_13 hQ_13=>?_)
 obtain ⟨r0_1,hx_14,h⟩:=bsome h
 refine rC (k79 _ hx_14) ?_
 obtain ⟨⟨r0_3,r1_3⟩,hx_15,h⟩:=bsome h
 refine rC (k26 r0_1 _ hx_15) ?_
 refine Au 5 (sT [(1,jI r0_4),(2,jI r1_5),(3,jI r2_4),(4,.d (.bool r0_2)),(5,jI r1_4),pR 6 11,(7,jI r1_4_1),pR 8 16,(9,jI r1_4_2),(10,.d (q1 r0_3)),(11,jI r1_3)] [(16,.var 35 [jI r0_2_2.Low,jI r0_2_2.High]),(11,.var 35 [jI r0_2_1.Low,jI r0_2_1.High])] 17 0) ?_
 refine RW.nil (hQ_13 _ ?_)
 obtain ⟨c_16,hx_16,hk_16⟩:=bsomeC h
 refine AW.jnK (fun (_:Unit)=>(sT [] [] 17 0)) (c:=c_16) (fun K_16 hK_16=>?_) (fun j_16 hj_16=>?_)
 ·have h:=hx_16
  obtain ⟨v,hx_17,h⟩:=bsome h
  refine AW.jnSK (fun (v:Bool)=>(sT [(89,.d (.bool v))] [] 17 0)) (c:=v) (fun K_17 hK_17=>?_) ?_
  ·have h:=hx_17
   refine AW.drw fokW ?_
   refine aX 3 (sT [(1,jI r0_4),(2,jI r1_5),(4,.d (.bool r0_2)),(5,jI r1_4),pR 6 11,(7,jI r1_4_1),pR 8 16,(9,jI r1_4_2),(10,.d (q1 r0_3)),(11,jI r1_3),(46,.d (.bool (decide (r2_4≠0))))] [(16,.var 35 [jI r0_2_2.Low,jI r0_2_2.High]),(11,.var 35 [jI r0_2_1.Low,jI r0_2_1.High])] 17 0) ?_
   refine r_split 46 rfl (fun hb_19=>?_) (fun hb_19=>?_)
   ·have h:=ifT hb_19 h
    refine aX 43 (sT [(89,.d (.bool true))] [(16,.var 35 [jI r0_2_2.Low,jI r0_2_2.High]),(11,.var 35 [jI r0_2_1.Low,jI r0_2_1.High])] 17 0) ?_
    refine Fi (sT [(89,.d (.bool true))] [] 17 0) ?_
    obtain rfl:=Option.some.inj h
    exact hK_17 _ (Can.kp (by kernel_rfl))
   ·have h:=ifF hb_19 h
    refine aX 4 (sT [(1,jI r0_4),(2,jI r1_5),(4,.d (.bool r0_2)),pR 6 11,(7,jI r1_4_1),pR 8 16,(9,jI r1_4_2),(10,.d (q1 r0_3)),(11,jI r1_3),(50,.d (.bool (decide (r1_4≠0))))] [(16,.var 35 [jI r0_2_2.Low,jI r0_2_2.High]),(11,.var 35 [jI r0_2_1.Low,jI r0_2_1.High])] 17 0) ?_
    refine r_split 50 rfl (fun hb_20=>?_) (fun hb_20=>?_)
    ·have h:=ifT hb_20 h
     refine aX 39 (sT [(89,.d (.bool true))] [(16,.var 35 [jI r0_2_2.Low,jI r0_2_2.High]),(11,.var 35 [jI r0_2_1.Low,jI r0_2_1.High])] 17 0) ?_
     refine Fi (sT [(89,.d (.bool true))] [] 17 0) ?_
     obtain rfl:=Option.some.inj h
     exact hK_17 _ (Can.kp (by kernel_rfl))
    ·have h:=ifF hb_20 h
     refine aX 4 (sT [(1,jI r0_4),(2,jI r1_5),(4,.d (.bool r0_2)),pR 6 11,pR 8 16,(9,jI r1_4_2),(10,.d (q1 r0_3)),(11,jI r1_3),(54,.d (.bool (decide (r1_4_1≠0))))] [(16,.var 35 [jI r0_2_2.Low,jI r0_2_2.High]),(11,.var 35 [jI r0_2_1.Low,jI r0_2_1.High])] 17 0) ?_
     refine r_split 54 rfl (fun hb_21=>?_) (fun hb_21=>?_)
     ·have h:=ifT hb_21 h
      refine aX 35 (sT [(89,.d (.bool true))] [(16,.var 35 [jI r0_2_2.Low,jI r0_2_2.High]),(11,.var 35 [jI r0_2_1.Low,jI r0_2_1.High])] 17 0) ?_
      refine Fi (sT [(89,.d (.bool true))] [] 17 0) ?_
      obtain rfl:=Option.some.inj h
      exact hK_17 _ (Can.kp (by kernel_rfl))
     ·have h:=ifF hb_21 h
      refine aX 4 (sT [(1,jI r0_4),(2,jI r1_5),(4,.d (.bool r0_2)),pR 6 11,pR 8 16,(10,.d (q1 r0_3)),(11,jI r1_3),(58,.d (.bool (decide (r1_4_2≠0))))] [(16,.var 35 [jI r0_2_2.Low,jI r0_2_2.High]),(11,.var 35 [jI r0_2_1.Low,jI r0_2_1.High])] 17 0) ?_
      refine r_split 58 rfl (fun hb_22=>?_) (fun hb_22=>?_)
      ·have h:=ifT hb_22 h
       refine aX 31 (sT [(89,.d (.bool true))] [(16,.var 35 [jI r0_2_2.Low,jI r0_2_2.High]),(11,.var 35 [jI r0_2_1.Low,jI r0_2_1.High])] 17 0) ?_
       refine Fi (sT [(89,.d (.bool true))] [] 17 0) ?_
       obtain rfl:=Option.some.inj h
       exact hK_17 _ (Can.kp (by kernel_rfl))
      ·have h:=ifF hb_22 h
       refine aX 4 (sT [(1,jI r0_4),(2,jI r1_5),(4,.d (.bool r0_2)),pR 6 11,pR 8 16,(10,.d (q1 r0_3)),(62,.d (.bool (decide (r1_3≠0))))] [(16,.var 35 [jI r0_2_2.Low,jI r0_2_2.High]),(11,.var 35 [jI r0_2_1.Low,jI r0_2_1.High])] 17 0) ?_
       refine r_split 62 rfl (fun hb_23=>?_) (fun hb_23=>?_)
       ·have h:=ifT hb_23 h
        refine aX 27 (sT [(89,.d (.bool true))] [(16,.var 35 [jI r0_2_2.Low,jI r0_2_2.High]),(11,.var 35 [jI r0_2_1.Low,jI r0_2_1.High])] 17 0) ?_
        refine Fi (sT [(89,.d (.bool true))] [] 17 0) ?_
        obtain rfl:=Option.some.inj h
        exact hK_17 _ (Can.kp (by kernel_rfl))
       ·have h:=ifF hb_23 h
        refine aX 4 (sT [(2,jI r1_5),(4,.d (.bool r0_2)),pR 6 11,pR 8 16,(10,.d (q1 r0_3)),(66,.d (.bool (decide (r0_4≠0))))] [(16,.var 35 [jI r0_2_2.Low,jI r0_2_2.High]),(11,.var 35 [jI r0_2_1.Low,jI r0_2_1.High])] 17 0) ?_
        refine r_split 66 rfl (fun hb_24=>?_) (fun hb_24=>?_)
        ·have h:=ifT hb_24 h
         refine aX 23 (sT [(89,.d (.bool true))] [(16,.var 35 [jI r0_2_2.Low,jI r0_2_2.High]),(11,.var 35 [jI r0_2_1.Low,jI r0_2_1.High])] 17 0) ?_
         refine Fi (sT [(89,.d (.bool true))] [] 17 0) ?_
         obtain rfl:=Option.some.inj h
         exact hK_17 _ (Can.kp (by kernel_rfl))
        ·have h:=ifF hb_24 h
         refine aX 4 (sT [(4,.d (.bool r0_2)),pR 6 11,pR 8 16,(10,.d (q1 r0_3)),(70,.d (.bool (decide (r1_5≠2))))] [(16,.var 35 [jI r0_2_2.Low,jI r0_2_2.High]),(11,.var 35 [jI r0_2_1.Low,jI r0_2_1.High])] 17 0) ?_
         refine r_split 70 rfl (fun hb_25=>?_) (fun hb_25=>?_)
         ·have h:=ifT hb_25 h
          refine aX 19 (sT [(89,.d (.bool true))] [(16,.var 35 [jI r0_2_2.Low,jI r0_2_2.High]),(11,.var 35 [jI r0_2_1.Low,jI r0_2_1.High])] 17 0) ?_
          refine Fi (sT [(89,.d (.bool true))] [] 17 0) ?_
          obtain rfl:=Option.some.inj h
          exact hK_17 _ (Can.kp (by kernel_rfl))
         ·have h:=ifF hb_25 h
          refine aX 4 (sT [pR 6 11,pR 8 16,(10,.d (q1 r0_3)),(74,.d (.bool (!r0_2)))] [(16,.var 35 [jI r0_2_2.Low,jI r0_2_2.High]),(11,.var 35 [jI r0_2_1.Low,jI r0_2_1.High])] 17 0) ?_
          refine r_split 74 rfl (fun hb_26=>?_) (fun hb_26=>?_)
          ·have h:=ifT hb_26 h
           refine aX 15 (sT [(89,.d (.bool true))] [(16,.var 35 [jI r0_2_2.Low,jI r0_2_2.High]),(11,.var 35 [jI r0_2_1.Low,jI r0_2_1.High])] 17 0) ?_
           refine Fi (sT [(89,.d (.bool true))] [] 17 0) ?_
           obtain rfl:=Option.some.inj h
           exact hK_17 _ (Can.kp (by kernel_rfl))
          ·have h:=ifF hb_26 h
           refine aX 1 (sT [pR 8 16,(10,.d (q1 r0_3)),(74,.d (.bool false)),(75,.agg [jI r0_2_1.Low,jI r0_2_1.High])] [(16,.var 35 [jI r0_2_2.Low,jI r0_2_2.High]),(11,.var 35 [jI r0_2_1.Low,jI r0_2_1.High])] 17 0) ?_
           obtain ⟨r0,hx_27,h⟩:=bsome h
           refine r_call rfl rfl (k44 10 13 _ hx_27) rfl rfl ?_
           refine r_aeq rfl rfl rfl rfl rfl ft35 rfl rfl rfl ?_
           refine aX 2 (sT [pR 8 16,(10,.d (q1 r0_3)),(79,.d (.bool (true != ((r0_2_1.Low==r0.Low)&&((r0_2_1.High==r0.High)&&true)))))] [(16,.var 35 [jI r0_2_2.Low,jI r0_2_2.High]),(11,.var 35 [jI r0_2_1.Low,jI r0_2_1.High])] 17 0) ?_
           refine r_split 79 rfl (fun hb_28=>?_) (fun hb_28=>?_)
           ·have h:=ifT hb_28 h
            refine aX 10 (sT [(89,.d (.bool true))] [(16,.var 35 [jI r0_2_2.Low,jI r0_2_2.High]),(11,.var 35 [jI r0_2_1.Low,jI r0_2_1.High])] 17 0) ?_
            refine Fi (sT [(89,.d (.bool true))] [] 17 0) ?_
            obtain rfl:=Option.some.inj h
            exact hK_17 _ (Can.kp (by kernel_rfl))
           ·have h:=ifF hb_28 h
            refine aX 1 (sT [(10,.d (q1 r0_3)),(79,.d (.bool false)),(80,.agg [jI r0_2_2.Low,jI r0_2_2.High])] [(16,.var 35 [jI r0_2_2.Low,jI r0_2_2.High]),(11,.var 35 [jI r0_2_1.Low,jI r0_2_1.High])] 17 0) ?_
            obtain ⟨r0_5,hx_29,h⟩:=bsome h
            refine r_call rfl rfl (k44 0 1 _ hx_29) rfl rfl ?_
            refine r_aeq rfl rfl rfl rfl rfl ft35 rfl rfl rfl ?_
            refine aX 2 (sT [(10,.d (q1 r0_3)),(84,.d (.bool (true != ((r0_2_2.Low==r0_5.Low)&&((r0_2_2.High==r0_5.High)&&true)))))] [(16,.var 35 [jI r0_2_2.Low,jI r0_2_2.High]),(11,.var 35 [jI r0_2_1.Low,jI r0_2_1.High])] 17 0) ?_
            refine r_split 84 rfl (fun hb_30=>?_) (fun hb_30=>?_)
            ·have h:=ifT hb_30 h
             refine aX 5 (sT [(89,.d (.bool true))] [(16,.var 35 [jI r0_2_2.Low,jI r0_2_2.High]),(11,.var 35 [jI r0_2_1.Low,jI r0_2_1.High])] 17 0) ?_
             refine Fi (sT [(89,.d (.bool true))] [] 17 0) ?_
             obtain rfl:=Option.some.inj h
             exact hK_17 _ (Can.kp (by kernel_rfl))
            ·have h:=ifF hb_30 h
             refine aX 2 (sT [(84,.d (.bool false)),(85,.d (q1 r0_3)),(86,.own 17 (List.map e3 [2,2,0,0]).length)] [(17,.row 3 1 (List.map e3 [2,2,0,0])),(16,.var 35 [jI r0_2_2.Low,jI r0_2_2.High]),(11,.var 35 [jI r0_2_1.Low,jI r0_2_1.High])] 18 0) ?_
             obtain ⟨r0_6,hx_31,h⟩:=bsome h
             refine r_callF (rs:=[(17,.row 3 1 (List.map e3 [2,2,0,0]))]) rfl rfl (k28 r0_3 [2,2,0,0] _ hx_31) ⟨rfl,trivial⟩ ⟨.refl _,(.own rfl rfl),trivial⟩ rfl rfl rfl ?_
             refine aX 2 (sT [(89,.d (.bool (!r0_6)))] [(17,.row 3 1 (List.map e3 [2,2,0,0])),(16,.var 35 [jI r0_2_2.Low,jI r0_2_2.High]),(11,.var 35 [jI r0_2_1.Low,jI r0_2_1.High])] 18 0) ?_
             refine Fi (sT [(89,.d (.bool (!r0_6)))] [] 18 0) ?_
             obtain rfl:=Option.some.inj h
             exact hK_17 _ (Can.kp (by kernel_rfl))
  ·refine AW.cond rfl (fun hb_32=>?_) (fun hb_32=>?_)
   ·have h:=ifT hb_32 h
    refine Sa (sT [(0,.d (.bool false))] [] 17 0) ?_
    obtain rfl:=Option.some.inj h
    obtain rfl:=Aft.bk hk_16
    exact rT hR_0 (.cons (.tmp rfl) .nil)
   ·have h:=ifF hb_32 h
    refine AW.skip ?_
    obtain rfl:=Option.some.inj h
    exact hK_16 _ _ rfl (Can.kp (by kernel_rfl))
 ·subst hj_16
  have h:=Aft.nx hk_16
  refine AW.srwK (fun Q_33 hQ_33=>?_)
  obtain ⟨r0_7,hx_34,h⟩:=bsome h
  refine rC (k54 _ hx_34) ?_
  obtain ⟨⟨r0_2_3,r1_1⟩,hx_35,h⟩:=bsome h
  refine rC (k29 r0_7 _ hx_35) ?_
  refine Au 5 (sT [(3,jI r1_1),(12,.d (q1 r0_2_3))] [] 17 0) ?_
  refine RW.nil (hQ_33 _ ?_)
  refine AW.srwK (fun Q_36 hQ_36=>?_)
  obtain ⟨r0_8,hx_37,h⟩:=bsome h
  refine rC (k54 _ hx_37) ?_
  obtain ⟨⟨r0_5_1,r1_6⟩,hx_38,h⟩:=bsome h
  refine rC (k31 r0_8 6 _ hx_38) ?_
  refine Au 5 (sT [(3,jI r1_1),(5,jI r1_6),(12,.d (q1 r0_2_3)),(13,jI r0_5_1)] [] 17 0) ?_
  refine RW.nil (hQ_36 _ ?_)
  refine AW.srwK (fun Q_39 hQ_39=>?_)
  obtain ⟨r0_9,hx_40,h⟩:=bsome h
  refine rC (k54 _ hx_40) ?_
  obtain ⟨⟨r0_1_1,r1_1_1⟩,hx_41,h⟩:=bsome h
  refine rC (k33 r0_9 _ hx_41) ?_
  refine Au 5 (sT [(3,jI r1_1),(5,jI r1_6),(7,jI r1_1_1),(12,.d (q1 r0_2_3)),(13,jI r0_5_1),(14,.d (.bool r0_1_1))] [] 17 0) ?_
  refine RW.nil (hQ_39 _ ?_)
  refine AW.srwK (fun Q_42 hQ_42=>?_)
  refine RW.au fokW 11 [107,111] (sT [(12,.d (q1 r0_2_3)),(13,jI r0_5_1),(14,.d (.bool r0_1_1)),(115,.d (.bool (((decide (r1_1=0))&&(decide (r1_6=0)))&&(decide (r1_1_1=0)))))] [] 17 0) (by kernel_rfl) ?_
  obtain ⟨v1,hx_43,h⟩:=bsome h
  refine RW.cut fokW 4 ((sT [(13,jI r0_5_1),(14,.d (.bool r0_1_1)),(119,.d (.bool v1))] [] 17 0)) ?_ ?_
  ·refine r_split 115 rfl (fun hb_45=>?_) (fun hb_45=>?_)
   ·have h:=ifT hb_45 hx_43
    refine aX 2 (sT [(13,jI r0_5_1),(14,.d (.bool r0_1_1)),(115,.d (.bool true)),(116,.d (q1 r0_2_3)),(117,.own 17 (List.map e3 [0]).length)] [(17,.row 3 1 (List.map e3 [0]))] 18 0) ?_
    obtain ⟨r0_10,hx_44,h⟩:=bsome h
    refine r_callF (rs:=[(17,.row 3 1 (List.map e3 [0]))]) rfl rfl (k28 r0_2_3 [0] _ hx_44) ⟨rfl,trivial⟩ ⟨.refl _,(.own rfl rfl),trivial⟩ rfl rfl rfl ?_
    refine aX 1 (sT [(13,jI r0_5_1),(14,.d (.bool r0_1_1)),(119,.d (.bool r0_10))] [(17,.row 3 1 (List.map e3 [0]))] 18 0) ?_
    obtain rfl:=Option.some.inj h
    refine RunC.finJ (Can.kp (by kernel_rfl))
   ·have h:=ifF hb_45 hx_43
    refine aX 4 (sT [(13,jI r0_5_1),(14,.d (.bool r0_1_1)),(119,.d (.bool false))] [] 17 0) ?_
    obtain rfl:=Option.some.inj h
    refine RunC.finJ (Can.kp (by kernel_rfl))
  ·refine RW.au fokW 8 [120,124] (sT [(0,.d (.bool ((v1&&(decide (r0_5_1=3)))&&r0_1_1)))] [] 17 0) (by kernel_rfl) ?_
   refine RW.nil (hQ_42 _ ?_)
   obtain rfl:=Option.some.inj h
   exact rT hR_0 (.cons (.tmp rfl) .nil)
end Go.Proofs.Th
namespace Go.Proofs.Th
open Go Go.Abs Go.Proofs
def g97 (set_:Int) (n:Int):Option Bool:=(must (decide (0≤n))).bind fun _=>some (decide ((bAnd (shr64 set_ n) 1)=1))
def g48_2 (set_:Int):Int→(List Int)→Option (List Int):=fun n l=>(g97 set_ n).bind fun r0=>bif r0 then ((appL 8 l [n]).bind fun l1=>some l1) else (some l)
def g48 (set_:Int) (below:Int):Option (List Int):=(must (decide (below≤9223372036854775807))).bind fun _=>(forS (g48_2 set_) (((below:Int) - 0).toNat) 0 ([]:List Int)).bind fun l=>some l
def g45_3 (l:(List Int)) (m:(List Int)):Int→Option (Ctl (Int) (Ctl (Unit) (Ctl (Unit) (Bool)))):=fun  i=>(bif (decide (i<(l.length:Int))) then (some (decide (i<(m.length:Int)))) else (some false)).bind fun v=>bif v then ((ixL l i).bind fun p=>(ixL m i).bind fun p1=>bif (decide (p≠p1)) then (some (.brk (.brk (.brk (decide (p<p1)))))) else (some (.next (wr (i+1))))) else (some (.brk (.next ())))
def g45 (l:(List Int)) (m:(List Int)):Option Bool:=bindC (bindC (whileC (g45_3 l m) 1000 0:Option (Ctl (Unit) (Ctl (Unit) (Bool)))) fun _=>some (.next ()):Option (Ctl (Unit) (Bool))) fun _=>some (decide ((l.length:Int)<(m.length:Int)))
def g49 (l:(List Int)) (m:(List Int)):Option Bool:=bif (decide ((l.length:Int)≠(m.length:Int))) then (some (decide ((l.length:Int)<(m.length:Int)))) else ((g45 l m).bind fun r0_1=>some r0_1)
end Go.Proofs.Th
namespace Go.Proofs.Th
open Go Go.Abs Go.Proofs
def g35_18 (b:HairBook):(Bool×Int)→Option (Ctl (Bool×Int) (Bool)):=fun  (ok2,i)=>(bif ok2 then (some (decide (i<(b.Hanks.length:Int)))) else (some false)).bind fun v5=>bif v5 then ((ixL b.Hanks i).bind fun p=>(g64 p.Weight 1 60).bind fun r0_3=>(bif r0_3 then ((g64 p.Shade 0 20).bind fun r0_4=>some r0_4) else (some false)).bind fun v6=>some (.next (v6,(wr (i+1))))) else (some (.brk ok2))
def g35_33 (b:HairBook):(Bool×Int)→Option (Ctl (Bool×Int) (Bool)):=fun  (ok5,i1)=>(bif ok5 then (some (decide (i1<(b.Horses.length:Int)))) else (some false)).bind fun v7=>bif v7 then ((ixL b.Horses i1).bind fun p1=>(g50 p1.Mane 1 30).bind fun r0_5=>(bif r0_5 then ((g50 p1.Tail 1 30).bind fun r0_6=>some r0_6) else (some false)).bind fun v8=>some (.next (v8,(wr (i1+1))))) else (some (.brk ok5))
def g35 (b:HairBook):Option Bool:=(g17 b).bind fun r0_9=>(bif (decide (r0_9=0)) then (some (decide ((b.Hanks.length:Int)≤4))) else (some false)).bind fun v=>(bif v then (some (decide ((b.Horses.length:Int)≤3))) else (some false)).bind fun v1=>(bif v1 then ((g50 b.Dark 0 4).bind fun r0=>some r0) else (some false)).bind fun v2=>(bif v2 then ((g50 b.Near 0 3).bind fun r0_1=>some r0_1) else (some false)).bind fun v3=>(bif v3 then ((g50 b.Match 0 3).bind fun r0_2=>some r0_2) else (some false)).bind fun v4=>((whileC (g35_18 b) 1000 (v4,0)).bind fun ok1=>some ok1).bind fun ok=>((whileC (g35_33 b) 1000 (ok,0)).bind fun ok4=>some ok4).bind fun ok3=>some ok3
theorem k35 (b:HairBook) (r:Bool) (h:g35 b=some r):SCall Tryd.prog Gs 35 [.agg (cv25 b)] [] 0 Fr.emp (.d (.bool r)) [] 0 Fr.emp:=by
 unfold g35 at h
 refine SCall.mkK Tryd.func35 c35 rfl rfl (by kernel_rfl) (fun Q_0 hR_0 hN_0=>?_)
 refine Sa (sT [pR 1 0] [(0,.var 25 (cv25 b))] 1 0) ?_
 refine AW.srwK (fun Q_1 hQ_1=>?_)
 refine Au 1 (sT [pR 1 0,(7,.agg (cv25 b))] [(0,.var 25 (cv25 b))] 1 0) ?_
 obtain ⟨r0_9,hx_2,h⟩:=bsome h
 refine rC (k17 b _ hx_2) ?_
 refine Au 2 (sT [pR 1 0,(10,.d (.bool (decide (r0_9=0))))] [(0,.var 25 (cv25 b))] 1 0) ?_
 obtain ⟨v,hx_3,h⟩:=bsome h
 refine RW.cut fokW 5 ((sT [pR 1 0,(15,.d (.bool v))] [(0,.var 25 (cv25 b))] 1 0)) ?_ ?_
 ·refine r_split 10 rfl (fun hb_4=>?_) (fun hb_4=>?_)
  ·have h:=ifT hb_4 hx_3
   refine aX 2 (sT [pR 1 0,(10,.d (.bool true)),(12,.d (.sl 4 (List.map e58 b.Hanks)))] [(0,.var 25 (cv25 b))] 1 0) ?_
   refine r_lenX rfl rfl lenm ?_
   refine aX 2 (sT [pR 1 0,(15,.d (.bool (decide ((b.Hanks.length:Int)≤4))))] [(0,.var 25 (cv25 b))] 1 0) ?_
   obtain rfl:=Option.some.inj h
   refine RunC.finJ (Can.kp (by kernel_rfl))
  ·have h:=ifF hb_4 hx_3
   refine aX 5 (sT [pR 1 0,(15,.d (.bool false))] [(0,.var 25 (cv25 b))] 1 0) ?_
   obtain rfl:=Option.some.inj h
   refine RunC.finJ (Can.kp (by kernel_rfl))
 ·refine Au 1 (sT [pR 1 0,(16,.d (.bool v))] [(0,.var 25 (cv25 b))] 1 0) ?_
  obtain ⟨v1,hx_5,h⟩:=bsome h
  refine RW.cut fokW 5 ((sT [pR 1 0,(21,.d (.bool v1))] [(0,.var 25 (cv25 b))] 1 0)) ?_ ?_
  ·refine r_split 16 rfl (fun hb_6=>?_) (fun hb_6=>?_)
   ·have h:=ifT hb_6 hx_5
    refine aX 2 (sT [pR 1 0,(16,.d (.bool true)),(18,.d (.sl 3 (List.map e69 b.Horses)))] [(0,.var 25 (cv25 b))] 1 0) ?_
    refine r_lenX rfl rfl lenm ?_
    refine aX 2 (sT [pR 1 0,(21,.d (.bool (decide ((b.Horses.length:Int)≤3))))] [(0,.var 25 (cv25 b))] 1 0) ?_
    obtain rfl:=Option.some.inj h
    refine RunC.finJ (Can.kp (by kernel_rfl))
   ·have h:=ifF hb_6 hx_5
    refine aX 5 (sT [pR 1 0,(21,.d (.bool false))] [(0,.var 25 (cv25 b))] 1 0) ?_
    obtain rfl:=Option.some.inj h
    refine RunC.finJ (Can.kp (by kernel_rfl))
  ·refine Au 1 (sT [pR 1 0,(22,.d (.bool v1))] [(0,.var 25 (cv25 b))] 1 0) ?_
   obtain ⟨v2,hx_7,h⟩:=bsome h
   refine RW.cut fokW 4 ((sT [pR 1 0,(26,.d (.bool v2))] [(0,.var 25 (cv25 b))] 1 0)) ?_ ?_
   ·refine r_split 22 rfl (fun hb_9=>?_) (fun hb_9=>?_)
    ·have h:=ifT hb_9 hx_7
     refine aX 2 (sT [pR 1 0,(22,.d (.bool true)),(24,jI b.Dark)] [(0,.var 25 (cv25 b))] 1 0) ?_
     obtain ⟨r0,hx_8,h⟩:=bsome h
     refine r_call rfl rfl (k50 b.Dark 0 4 _ hx_8) rfl rfl ?_
     refine aX 1 (sT [pR 1 0,(26,.d (.bool r0))] [(0,.var 25 (cv25 b))] 1 0) ?_
     obtain rfl:=Option.some.inj h
     refine RunC.finJ (Can.kp (by kernel_rfl))
    ·have h:=ifF hb_9 hx_7
     refine aX 4 (sT [pR 1 0,(26,.d (.bool false))] [(0,.var 25 (cv25 b))] 1 0) ?_
     obtain rfl:=Option.some.inj h
     refine RunC.finJ (Can.kp (by kernel_rfl))
   ·refine Au 1 (sT [pR 1 0,(27,.d (.bool v2))] [(0,.var 25 (cv25 b))] 1 0) ?_
    obtain ⟨v3,hx_10,h⟩:=bsome h
    refine RW.cut fokW 4 ((sT [pR 1 0,(31,.d (.bool v3))] [(0,.var 25 (cv25 b))] 1 0)) ?_ ?_
    ·refine r_split 27 rfl (fun hb_12=>?_) (fun hb_12=>?_)
     ·have h:=ifT hb_12 hx_10
      refine aX 2 (sT [pR 1 0,(27,.d (.bool true)),(29,jI b.Near)] [(0,.var 25 (cv25 b))] 1 0) ?_
      obtain ⟨r0_1,hx_11,h⟩:=bsome h
      refine r_call rfl rfl (k50 b.Near 0 3 _ hx_11) rfl rfl ?_
      refine aX 1 (sT [pR 1 0,(31,.d (.bool r0_1))] [(0,.var 25 (cv25 b))] 1 0) ?_
      obtain rfl:=Option.some.inj h
      refine RunC.finJ (Can.kp (by kernel_rfl))
     ·have h:=ifF hb_12 hx_10
      refine aX 4 (sT [pR 1 0,(31,.d (.bool false))] [(0,.var 25 (cv25 b))] 1 0) ?_
      obtain rfl:=Option.some.inj h
      refine RunC.finJ (Can.kp (by kernel_rfl))
    ·refine Au 1 (sT [pR 1 0,(32,.d (.bool v3))] [(0,.var 25 (cv25 b))] 1 0) ?_
     obtain ⟨v4,hx_13,h⟩:=bsome h
     refine RW.cut fokW 4 ((sT [pR 1 0,(36,.d (.bool v4))] [(0,.var 25 (cv25 b))] 1 0)) ?_ ?_
     ·refine r_split 32 rfl (fun hb_15=>?_) (fun hb_15=>?_)
      ·have h:=ifT hb_15 hx_13
       refine aX 2 (sT [pR 1 0,(32,.d (.bool true)),(34,jI b.Match)] [(0,.var 25 (cv25 b))] 1 0) ?_
       obtain ⟨r0_2,hx_14,h⟩:=bsome h
       refine r_call rfl rfl (k50 b.Match 0 3 _ hx_14) rfl rfl ?_
       refine aX 1 (sT [pR 1 0,(36,.d (.bool r0_2))] [(0,.var 25 (cv25 b))] 1 0) ?_
       obtain rfl:=Option.some.inj h
       refine RunC.finJ (Can.kp (by kernel_rfl))
      ·have h:=ifF hb_15 hx_13
       refine aX 4 (sT [pR 1 0,(36,.d (.bool false))] [(0,.var 25 (cv25 b))] 1 0) ?_
       obtain rfl:=Option.some.inj h
       refine RunC.finJ (Can.kp (by kernel_rfl))
     ·refine Au 1 (sT [pR 1 0,(3,.d (.bool v4))] [(0,.var 25 (cv25 b))] 1 0) ?_
      refine RW.nil (hQ_1 _ ?_)
      obtain ⟨ok,hx_16,h⟩:=bsome h
      refine AW.jnSK (fun (ok:Bool)=>(sT [pR 1 0,(3,.d (.bool ok))] [(0,.var 25 (cv25 b))] 1 0)) (c:=ok) (fun K_16 hK_16=>?_) ?_
      ·have h:=hx_16
       refine Sa (sT [pR 1 0,(3,.d (.bool v4)),(4,jI 0)] [(0,.var 25 (cv25 b))] 1 0) ?_
       obtain ⟨ok1,hx_17,h⟩:=bsome h
       refine AW.jqSK (fun (ok1:Bool)=>(sT [pR 1 0,(3,.d (.bool ok1))] [(0,.var 25 (cv25 b))] 1 0)) (c:=ok1) (fun K_17 hK_17=>?_) ?_
       ·have h:=hx_17
        refine AW.block ?_
        refine AW.whK (fun (⟨ok2,i⟩:Bool×Int)=>(sT [pR 1 0,(3,.d (.bool ok2)),(4,jI i)] [(0,.var 25 (cv25 b))] 1 0)) (g35_18 b) h (Can.kp (by kernel_rfl)) (fun s_18 c_18 h hb_18 K_18 hK_18=>?_)
        obtain ⟨ok2,i⟩:=s_18
        unfold g35_18 at h
        refine AW.seqK fun K_19 hK_19=>AW.srwK fun Q_20 hQ_20=>?_
        refine Au 2 (sT [pR 1 0,(3,.d (.bool ok2)),(4,jI i),(38,.d (.bool ok2))] [(0,.var 25 (cv25 b))] 1 0) ?_
        obtain ⟨v5,hx_21,h⟩:=bsome h
        refine RW.cut fokW 6 ((sT [pR 1 0,(3,.d (.bool ok2)),(4,jI i),(44,.d (.bool v5))] [(0,.var 25 (cv25 b))] 1 0)) ?_ ?_
        ·refine r_split 38 rfl (fun hb_22=>?_) (fun hb_22=>?_)
         ·have h:=ifT hb_22 hx_21
          refine aX 3 (sT [pR 1 0,(3,.d (.bool ok2)),(4,jI i),(38,.d (.bool true)),(39,jI i),(41,.d (.sl 4 (List.map e58 b.Hanks)))] [(0,.var 25 (cv25 b))] 1 0) ?_
          refine r_lenX rfl rfl lenm ?_
          refine aX 2 (sT [pR 1 0,(3,.d (.bool ok2)),(4,jI i),(44,.d (.bool (decide (i<(b.Hanks.length:Int)))))] [(0,.var 25 (cv25 b))] 1 0) ?_
          obtain rfl:=Option.some.inj h
          refine RunC.finJ (Can.kp (by kernel_rfl))
         ·have h:=ifF hb_22 hx_21
          refine aX 6 (sT [pR 1 0,(3,.d (.bool ok2)),(4,jI i),(44,.d (.bool false))] [(0,.var 25 (cv25 b))] 1 0) ?_
          obtain rfl:=Option.some.inj h
          refine RunC.finJ (Can.kp (by kernel_rfl))
        ·refine RW.nil (hQ_20 _ ?_)
         refine AW.cond rfl (fun hb_23=>?_) (fun hb_23=>?_)
         ·have h:=ifT hb_23 h
          refine AW.skip (hK_19 _ ?_)
          refine AW.seqK (fun K_24 hK_24=>?_)
          refine AW.block ?_
          refine AW.rw ?_
          refine Au 3 (sT [pR 1 0,(4,jI i),(48,.d (.sl 4 (List.map e58 b.Hanks))),(49,jI i)] [(0,.var 25 (cv25 b))] 1 0) ?_
          obtain ⟨p,hv_26,h⟩:=bsome h
          refine RW.one fokW (r_iaD trivial rfl rfl (ixL_ok hv_26).1 (row:=e58 p) (mapget (ixL_ok hv_26).2) (r_end ?_))
          refine Au 2 (sT [pR 1 0,(4,jI i),(52,.agg [jI p.Weight.Low,jI p.Weight.High])] [(0,.var 25 (cv25 b))] 1 0) ?_
          obtain ⟨r0_3,hx_27,h⟩:=bsome h
          refine rC (k64 p.Weight 1 60 _ hx_27) ?_
          refine Au 1 (sT [pR 1 0,(4,jI i),(54,.d (.bool r0_3))] [(0,.var 25 (cv25 b))] 1 0) ?_
          obtain ⟨v6,hx_28,h⟩:=bsome h
          refine RW.cut fokW 8 ((sT [pR 1 0,(4,jI i),(62,.d (.bool v6))] [(0,.var 25 (cv25 b))] 1 0)) ?_ ?_
          ·refine r_split 54 rfl (fun hb_30=>?_) (fun hb_30=>?_)
           ·have h:=ifT hb_30 hx_28
            refine aX 3 (sT [pR 1 0,(4,jI i),(54,.d (.bool true)),(56,.d (.sl 4 (List.map e58 b.Hanks))),(57,jI i)] [(0,.var 25 (cv25 b))] 1 0) ?_
            refine r_iaD rfl rfl rfl (ixL_ok hv_26).1 (row:=e58 p) (mapget (ixL_ok hv_26).2) ?_
            refine aX 2 (sT [pR 1 0,(4,jI i),(54,.d (.bool true)),(60,.agg [jI p.Shade.Low,jI p.Shade.High])] [(0,.var 25 (cv25 b))] 1 0) ?_
            obtain ⟨r0_4,hx_29,h⟩:=bsome h
            refine r_call rfl rfl (k64 p.Shade 0 20 _ hx_29) rfl rfl ?_
            refine aX 1 (sT [pR 1 0,(4,jI i),(62,.d (.bool r0_4))] [(0,.var 25 (cv25 b))] 1 0) ?_
            obtain rfl:=Option.some.inj h
            refine RunC.finJ (Can.kp (by kernel_rfl))
           ·have h:=ifF hb_30 hx_28
            refine aX 8 (sT [pR 1 0,(4,jI i),(62,.d (.bool false))] [(0,.var 25 (cv25 b))] 1 0) ?_
            obtain rfl:=Option.some.inj h
            refine RunC.finJ (Can.kp (by kernel_rfl))
          ·refine Au 1 (sT [pR 1 0,(3,.d (.bool v6)),(4,jI i)] [(0,.var 25 (cv25 b))] 1 0) ?_
           refine RW.nil ?_
           refine hK_24 _ ?_
           refine Ra (sT [pR 1 0,(3,.d (.bool v6)),(4,jI (wr (i+1)))] [(0,.var 25 (cv25 b))] 1 0) ?_
           obtain rfl:=Option.some.inj h
           exact hK_18 _ _ rfl (Can.kp (by kernel_rfl))
         ·have h:=ifF hb_23 h
          refine AW.exit ?_
          obtain rfl:=Option.some.inj h
          obtain rfl:=hb_18 _ rfl
          exact hK_17 _ (Can.kp (by kernel_rfl))
       ·obtain rfl:=Option.some.inj h
        exact hK_16 _ (Can.kp (by kernel_rfl))
      ·obtain ⟨ok3,hx_31,h⟩:=bsome h
       refine AW.jnSK (fun (ok3:Bool)=>(sT [(3,.d (.bool ok3))] [] 1 0)) (c:=ok3) (fun K_31 hK_31=>?_) ?_
       ·have h:=hx_31
        refine Sa (sT [pR 1 0,(3,.d (.bool ok)),(5,jI 0)] [(0,.var 25 (cv25 b))] 1 0) ?_
        obtain ⟨ok4,hx_32,h⟩:=bsome h
        refine AW.jqSK (fun (ok4:Bool)=>(sT [(3,.d (.bool ok4))] [] 1 0)) (c:=ok4) (fun K_32 hK_32=>?_) ?_
        ·have h:=hx_32
         refine AW.block ?_
         refine AW.whK (fun (⟨ok5,i1⟩:Bool×Int)=>(sT [pR 1 0,(3,.d (.bool ok5)),(5,jI i1)] [(0,.var 25 (cv25 b))] 1 0)) (g35_33 b) h (Can.kp (by kernel_rfl)) (fun s_33 c_33 h hb_33 K_33 hK_33=>?_)
         obtain ⟨ok5,i1⟩:=s_33
         unfold g35_33 at h
         refine AW.seqK fun K_34 hK_34=>AW.srwK fun Q_35 hQ_35=>?_
         refine Au 2 (sT [pR 1 0,(3,.d (.bool ok5)),(5,jI i1),(64,.d (.bool ok5))] [(0,.var 25 (cv25 b))] 1 0) ?_
         obtain ⟨v7,hx_36,h⟩:=bsome h
         refine RW.cut fokW 6 ((sT [pR 1 0,(3,.d (.bool ok5)),(5,jI i1),(70,.d (.bool v7))] [(0,.var 25 (cv25 b))] 1 0)) ?_ ?_
         ·refine r_split 64 rfl (fun hb_37=>?_) (fun hb_37=>?_)
          ·have h:=ifT hb_37 hx_36
           refine aX 3 (sT [pR 1 0,(3,.d (.bool ok5)),(5,jI i1),(64,.d (.bool true)),(65,jI i1),(67,.d (.sl 3 (List.map e69 b.Horses)))] [(0,.var 25 (cv25 b))] 1 0) ?_
           refine r_lenX rfl rfl lenm ?_
           refine aX 2 (sT [pR 1 0,(3,.d (.bool ok5)),(5,jI i1),(70,.d (.bool (decide (i1<(b.Horses.length:Int)))))] [(0,.var 25 (cv25 b))] 1 0) ?_
           obtain rfl:=Option.some.inj h
           refine RunC.finJ (Can.kp (by kernel_rfl))
          ·have h:=ifF hb_37 hx_36
           refine aX 6 (sT [pR 1 0,(3,.d (.bool ok5)),(5,jI i1),(70,.d (.bool false))] [(0,.var 25 (cv25 b))] 1 0) ?_
           obtain rfl:=Option.some.inj h
           refine RunC.finJ (Can.kp (by kernel_rfl))
         ·refine RW.nil (hQ_35 _ ?_)
          refine AW.cond rfl (fun hb_38=>?_) (fun hb_38=>?_)
          ·have h:=ifT hb_38 h
           refine AW.skip (hK_34 _ ?_)
           refine AW.seqK (fun K_39 hK_39=>?_)
           refine AW.block ?_
           refine AW.srwK (fun Q_40 hQ_40=>?_)
           refine Au 3 (sT [pR 1 0,(5,jI i1),(74,.d (.sl 3 (List.map e69 b.Horses))),(75,jI i1)] [(0,.var 25 (cv25 b))] 1 0) ?_
           obtain ⟨p1,hv_41,h⟩:=bsome h
           refine RW.one fokW (r_iaD trivial rfl rfl (ixL_ok hv_41).1 (row:=e69 p1) (mapget (ixL_ok hv_41).2) (r_end ?_))
           refine Au 3 (sT [pR 1 0,(5,jI i1),pR 6 1] [(1,.var 69 [jI p1.Mane,jI p1.Tail,jI p1.Shade]),(0,.var 25 (cv25 b))] 2 0) ?_
           refine RW.nil (hQ_40 _ ?_)
           refine AW.rw ?_
           refine Au 2 (sT [pR 1 0,(5,jI i1),pR 6 1,(79,jI p1.Mane)] [(1,.var 69 [jI p1.Mane,jI p1.Tail,jI p1.Shade]),(0,.var 25 (cv25 b))] 2 0) ?_
           obtain ⟨r0_5,hx_43,h⟩:=bsome h
           refine rC (k50 p1.Mane 1 30 _ hx_43) ?_
           refine Au 1 (sT [pR 1 0,(5,jI i1),pR 6 1,(81,.d (.bool r0_5))] [(1,.var 69 [jI p1.Mane,jI p1.Tail,jI p1.Shade]),(0,.var 25 (cv25 b))] 2 0) ?_
           obtain ⟨v8,hx_44,h⟩:=bsome h
           refine RW.cut fokW 4 ((sT [pR 1 0,(5,jI i1),(85,.d (.bool v8))] [(0,.var 25 (cv25 b))] 2 0)) ?_ ?_
           ·refine r_split 81 rfl (fun hb_46=>?_) (fun hb_46=>?_)
            ·have h:=ifT hb_46 hx_44
             refine aX 2 (sT [pR 1 0,(5,jI i1),(81,.d (.bool true)),(83,jI p1.Tail)] [(1,.var 69 [jI p1.Mane,jI p1.Tail,jI p1.Shade]),(0,.var 25 (cv25 b))] 2 0) ?_
             obtain ⟨r0_6,hx_45,h⟩:=bsome h
             refine r_call rfl rfl (k50 p1.Tail 1 30 _ hx_45) rfl rfl ?_
             refine aX 1 (sT [pR 1 0,(5,jI i1),(85,.d (.bool r0_6))] [(1,.var 69 [jI p1.Mane,jI p1.Tail,jI p1.Shade]),(0,.var 25 (cv25 b))] 2 0) ?_
             obtain rfl:=Option.some.inj h
             refine RunC.finJ (Can.kp (by kernel_rfl))
            ·have h:=ifF hb_46 hx_44
             refine aX 4 (sT [pR 1 0,(5,jI i1),(85,.d (.bool false))] [(1,.var 69 [jI p1.Mane,jI p1.Tail,jI p1.Shade]),(0,.var 25 (cv25 b))] 2 0) ?_
             obtain rfl:=Option.some.inj h
             refine RunC.finJ (Can.kp (by kernel_rfl))
           ·refine Au 1 (sT [pR 1 0,(3,.d (.bool v8)),(5,jI i1)] [(0,.var 25 (cv25 b))] 2 0) ?_
            refine RW.nil ?_
            refine hK_39 _ ?_
            refine Ra (sT [pR 1 0,(3,.d (.bool v8)),(5,jI (wr (i1+1)))] [(0,.var 25 (cv25 b))] 2 0) ?_
            obtain rfl:=Option.some.inj h
            exact hK_33 _ _ rfl (Can.kp (by kernel_rfl))
          ·have h:=ifF hb_38 h
           refine AW.exit ?_
           obtain rfl:=Option.some.inj h
           obtain rfl:=hb_33 _ rfl
           exact hK_32 _ (Can.kp (by kernel_rfl))
        ·obtain rfl:=Option.some.inj h
         exact hK_31 _ (Can.kp (by kernel_rfl))
       ·refine Sa (sT [(2,.d (.bool ok3))] [] 1 0) ?_
        obtain rfl:=Option.some.inj h
        exact rT hR_0 (.cons (.tmp rfl) .nil)
def g39 (n:Int) (many:Int):Option Int:=bif (decide (many<1)) then (some 0) else ((must (decide (many≠0))).bind fun _=>bif (decide ((n.tmod many)<0)) then (some (wr ((n.tmod many)+many))) else (some (n.tmod many)))
theorem k39 (n:Int) (many:Int) (r:Int) (h:g39 n many=some r):SCall Tryd.prog Gs 39 [jI n,jI many] [] 0 Fr.emp (jI r) [] 0 Fr.emp:=by
 unfold g39 at h
 refine SCall.mkK Tryd.func39 c39 rfl rfl (by kernel_rfl) (fun Q_0 hR_0 hN_0=>?_)
 refine Sa (sT [(0,jI n),(1,jI many)] [] 0 0) ?_
 refine AW.seqK (fun K_1 hK_1=>?_)
 refine Sa (sT [(0,jI n),(1,jI many),(7,.d (.bool (decide (many<1))))] [] 0 0) ?_
 refine AW.cond rfl (fun hb_2=>?_) (fun hb_2=>?_)
 ·have h:=ifT hb_2 h
  refine Sa (sT [(4,jI 0)] [] 0 0) ?_
  obtain rfl:=Option.some.inj h
  exact rT hR_0 (.cons (.tmp rfl) .nil)
 ·have h:=ifF hb_2 h
  refine AW.skip (hK_1 _ ?_)
  refine AW.srwK (fun Q_3 hQ_3=>?_)
  refine Au 2 (sT [(1,jI many),(8,jI n),(9,jI many)] [] 0 0) ?_
  obtain ⟨_,hv_4,h⟩:=bsome h
  refine RW.one fokW (r_rem trivial rfl rfl (of_decide_eq_true (must_ok hv_4)) (r_end ?_))
  refine Au 1 (sT [(1,jI many),(5,jI (n.tmod many))] [] 0 0) ?_
  refine RW.nil (hQ_3 _ ?_)
  refine AW.seqK (fun K_5 hK_5=>?_)
  refine Sa (sT [(1,jI many),(5,jI (n.tmod many)),(12,.d (.bool (decide ((n.tmod many)<0))))] [] 0 0) ?_
  refine AW.cond rfl (fun hb_6=>?_) (fun hb_6=>?_)
  ·have h:=ifT hb_6 h
   refine Ra (sT [(5,jI (wr ((n.tmod many)+many)))] [] 0 0) ?_
   refine hK_5 _ ?_
   refine Sa (sT [(4,jI (wr ((n.tmod many)+many)))] [] 0 0) ?_
   obtain rfl:=Option.some.inj h
   exact rT hR_0 (.cons (.tmp rfl) .nil)
  ·have h:=ifF hb_6 h
   refine AW.skip (hK_5 _ ?_)
   refine Sa (sT [(4,jI (n.tmod many))] [] 0 0) ?_
   obtain rfl:=Option.some.inj h
   exact rT hR_0 (.cons (.tmp rfl) .nil)
end Go.Proofs.Th
namespace Go.Proofs.Th
open Go Go.Abs Go.Proofs
def g51 (b:HairBook) (ounces:Int) (shade:Int):Option HairBook:=(appL 32 ([]:List HairHank) b.Hanks).bind fun l=>(g40 ounces).bind fun r0=>(g40 shade).bind fun r0_1=>(g98 r0 r0_1).bind fun r0_2=>(appL 32 l [r0_2]).bind fun l1=>some (HairBook.mk l1 b.Horses b.Dark b.Near b.Match)
def y57 (l:List HairHank) (b:HairBook):List (Nat×Blk):=[(3,.row 58 4 (List.map e58 l)),(2,.var 25 (cv25 b)),(1,.var 25 [.d (.nilSl),.d (.nilSl),jI 0,jI 0,jI 0])]
theorem k51 (b:HairBook) (ounces:Int) (shade:Int) (r:HairBook) (h:g51 b ounces shade=some r):SCall Tryd.prog Gs 51 [.agg (cv25 b),jI ounces,jI shade] [] 0 Fr.emp (.agg (cv25 r)) [] 0 Fr.emp:=by
 unfold g51 at h
 refine SCall.mkK Tryd.func51 c51 rfl rfl (by kernel_rfl) (fun Q_0 hR_0 hN_0=>?_)
 refine Sa (sT [(1,jI ounces),(2,jI shade),pR 3 0,pR 6 1] [(1,.var 25 [.d (.nilSl),.d (.nilSl),jI 0,jI 0,jI 0]),(0,.var 25 (cv25 b))] 2 0) ?_
 refine Sa (sT [(1,jI ounces),(2,jI shade),pR 3 0,pR 6 1,pR 7 2] [(2,.var 25 (cv25 b)),(1,.var 25 [.d (.nilSl),.d (.nilSl),jI 0,jI 0,jI 0]),(0,.var 25 (cv25 b))] 3 0) ?_
 refine AW.srwK (fun Q_1 hQ_1=>?_)
 refine Au 3 (sT [(1,jI ounces),(2,jI shade),pR 6 1,pR 7 2,(9,.own 3 (List.map e58 []).length),(11,.d (.sl 4 (List.map e58 b.Hanks)))] [(3,.row 58 4 (List.map e58 [])),(2,.var 25 (cv25 b)),(1,.var 25 [.d (.nilSl),.d (.nilSl),jI 0,jI 0,jI 0])] 4 0) ?_
 obtain ⟨l,hv_2,h⟩:=bsome h
 refine RW.one fokW (r_apD trivial rfl rfl rfl rfl (apz hv_2 e58) (apr hv_2 e58) (r_end ?_))
 refine Au 1 (sT [(2,jI shade),pR 6 1,pR 7 2,(12,.own 3 (List.map e58 l).length),(13,jI ounces)] (y57 l b) 4 0) ?_
 obtain ⟨r0,hx_3,h⟩:=bsome h
 refine rC (k40 ounces _ hx_3) ?_
 refine Au 1 (sT [pR 6 1,pR 7 2,(12,.own 3 (List.map e58 l).length),(14,.agg [jI r0.Low,jI r0.High]),(15,jI shade)] (y57 l b) 4 0) ?_
 obtain ⟨r0_1,hx_4,h⟩:=bsome h
 refine rC (k40 shade _ hx_4) ?_
 obtain ⟨r0_2,hx_5,h⟩:=bsome h
 refine rC (k98 r0 r0_1 _ hx_5) ?_
 refine Au 1 (sT [pR 6 1,pR 7 2,(12,.own 3 (List.map e58 l).length),(18,.own 4 (List.map e58 [r0_2]).length)] [(4,.row 58 4 (List.map e58 [r0_2])),(3,.row 58 4 (List.map e58 l)),(2,.var 25 (cv25 b)),(1,.var 25 [.d (.nilSl),.d (.nilSl),jI 0,jI 0,jI 0])] 5 0) ?_
 obtain ⟨l1,hv_6,h⟩:=bsome h
 refine RW.one fokW (r_apO trivial rfl rfl rfl rfl rfl rfl (apz hv_6 e58) (apr hv_6 e58) (r_end ?_))
 refine Au 2 (sT [pR 6 1,pR 7 2] [(2,.var 25 [.own 3 (List.map e58 l1).length,.d (.sl 3 (List.map e69 b.Horses)),jI b.Dark,jI b.Near,jI b.Match]),(3,.row 58 4 (List.map e58 l1)),(1,.var 25 [.d (.nilSl),.d (.nilSl),jI 0,jI 0,jI 0])] 5 0) ?_
 refine RW.nil (hQ_1 _ ?_)
 refine Sa (sT [pR 6 1] [(1,.var 25 [.own 3 (List.map e58 l1).length,.d (.sl 3 (List.map e69 b.Horses)),jI b.Dark,jI b.Near,jI b.Match]),(3,.row 58 4 (List.map e58 l1))] 5 0) ?_
 obtain rfl:=Option.some.inj h
 exact AW.ret (hR_0 _ (retX (.cons (.agg rfl rfl (Nat.le_of_ble_eq_true rfl)) .nil) (Frz.agg_of ⟨(.own rfl rfl),.refl _,.refl _,.refl _,.refl _,trivial⟩) rfl (by kernel_rfl) (by kernel_rfl)))
def g11 (t:HairBook) (o:(Nat→Int)):Option Bool:=(g35 t).bind fun r0_7=>(bif (!r0_7) then (some true) else (some (decide ((t.Hanks.length:Int)=4)))).bind fun v=>bif v then ((g25).bind fun r0_12=>some r0_12) else ((g39 (o 0) 60).bind fun r0_2=>(g39 (o 1) 21).bind fun r0_2_1=>(g51 t (wr (1+r0_2)) r0_2_1).bind fun r0_3=>(bif (decide (((o 2).tmod 2)=0)) then (some (t.Hanks,t.Horses,(min 4 (wr (t.Dark+1))),t.Near,t.Match)) else (some (r0_3.Hanks,r0_3.Horses,r0_3.Dark,r0_3.Near,r0_3.Match))).bind fun (Hanks,Horses,Dark,Near,Match)=>(g39 (o 2) 21).bind fun r0_2_2=>(g29 t).bind fun (r0_2_3,r1_1)=>(g29 (HairBook.mk Hanks Horses Dark Near Match)).bind fun (r0_2_4,r1_1_1)=>(g33 t).bind fun (r0_1,r1_1_2)=>(g33 (HairBook.mk Hanks Horses Dark Near Match)).bind fun (r0_1_1,r1_1_3)=>(g31 t r0_2_2).bind fun (r0_5,r1_6)=>(g31 (HairBook.mk Hanks Horses Dark Near Match) r0_2_2).bind fun (r0_5_1,r1_6_1)=>(bif ((((decide (r1_1=0))&&(decide (r1_1_1=0)))&&(decide (r1_1_2=0)))&&(decide (r1_1_3=0))) then (some (decide ((r0_2_4.length:Int)≤(r0_2_3.length:Int)))) else (some false)).bind fun v1=>(bif (v1&&(r0_1_1||(!r0_1))) then (bif r0_1 then (some true) else (some (decide (0<(r0_2_3.length:Int))))) else (some false)).bind fun v2=>(bif ((v2&&((decide (r1_6=0))||(decide (r1_6=4))))&&(((decide (r1_6_1=0))&&(decide (r0_5_1≤r0_5)))||(decide (r1_6=4)))) then ((g25).bind fun r0_12_1=>some r0_12_1) else (some false)).bind fun v3=>some v3)
def y58 (o:(Nat→Int)) (t:HairBook):List (Nat×Blk):=[(1,.var 27 [jI (o 0),jI (o 1),jI (o 2)]),(0,.var 25 (cv25 t))]
def y59 (Hanks:List HairHank) (Horses:List HairHorse) (Dark:Int) (Near:Int) (Match:Int) (t:HairBook):List (Nat×Blk):=[(2,.var 25 [.d (.sl 4 (List.map e58 Hanks)),.d (.sl 3 (List.map e69 Horses)),jI Dark,jI Near,jI Match]),(0,.var 25 (cv25 t))]
theorem k11 (t:HairBook) (o:(Nat→Int)) (r:Bool) (h:g11 t o=some r):SCall Tryd.prog Gs 11 [.agg (cv25 t),.agg [jI (o 0),jI (o 1),jI (o 2)]] [] 0 Fr.emp (.d (.bool r)) [] 0 Fr.emp:=by
 unfold g11 at h
 refine SCall.mkK Tryd.func11 c11 rfl rfl (by kernel_rfl) (fun Q_0 hR_0 hN_0=>?_)
 refine Sa (sT [pR 2 0,pR 3 1] (y58 o t) 2 0) ?_
 refine AW.seqK fun K_1 hK_1=>AW.srwK fun Q_2 hQ_2=>?_
 refine Au 1 (sT [pR 2 0,pR 3 1,(19,.agg (cv25 t))] (y58 o t) 2 0) ?_
 obtain ⟨r0_7,hx_3,h⟩:=bsome h
 refine rC (k35 t _ hx_3) ?_
 refine Au 2 (sT [pR 2 0,pR 3 1,(22,.d (.bool (!r0_7)))] (y58 o t) 2 0) ?_
 obtain ⟨v,hx_4,h⟩:=bsome h
 refine RW.cut fokW 5 ((sT [pR 2 0,pR 3 1,(27,.d (.bool v))] (y58 o t) 2 0)) ?_ ?_
 ·refine r_split 22 rfl (fun hb_5=>?_) (fun hb_5=>?_)
  ·have h:=ifT hb_5 hx_4
   refine aX 5 (sT [pR 2 0,pR 3 1,(27,.d (.bool true))] (y58 o t) 2 0) ?_
   obtain rfl:=Option.some.inj h
   refine RunC.finJ (Can.kp (by kernel_rfl))
  ·have h:=ifF hb_5 hx_4
   refine aX 2 (sT [pR 2 0,pR 3 1,(22,.d (.bool false)),(24,.d (.sl 4 (List.map e58 t.Hanks)))] (y58 o t) 2 0) ?_
   refine r_lenX rfl rfl lenm ?_
   refine aX 2 (sT [pR 2 0,pR 3 1,(27,.d (.bool (decide ((t.Hanks.length:Int)=4))))] (y58 o t) 2 0) ?_
   obtain rfl:=Option.some.inj h
   refine RunC.finJ (Can.kp (by kernel_rfl))
 ·refine RW.nil (hQ_2 _ ?_)
  refine AW.cond rfl (fun hb_6=>?_) (fun hb_6=>?_)
  ·have h:=ifT hb_6 h
   refine AW.srwK (fun Q_7 hQ_7=>?_)
   obtain ⟨r0_12,hx_8,h⟩:=bsome h
   refine rC (k25 _ hx_8) ?_
   refine Au 1 (sT [(4,.d (.bool r0_12))] [] 2 0) ?_
   refine RW.nil (hQ_7 _ ?_)
   obtain rfl:=Option.some.inj h
   exact rT hR_0 (.cons (.tmp rfl) .nil)
  ·have h:=ifF hb_6 h
   refine AW.skip (hK_1 _ ?_)
   refine AW.sdrwK fokW (fun Q_9 hQ_9=>?_)
   refine aX 3 (sT [pR 2 0,pR 3 1,(29,.agg (cv25 t)),(31,jI (o 0))] (y58 o t) 2 0) ?_
   obtain ⟨r0_2,hx_10,h⟩:=bsome h
   refine r_call trivial rfl (k39 (o 0) 60 _ hx_10) rfl rfl ?_
   refine aX 3 (sT [pR 2 0,pR 3 1,(29,.agg (cv25 t)),(33,jI (wr (1+r0_2))),(35,jI (o 1))] (y58 o t) 2 0) ?_
   obtain ⟨r0_2_1,hx_11,h⟩:=bsome h
   refine r_call trivial rfl (k39 (o 1) 21 _ hx_11) rfl rfl ?_
   obtain ⟨r0_3,hx_12,h⟩:=bsome h
   refine r_call trivial rfl (k51 t (wr (1+r0_2)) r0_2_1 _ hx_12) rfl rfl ?_
   refine aX 2 (sT [pR 2 0,pR 3 1,pR 5 2] [(2,.var 25 (cv25 r0_3)),(1,.var 27 [jI (o 0),jI (o 1),jI (o 2)]),(0,.var 25 (cv25 t))] 3 0) ?_
   refine Fi (sT [pR 2 0,pR 3 1,pR 5 2] [(2,.var 25 (cv25 r0_3)),(1,.var 27 [jI (o 0),jI (o 1),jI (o 2)]),(0,.var 25 (cv25 t))] 3 0) ?_
   refine hQ_9 _ ?_
   obtain ⟨c_13,hx_13,h⟩:=bsome h
   refine AW.jnSK (fun (⟨Hanks,Horses,Dark,Near,Match⟩:(List HairHank)×(List HairHorse)×Int×Int×Int)=>(sT [pR 2 0,pR 3 1,pR 5 2] [(2,.var 25 [.d (.sl 4 (List.map e58 Hanks)),.d (.sl 3 (List.map e69 Horses)),jI Dark,jI Near,jI Match]),(1,.var 27 [jI (o 0),jI (o 1),jI (o 2)]),(0,.var 25 (cv25 t))] 3 0)) (c:=c_13) (fun K_13 hK_13=>?_) ?_
   ·have h:=hx_13
    refine Sa (sT [pR 2 0,pR 3 1,pR 5 2,(41,.d (.bool (decide (((o 2).tmod 2)=0))))] [(2,.var 25 (cv25 r0_3)),(1,.var 27 [jI (o 0),jI (o 1),jI (o 2)]),(0,.var 25 (cv25 t))] 3 0) ?_
    refine AW.cond rfl (fun hb_14=>?_) (fun hb_14=>?_)
    ·have h:=ifT hb_14 h
     refine Sa (sT [pR 2 0,pR 3 1,pR 5 2] [(2,.var 25 (cv25 t)),(1,.var 27 [jI (o 0),jI (o 1),jI (o 2)]),(0,.var 25 (cv25 t))] 3 0) ?_
     refine Ra (sT [pR 2 0,pR 3 1,pR 5 2] [(2,.var 25 [.d (.sl 4 (List.map e58 t.Hanks)),.d (.sl 3 (List.map e69 t.Horses)),jI (min 4 (wr (t.Dark+1))),jI t.Near,jI t.Match]),(1,.var 27 [jI (o 0),jI (o 1),jI (o 2)]),(0,.var 25 (cv25 t))] 3 0) ?_
     obtain rfl:=Option.some.inj h
     exact hK_13 _ (Can.kp (by kernel_rfl))
    ·have h:=ifF hb_14 h
     refine AW.skip ?_
     obtain rfl:=Option.some.inj h
     exact hK_13 _ (Can.kp (by kernel_rfl))
   ·obtain ⟨Hanks,Horses,Dark,Near,Match⟩:=c_13
    refine AW.srwK (fun Q_15 hQ_15=>?_)
    refine Au 2 (sT [pR 2 0,pR 5 2,(49,jI (o 2))] (y59 Hanks Horses Dark Near Match t) 3 0) ?_
    obtain ⟨r0_2_2,hx_16,h⟩:=bsome h
    refine rC (k39 (o 2) 21 _ hx_16) ?_
    refine Au 1 (sT [pR 2 0,pR 5 2,(6,jI r0_2_2)] (y59 Hanks Horses Dark Near Match t) 3 0) ?_
    refine RW.nil (hQ_15 _ ?_)
    refine AW.srwK (fun Q_17 hQ_17=>?_)
    refine Au 1 (sT [pR 2 0,pR 5 2,(6,jI r0_2_2),(52,.agg (cv25 t))] (y59 Hanks Horses Dark Near Match t) 3 0) ?_
    obtain ⟨⟨r0_2_3,r1_1⟩,hx_18,h⟩:=bsome h
    refine rC (k29 t _ hx_18) ?_
    refine Au 5 (sT [pR 2 0,pR 5 2,(6,jI r0_2_2),(7,.d (q1 r0_2_3)),(8,jI r1_1)] (y59 Hanks Horses Dark Near Match t) 3 0) ?_
    refine RW.nil (hQ_17 _ ?_)
    refine AW.srwK (fun Q_19 hQ_19=>?_)
    refine Au 1 (sT [pR 2 0,pR 5 2,(6,jI r0_2_2),(7,.d (q1 r0_2_3)),(8,jI r1_1),(57,.agg [.d (.sl 4 (List.map e58 Hanks)),.d (.sl 3 (List.map e69 Horses)),jI Dark,jI Near,jI Match])] (y59 Hanks Horses Dark Near Match t) 3 0) ?_
    obtain ⟨⟨r0_2_4,r1_1_1⟩,hx_20,h⟩:=bsome h
    refine rC (k29 (HairBook.mk Hanks Horses Dark Near Match) _ hx_20) ?_
    refine Au 5 (sT [pR 2 0,pR 5 2,(6,jI r0_2_2),(7,.d (q1 r0_2_3)),(8,jI r1_1),(9,.d (q1 r0_2_4)),(10,jI r1_1_1)] (y59 Hanks Horses Dark Near Match t) 3 0) ?_
    refine RW.nil (hQ_19 _ ?_)
    refine AW.srwK (fun Q_21 hQ_21=>?_)
    refine Au 1 (sT [pR 2 0,pR 5 2,(6,jI r0_2_2),(7,.d (q1 r0_2_3)),(8,jI r1_1),(9,.d (q1 r0_2_4)),(10,jI r1_1_1),(62,.agg (cv25 t))] (y59 Hanks Horses Dark Near Match t) 3 0) ?_
    obtain ⟨⟨r0_1,r1_1_2⟩,hx_22,h⟩:=bsome h
    refine rC (k33 t _ hx_22) ?_
    refine Au 5 (sT [pR 2 0,pR 5 2,(6,jI r0_2_2),(7,.d (q1 r0_2_3)),(8,jI r1_1),(9,.d (q1 r0_2_4)),(10,jI r1_1_1),(11,.d (.bool r0_1)),(12,jI r1_1_2)] (y59 Hanks Horses Dark Near Match t) 3 0) ?_
    refine RW.nil (hQ_21 _ ?_)
    refine AW.srwK (fun Q_23 hQ_23=>?_)
    refine Au 1 (sT [pR 2 0,pR 5 2,(6,jI r0_2_2),(7,.d (q1 r0_2_3)),(8,jI r1_1),(9,.d (q1 r0_2_4)),(10,jI r1_1_1),(11,.d (.bool r0_1)),(12,jI r1_1_2),(67,.agg [.d (.sl 4 (List.map e58 Hanks)),.d (.sl 3 (List.map e69 Horses)),jI Dark,jI Near,jI Match])] (y59 Hanks Horses Dark Near Match t) 3 0) ?_
    obtain ⟨⟨r0_1_1,r1_1_3⟩,hx_24,h⟩:=bsome h
    refine rC (k33 (HairBook.mk Hanks Horses Dark Near Match) _ hx_24) ?_
    refine Au 5 (sT [pR 2 0,pR 5 2,(6,jI r0_2_2),(7,.d (q1 r0_2_3)),(8,jI r1_1),(9,.d (q1 r0_2_4)),(10,jI r1_1_1),(11,.d (.bool r0_1)),(12,jI r1_1_2),(13,.d (.bool r0_1_1)),(14,jI r1_1_3)] (y59 Hanks Horses Dark Near Match t) 3 0) ?_
    refine RW.nil (hQ_23 _ ?_)
    refine AW.srwK (fun Q_25 hQ_25=>?_)
    refine Au 2 (sT [pR 5 2,(6,jI r0_2_2),(7,.d (q1 r0_2_3)),(8,jI r1_1),(9,.d (q1 r0_2_4)),(10,jI r1_1_1),(11,.d (.bool r0_1)),(12,jI r1_1_2),(13,.d (.bool r0_1_1)),(14,jI r1_1_3),(72,.agg (cv25 t)),(73,jI r0_2_2)] [(2,.var 25 [.d (.sl 4 (List.map e58 Hanks)),.d (.sl 3 (List.map e69 Horses)),jI Dark,jI Near,jI Match])] 3 0) ?_
    obtain ⟨⟨r0_5,r1_6⟩,hx_26,h⟩:=bsome h
    refine rC (k31 t r0_2_2 _ hx_26) ?_
    refine Au 5 (sT [pR 5 2,(6,jI r0_2_2),(7,.d (q1 r0_2_3)),(8,jI r1_1),(9,.d (q1 r0_2_4)),(10,jI r1_1_1),(11,.d (.bool r0_1)),(12,jI r1_1_2),(13,.d (.bool r0_1_1)),(14,jI r1_1_3),(15,jI r0_5),(16,jI r1_6)] [(2,.var 25 [.d (.sl 4 (List.map e58 Hanks)),.d (.sl 3 (List.map e69 Horses)),jI Dark,jI Near,jI Match])] 3 0) ?_
    refine RW.nil (hQ_25 _ ?_)
    refine AW.srwK (fun Q_27 hQ_27=>?_)
    refine Au 2 (sT [(7,.d (q1 r0_2_3)),(8,jI r1_1),(9,.d (q1 r0_2_4)),(10,jI r1_1_1),(11,.d (.bool r0_1)),(12,jI r1_1_2),(13,.d (.bool r0_1_1)),(14,jI r1_1_3),(15,jI r0_5),(16,jI r1_6),(78,.agg [.d (.sl 4 (List.map e58 Hanks)),.d (.sl 3 (List.map e69 Horses)),jI Dark,jI Near,jI Match]),(79,jI r0_2_2)] [] 3 0) ?_
    obtain ⟨⟨r0_5_1,r1_6_1⟩,hx_28,h⟩:=bsome h
    refine rC (k31 (HairBook.mk Hanks Horses Dark Near Match) r0_2_2 _ hx_28) ?_
    refine Au 5 (sT [(7,.d (q1 r0_2_3)),(8,jI r1_1),(9,.d (q1 r0_2_4)),(10,jI r1_1_1),(11,.d (.bool r0_1)),(12,jI r1_1_2),(13,.d (.bool r0_1_1)),(14,jI r1_1_3),(15,jI r0_5),(16,jI r1_6),(17,jI r0_5_1),(18,jI r1_6_1)] [] 3 0) ?_
    refine RW.nil (hQ_27 _ ?_)
    refine AW.srwK (fun Q_29 hQ_29=>?_)
    refine RW.au fokW 15 [85,89,93] (sT [(7,.d (q1 r0_2_3)),(9,.d (q1 r0_2_4)),(11,.d (.bool r0_1)),(13,.d (.bool r0_1_1)),(15,jI r0_5),(16,jI r1_6),(17,jI r0_5_1),(18,jI r1_6_1),(97,.d (.bool ((((decide (r1_1=0))&&(decide (r1_1_1=0)))&&(decide (r1_1_2=0)))&&(decide (r1_1_3=0)))))] [] 3 0) (by kernel_rfl) ?_
    obtain ⟨v1,hx_30,h⟩:=bsome h
    refine RW.cut fokW 6 ((sT [(7,.d (q1 r0_2_3)),(11,.d (.bool r0_1)),(13,.d (.bool r0_1_1)),(15,jI r0_5),(16,jI r1_6),(17,jI r0_5_1),(18,jI r1_6_1),(103,.d (.bool v1))] [] 3 0)) ?_ ?_
    ·refine r_split 97 rfl (fun hb_31=>?_) (fun hb_31=>?_)
     ·have h:=ifT hb_31 hx_30
      refine aX 1 (sT [(7,.d (q1 r0_2_3)),(11,.d (.bool r0_1)),(13,.d (.bool r0_1_1)),(15,jI r0_5),(16,jI r1_6),(17,jI r0_5_1),(18,jI r1_6_1),(97,.d (.bool true)),(98,.d (q1 r0_2_4))] [] 3 0) ?_
      refine r_lenX rfl rfl lenm ?_
      refine aX 1 (sT [(7,.d (q1 r0_2_3)),(11,.d (.bool r0_1)),(13,.d (.bool r0_1_1)),(15,jI r0_5),(16,jI r1_6),(17,jI r0_5_1),(18,jI r1_6_1),(97,.d (.bool true)),(99,jI (r0_2_4.length:Int)),(100,.d (q1 r0_2_3))] [] 3 0) ?_
      refine r_lenX rfl rfl lenm ?_
      refine aX 2 (sT [(7,.d (q1 r0_2_3)),(11,.d (.bool r0_1)),(13,.d (.bool r0_1_1)),(15,jI r0_5),(16,jI r1_6),(17,jI r0_5_1),(18,jI r1_6_1),(103,.d (.bool (decide ((r0_2_4.length:Int)≤(r0_2_3.length:Int)))))] [] 3 0) ?_
      obtain rfl:=Option.some.inj h
      refine RunC.finJ (Can.kp (by kernel_rfl))
     ·have h:=ifF hb_31 hx_30
      refine aX 6 (sT [(7,.d (q1 r0_2_3)),(11,.d (.bool r0_1)),(13,.d (.bool r0_1_1)),(15,jI r0_5),(16,jI r1_6),(17,jI r0_5_1),(18,jI r1_6_1),(103,.d (.bool false))] [] 3 0) ?_
      obtain rfl:=Option.some.inj h
      refine RunC.finJ (Can.kp (by kernel_rfl))
    ·refine RW.au fokW 8 [106,104] (sT [(7,.d (q1 r0_2_3)),(11,.d (.bool r0_1)),(15,jI r0_5),(16,jI r1_6),(17,jI r0_5_1),(18,jI r1_6_1),(111,.d (.bool (v1&&(r0_1_1||(!r0_1)))))] [] 3 0) (by kernel_rfl) ?_
     obtain ⟨v2,hx_32,h⟩:=bsome h
     refine RW.cut fokW 7 ((sT [(15,jI r0_5),(16,jI r1_6),(17,jI r0_5_1),(18,jI r1_6_1),(118,.d (.bool v2))] [] 3 0)) ?_ ?_
     ·refine r_split 111 rfl (fun hb_34=>?_) (fun hb_34=>?_)
      ·have h:=ifT hb_34 hx_32
       refine aX 2 (sT [(7,.d (q1 r0_2_3)),(15,jI r0_5),(16,jI r1_6),(17,jI r0_5_1),(18,jI r1_6_1),(111,.d (.bool true)),(113,.d (.bool r0_1))] [] 3 0) ?_
       refine r_split 113 rfl (fun hb_33=>?_) (fun hb_33=>?_)
       ·have h:=ifT hb_33 h
        refine aX 5 (sT [(15,jI r0_5),(16,jI r1_6),(17,jI r0_5_1),(18,jI r1_6_1),(118,.d (.bool true))] [] 3 0) ?_
        obtain rfl:=Option.some.inj h
        refine RunC.finJ (Can.kp (by kernel_rfl))
       ·have h:=ifF hb_33 h
        refine aX 1 (sT [(15,jI r0_5),(16,jI r1_6),(17,jI r0_5_1),(18,jI r1_6_1),(111,.d (.bool true)),(113,.d (.bool false)),(114,.d (q1 r0_2_3))] [] 3 0) ?_
        refine r_lenX rfl rfl lenm ?_
        refine aX 3 (sT [(15,jI r0_5),(16,jI r1_6),(17,jI r0_5_1),(18,jI r1_6_1),(118,.d (.bool (decide (0<(r0_2_3.length:Int)))))] [] 3 0) ?_
        obtain rfl:=Option.some.inj h
        refine RunC.finJ (Can.kp (by kernel_rfl))
      ·have h:=ifF hb_34 hx_32
       refine aX 7 (sT [(15,jI r0_5),(16,jI r1_6),(17,jI r0_5_1),(18,jI r1_6_1),(118,.d (.bool false))] [] 3 0) ?_
       obtain rfl:=Option.some.inj h
       refine RunC.finJ (Can.kp (by kernel_rfl))
     ·refine RW.au fokW 22 [122,119,130,135,127] (sT [(140,.d (.bool ((v2&&((decide (r1_6=0))||(decide (r1_6=4))))&&(((decide (r1_6_1=0))&&(decide (r0_5_1≤r0_5)))||(decide (r1_6=4))))))] [] 3 0) (by kernel_rfl) ?_
      obtain ⟨v3,hx_35,h⟩:=bsome h
      refine RW.cut fokW 2 ((sT [(142,.d (.bool v3))] [] 3 0)) ?_ ?_
      ·refine r_split 140 rfl (fun hb_37=>?_) (fun hb_37=>?_)
       ·have h:=ifT hb_37 hx_35
        obtain ⟨r0_12_1,hx_36,h⟩:=bsome h
        refine r_call rfl rfl (k25 _ hx_36) rfl rfl ?_
        refine aX 1 (sT [(142,.d (.bool r0_12_1))] [] 3 0) ?_
        obtain rfl:=Option.some.inj h
        refine RunC.finJ (Can.kp (by kernel_rfl))
       ·have h:=ifF hb_37 hx_35
        refine aX 2 (sT [(142,.d (.bool false))] [] 3 0) ?_
        obtain rfl:=Option.some.inj h
        refine RunC.finJ (Can.kp (by kernel_rfl))
      ·refine Au 1 (sT [(4,.d (.bool v3))] [] 3 0) ?_
       refine RW.nil (hQ_29 _ ?_)
       obtain rfl:=Option.some.inj h
       exact rT hR_0 (.cons (.tmp rfl) .nil)
end Go.Proofs.Th
