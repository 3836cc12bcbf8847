/- Told functions, and that the program does so, part 2. Conditions: none. -/
import Derived.Test.YtailndjnfdcolaaDoorTda
set_option linter.unusedVariables false
set_option linter.unusedSimpArgs false
namespace Go.Proofs.Ta
open Go Go.Abs Go.Proofs
def g7_r15:Int→(List Int)→Option (Ctl (List Int) (Unit)):=fun a l=>(appL 8 l [a]).bind fun l1=>some (.next l1)
def g7 (x:DappleBook) (one:Int) (other:Int):Option ((List Int)×Int):=(g20 x one other).bind fun r_19=>match r_19 with | .next (r0_DappleBook3,r0_rows3,r1_1)=>(must (decide (r1_1≠0))).bind fun _=>some ([],r1_1) | .brk (r0_DappleBook4,r0_rows4,r1_2,m4)=>bif (decide (r1_2≠0)) then (some ([],r1_2)) else (((ixL r0_rows4 one).bind fun p=>(ixL r0_rows4 other).bind fun p1=>(g21 r0_DappleBook4 r0_rows4 p p1).bind fun (o0_DappleBook,o0_rows,o1,o2)=>some (o0_DappleBook.Round,o0_DappleBook.Horses,o0_rows,o1,o2)).bind fun (Round,Horses,rows,v,v1)=>(g34 (fun a s=>rndC g7_r15 a s) (DappleBook.mk Round Horses) rows v v1 (.next ([]:List Int))).bind fun out_15=>match out_15 with | .next l=>(slcL l 0 (l.length:Int)).bind fun l2=>some (l2,0) | .brk _=>none)
theorem k7 (x:DappleBook) (one:Int) (other:Int) (r:(List Int)×Int) (h:g7 x one other=some r):SCall Tryd.prog Gs 7 [.agg [jI x.Round,.d (.sl 1 (List.map e29 x.Horses))],jI one,jI other] [] 0 Fr.emp (match r with | (r0_2,r1_4)=>.tup [.d (.sl 1 (List.map e3 r0_2)),jI r1_4]) [] 0 Fr.emp:=by
 unfold g7 at h
 refine SCall.mkK Tryd.func7 c7 rfl rfl (by kernel_rfl) (fun Q_0 hR_0 hN_0=>?_)
 refine Sa (sT [(1,jI one),(2,jI other),pR 3 0] [(0,.var 24 [jI x.Round,.d (.sl 1 (List.map e29 x.Horses))])] 1 0) ?_
 refine AW.srwK (fun Q_1 hQ_1=>?_)
 refine Au 3 (sT [(1,jI one),(2,jI other),(13,.agg [jI x.Round,.d (.sl 1 (List.map e29 x.Horses))]),(14,jI one),(15,jI other)] [] 1 0) ?_
 obtain ⟨r_19,hx_2,h⟩:=bsome h
 rcases r_19 with (⟨r0_DappleBook3,r0_rows3,r1_1⟩ | (⟨r0_DappleBook4,r0_rows4,r1_2,m4⟩))
 ·refine RW.one fokW (r_callS (zr:=[]) [] trivial rfl (k20 x one other _ hx_2) trivial rfl rfl ⟨.refl _,.refl _,.refl _,trivial⟩ rfl rfl rfl (r_end ?_))
  obtain ⟨_,hv_3,h⟩:=bsome h
  have hf_4:=must_ok hv_3
  refine Au 6 (sT [(1,jI one),(2,jI other),pR 8 1,(9,jI r1_1)] [(1,.var 53 [jI r0_DappleBook3.Round,.d (.sl 1 (List.map e29 r0_DappleBook3.Horses)),.d (.sl 8 (List.map e60 r0_rows3)),.d (.nilMap)])] 2 0) ?_
  refine RW.nil (hQ_1 _ ?_)
  refine AW.seqK (fun K_5 hK_5=>?_)
  refine Sa (sT [(1,jI one),(2,jI other),pR 8 1,(9,jI r1_1),(20,.d (.bool (decide (r1_1≠0))))] [(1,.var 53 [jI r0_DappleBook3.Round,.d (.sl 1 (List.map e29 r0_DappleBook3.Horses)),.d (.sl 8 (List.map e60 r0_rows3)),.d (.nilMap)])] 2 0) ?_
  refine AW.cond rfl (fun hb_6=>?_) (fun hb_6=>False.elim (by rw [hf_4] at hb_6;cases hb_6))
  refine Sa (sT [(6,.d (.nilSl)),(7,jI r1_1)] [] 2 0) ?_
  obtain rfl:=Option.some.inj h
  exact AW.ret (hR_0 _ (retX (.cons (.tmp rfl) (.cons (.tmp rfl) .nil)) (Frz.tup_of ⟨.nil 1,.refl _,trivial⟩) rfl (by kernel_rfl) (by kernel_rfl)))
 ·refine RW.one fokW (r_callS (zr:=[]) [] trivial rfl (k20 x one other _ hx_2) trivial rfl rfl ⟨.refl _,.refl _,.refl _,trivial⟩ rfl rfl rfl (r_end ?_))
  refine Au 6 (sT [(1,jI one),(2,jI other),pR 8 6,(9,jI r1_2)] [(6,.var 53 [jI r0_DappleBook4.Round,.d (.sl 1 (List.map e29 r0_DappleBook4.Horses)),.d (.sl 8 (List.map e60 r0_rows4)),.map 5]),(5,.mp (List.map m87_4 m4))] 7 0) ?_
  refine RW.nil (hQ_1 _ ?_)
  refine AW.seqK (fun K_7 hK_7=>?_)
  refine Sa (sT [(1,jI one),(2,jI other),pR 8 6,(9,jI r1_2),(20,.d (.bool (decide (r1_2≠0))))] [(6,.var 53 [jI r0_DappleBook4.Round,.d (.sl 1 (List.map e29 r0_DappleBook4.Horses)),.d (.sl 8 (List.map e60 r0_rows4)),.map 5]),(5,.mp (List.map m87_4 m4))] 7 0) ?_
  refine AW.cond rfl (fun hb_8=>?_) (fun hb_8=>?_)
  ·have h:=ifT hb_8 h
   refine Sa (sT [(6,.d (.nilSl)),(7,jI r1_2)] [] 7 0) ?_
   obtain rfl:=Option.some.inj h
   exact AW.ret (hR_0 _ (retX (.cons (.tmp rfl) (.cons (.tmp rfl) .nil)) (Frz.tup_of ⟨.nil 1,.refl _,trivial⟩) rfl (by kernel_rfl) (by kernel_rfl)))
  ·have h:=ifF hb_8 h
   refine AW.skip (hK_7 _ ?_)
   refine Sa (sT [(1,jI one),(2,jI other),pR 8 6,pR 10 7] [(7,.var 29 [.d (.nilSl)]),(6,.var 53 [jI r0_DappleBook4.Round,.d (.sl 1 (List.map e29 r0_DappleBook4.Horses)),.d (.sl 8 (List.map e60 r0_rows4)),.map 5]),(5,.mp (List.map m87_4 m4))] 8 0) ?_
   refine AW.seqK (fun K_9 hK_9=>?_)
   obtain ⟨c_10,hx_10,h⟩:=bsome h
   refine AW.jnSK (fun (⟨Round,Horses,rows,v,v1⟩:Int×(List (List Int))×(List (Nat→Int))×(Nat→Int)×(Nat→Int))=>(sT [pR 10 7,(35,.clo 34 [] [.ptr 8 0,.ptr 11 0,.ptr 9 0,.ptr 10 0])] [(8,.var 53 [jI Round,.d (.sl 1 (List.map e29 Horses)),.d (.sl 8 (List.map e60 rows)),.opq]),(9,.var 60 [jI (v 0),jI (v 1),jI (v 2),jI (v 3),jI (v 4),jI (v 5),jI (v 6),jI (v 7)]),(10,.var 60 [jI (v1 0),jI (v1 1),jI (v1 2),jI (v1 3),jI (v1 4),jI (v1 5),jI (v1 6),jI (v1 7)]),(11,.var 61 [.d (.fn 70)]),(7,.var 29 [.d (.nilSl)])] 12 0)) (c:=c_10) (fun K_10 hK_10=>?_) ?_
   ·have h:=hx_10
    refine AW.drw fokW ?_
    refine aX 4 (sT [(2,jI other),pR 8 6,pR 10 7,(22,.agg [jI r0_DappleBook4.Round,.d (.sl 1 (List.map e29 r0_DappleBook4.Horses)),.d (.sl 8 (List.map e60 r0_rows4)),.map 5]),(24,.d (.sl 8 (List.map e60 r0_rows4))),(25,jI one)] [(7,.var 29 [.d (.nilSl)]),(6,.var 53 [jI r0_DappleBook4.Round,.d (.sl 1 (List.map e29 r0_DappleBook4.Horses)),.d (.sl 8 (List.map e60 r0_rows4)),.map 5]),(5,.mp (List.map m87_4 m4))] 8 0) ?_
    obtain ⟨p,hv_12,h⟩:=bsome h
    refine r_iaD trivial rfl rfl (ixL_ok hv_12).1 (row:=e60 p) (mapget (ixL_ok hv_12).2) ?_
    refine aX 4 (sT [pR 10 7,(22,.agg [jI r0_DappleBook4.Round,.d (.sl 1 (List.map e29 r0_DappleBook4.Horses)),.d (.sl 8 (List.map e60 r0_rows4)),.map 5]),(27,.agg [jI (p 0),jI (p 1),jI (p 2),jI (p 3),jI (p 4),jI (p 5),jI (p 6),jI (p 7)]),(29,.d (.sl 8 (List.map e60 r0_rows4))),(30,jI other)] [(7,.var 29 [.d (.nilSl)]),(6,.var 53 [jI r0_DappleBook4.Round,.d (.sl 1 (List.map e29 r0_DappleBook4.Horses)),.d (.sl 8 (List.map e60 r0_rows4)),.map 5]),(5,.mp (List.map m87_4 m4))] 8 0) ?_
    obtain ⟨p1,hv_13,h⟩:=bsome h
    refine r_iaD trivial rfl rfl (ixL_ok hv_13).1 (row:=e60 p1) (mapget (ixL_ok hv_13).2) ?_
    refine aX 3 (sT [pR 10 7,(22,.agg [jI r0_DappleBook4.Round,.d (.sl 1 (List.map e29 r0_DappleBook4.Horses)),.d (.sl 8 (List.map e60 r0_rows4)),.map 5]),(27,.agg [jI (p 0),jI (p 1),jI (p 2),jI (p 3),jI (p 4),jI (p 5),jI (p 6),jI (p 7)]),(32,.agg [jI (p1 0),jI (p1 1),jI (p1 2),jI (p1 3),jI (p1 4),jI (p1 5),jI (p1 6),jI (p1 7)]),(34,.d (.fn 70))] [(7,.var 29 [.d (.nilSl)]),(6,.var 53 [jI r0_DappleBook4.Round,.d (.sl 1 (List.map e29 r0_DappleBook4.Horses)),.d (.sl 8 (List.map e60 r0_rows4)),.map 5]),(5,.mp (List.map m87_4 m4))] 8 0) ?_
    obtain ⟨⟨o0_DappleBook,o0_rows,o1,o2⟩,hx_14,h⟩:=bsome h
    refine r_callS (zr:=[]) [] trivial rfl (k21 r0_DappleBook4 r0_rows4 p p1 _ hx_14) trivial rfl rfl ⟨(Frz.agg_of ⟨.refl _,.refl _,.refl _,(.opq rfl (by intro _ h;cases h)),trivial⟩),.refl _,.refl _,.refl _,trivial⟩ rfl rfl rfl ?_
    refine Fi (sT [pR 10 7,(35,.clo 34 [] [.ptr 8 0,.ptr 11 0,.ptr 9 0,.ptr 10 0])] [(8,.var 53 [jI o0_DappleBook.Round,.d (.sl 1 (List.map e29 o0_DappleBook.Horses)),.d (.sl 8 (List.map e60 o0_rows)),.opq]),(9,.var 60 [jI (o1 0),jI (o1 1),jI (o1 2),jI (o1 3),jI (o1 4),jI (o1 5),jI (o1 6),jI (o1 7)]),(10,.var 60 [jI (o2 0),jI (o2 1),jI (o2 2),jI (o2 3),jI (o2 4),jI (o2 5),jI (o2 6),jI (o2 7)]),(11,.var 61 [.d (.fn 70)]),(7,.var 29 [.d (.nilSl)])] 12 0) ?_
    obtain rfl:=Option.some.inj h
    exact hK_10 _ (Can.kp (by kernel_rfl))
   ·obtain ⟨Round,Horses,rows,v,v1⟩:=c_10
    refine AW.block ?_
    refine AW.can (Can.thawH 7 0 29 3 1 rfl rfl rfl) ?_
    obtain ⟨out_15,hx_15,h⟩:=bsome h
    refine AW.rfX (fun (l:List Int)=>[(13,.dm),(7,.var 29 [.own 12 (List.map e3 l).length]),(12,.row 3 1 (List.map e3 l))]) (fun (_:Unit)=>[]) (fun _=>some .ret) g7_r15 (fun (a:Int)=>[jI a]) (s0:=([]:List Int)) (out:=out_15) [pR 10 7] [(7,.var 29 [.own 12 (List.map e3 []).length]),(12,.row 3 1 (List.map e3 []))] [8,11,9,10] rfl (.clo _ _ _) (by kernel_rfl) (by kernel_rfl) (fun fr_ hY_15=>k34 fr_ _ (fun a s s2 b h=>hY_15 a s s2 b h) (DappleBook.mk Round Horses) rows v v1 (.next ([]:List Int)) _ hx_15) (by kernel_rfl) ⟨rfl,rfl,rfl,rfl,trivial⟩ rfl ⟨rfl,rfl⟩ rfl rfl (fun _=>rfl) (fun _=>rfl) (fun a_15 s_15 c_15 h l_15=>?_) (fun _=>rfl) ?_
    ·have ⟨a,e_15⟩:∃ x,x=a_15:=⟨_,rfl⟩
     subst e_15
     have ⟨l,e_15⟩:∃ x,x=s_15:=⟨_,rfl⟩
     subst e_15
     unfold g7_r15 at h
     refine AW.ra (fokR l_15) [] (sT [pR 10 7,(11,jI a)] [(13,.dm),(7,.var 29 [.own 12 (List.map e3 l).length]),(12,.row 3 1 (List.map e3 l))] 14 14) (by kernel_rfl) ?_
     refine AW.block ?_
     refine AW.rw ?_
     refine RW.au (fokR l_15) 3 [] (sT [pR 10 7,(37,.own 12 (List.map e3 l).length),(39,.own 14 (List.map e3 [a]).length)] [(14,.row 3 1 (List.map e3 [a])),(13,.dm),(7,.var 29 [.own 12 (List.map e3 l).length]),(12,.row 3 1 (List.map e3 l))] 15 14) (by kernel_rfl) ?_
     obtain ⟨l1,hv_17,h⟩:=bsome h
     refine RW.one (fokR l_15) (r_apO trivial rfl rfl rfl rfl rfl rfl (apz hv_17 e3) (apr hv_17 e3) (r_end ?_))
     refine RW.au (fokR l_15) 1 [] (sT [] [(7,.var 29 [.own 12 (List.map e3 l1).length]),(12,.row 3 1 (List.map e3 l1)),(13,.dm)] 15 14) (by kernel_rfl) ?_
     refine RW.nil ?_
     obtain rfl:=Option.some.inj h
     exact ⟨(sT [] [(13,.dm),(7,.var 29 [.own 12 (List.map e3 l1).length]),(12,.row 3 1 (List.map e3 l1))] 14 14),Can.kp (by kernel_rfl),rdX trivial rfl (by kernel_rfl) (by kernel_rfl)⟩
    ·rcases out_15 with l | _
     ·refine hK_9 _ ?_
      refine AW.can (Can.fzH 7 0 12 rfl rfl rfl rfl) ?_
      refine AW.kp ⟨[pR 10 7],[(7,.var 29 [.d (.sl 1 (List.map e3 l))]),(13,.dm)],14,Fr.emp,[13],0⟩ (by kernel_rfl) ?_
      refine AW.srwK (fun Q_18 hQ_18=>?_)
      refine Au 2 ⟨[pR 10 7,(41,.d (.sl 1 (List.map e3 l))),(42,.d (.sl 1 (List.map e3 l)))],[(7,.var 29 [.d (.sl 1 (List.map e3 l))]),(13,.dm)],14,Fr.emp,[13],0⟩ ?_
      refine rL rfl ?_
      refine Au 1 ⟨[(41,.d (.sl 1 (List.map e3 l))),(43,jI (l.length:Int)),(44,.d (.sl 1 (List.map e3 l)))],[(13,.dm)],14,Fr.emp,[13],0⟩ ?_
      refine rL rfl ?_
      obtain ⟨l2,hv_19,h⟩:=bsome h
      refine RW.one fokW (r_slN trivial rfl rfl rfl DSl.d (slcL_ok hv_19).2.1 (by rw [List.length_map];exact (slcL_ok hv_19).2.2.1) rfl (slz hv_19 e3) (r_end ?_))
      refine Au 2 ⟨[(6,.fsl 1 (List.map e3 l2)),(7,jI 0)],[(13,.dm)],14,Fr.emp,[13],0⟩ ?_
      refine RW.nil (hQ_18 _ ?_)
      obtain rfl:=Option.some.inj h
      exact AW.ret (hR_0 _ (retX (.cons (.tmp rfl) (.cons (.tmp rfl) .nil)) (Frz.tup_of ⟨.fsl _ _,.refl _,trivial⟩) rfl (by kernel_rfl) (by kernel_rfl)))
     ·cases h
def g26 (x:MakerBook) (n:Int):Option Bool:=(g39 n 0 (wr ((x.Makers.length:Int) - 1))).bind fun r0=>some r0
theorem k26 (x:MakerBook) (n:Int) (r:Bool) (h:g26 x n=some r):SCall Tryd.prog Gs 26 [.agg [.d (.sl 1 (List.map e29 x.Makers)),.d (.sl 2 (List.map e83 x.Seen)),jI x.Repairs,jI x.Fixed],jI n] [] 0 Fr.emp (.d (.bool r)) [] 0 Fr.emp:=by
 unfold g26 at h
 refine SCall.mkK Tryd.func26 c26 rfl rfl (by kernel_rfl) (fun Q_0 hR_0 hN_0=>?_)
 refine Sa (sT [(1,jI n),pR 2 0] [(0,.var 37 (cv37 x))] 1 0) ?_
 refine AW.srwK (fun Q_1 hQ_1=>?_)
 refine Au 3 (sT [(5,jI n),(7,.d (.sl 1 (List.map e29 x.Makers)))] [] 1 0) ?_
 refine rL rfl ?_
 refine Au 1 (sT [(5,jI n),(9,jI (wr ((x.Makers.length:Int) - 1)))] [] 1 0) ?_
 obtain ⟨r0,hx_2,h⟩:=bsome h
 refine rC (k39 n 0 (wr ((x.Makers.length:Int) - 1)) _ hx_2) ?_
 refine Au 1 (sT [(4,.d (.bool r0))] [] 1 0) ?_
 refine RW.nil (hQ_1 _ ?_)
 obtain rfl:=Option.some.inj h
 exact rT hR_0 (.cons (.tmp rfl) .nil)
def g41 (x:Int):Option Int:=some (bAnd (wr (IntKind.u64.wrap ((IntKind.u64.wrap ((IntKind.u64.wrap ((uAnd (IntKind.u64.wrap ((shr64 (IntKind.u64.wrap ((uAnd (shr64 (IntKind.u64.wrap ((uAnd (shr64 x 1) 6148914691236517205)+(uAnd x 6148914691236517205))) 2) 3689348814741910323)+(uAnd (IntKind.u64.wrap ((uAnd (shr64 x 1) 6148914691236517205)+(uAnd x 6148914691236517205))) 3689348814741910323))) 4)+(IntKind.u64.wrap ((uAnd (shr64 (IntKind.u64.wrap ((uAnd (shr64 x 1) 6148914691236517205)+(uAnd x 6148914691236517205))) 2) 3689348814741910323)+(uAnd (IntKind.u64.wrap ((uAnd (shr64 x 1) 6148914691236517205)+(uAnd x 6148914691236517205))) 3689348814741910323))))) 1085102592571150095)+(shr64 (uAnd (IntKind.u64.wrap ((shr64 (IntKind.u64.wrap ((uAnd (shr64 (IntKind.u64.wrap ((uAnd (shr64 x 1) 6148914691236517205)+(uAnd x 6148914691236517205))) 2) 3689348814741910323)+(uAnd (IntKind.u64.wrap ((uAnd (shr64 x 1) 6148914691236517205)+(uAnd x 6148914691236517205))) 3689348814741910323))) 4)+(IntKind.u64.wrap ((uAnd (shr64 (IntKind.u64.wrap ((uAnd (shr64 x 1) 6148914691236517205)+(uAnd x 6148914691236517205))) 2) 3689348814741910323)+(uAnd (IntKind.u64.wrap ((uAnd (shr64 x 1) 6148914691236517205)+(uAnd x 6148914691236517205))) 3689348814741910323))))) 1085102592571150095) 8)))+(shr64 (IntKind.u64.wrap ((uAnd (IntKind.u64.wrap ((shr64 (IntKind.u64.wrap ((uAnd (shr64 (IntKind.u64.wrap ((uAnd (shr64 x 1) 6148914691236517205)+(uAnd x 6148914691236517205))) 2) 3689348814741910323)+(uAnd (IntKind.u64.wrap ((uAnd (shr64 x 1) 6148914691236517205)+(uAnd x 6148914691236517205))) 3689348814741910323))) 4)+(IntKind.u64.wrap ((uAnd (shr64 (IntKind.u64.wrap ((uAnd (shr64 x 1) 6148914691236517205)+(uAnd x 6148914691236517205))) 2) 3689348814741910323)+(uAnd (IntKind.u64.wrap ((uAnd (shr64 x 1) 6148914691236517205)+(uAnd x 6148914691236517205))) 3689348814741910323))))) 1085102592571150095)+(shr64 (uAnd (IntKind.u64.wrap ((shr64 (IntKind.u64.wrap ((uAnd (shr64 (IntKind.u64.wrap ((uAnd (shr64 x 1) 6148914691236517205)+(uAnd x 6148914691236517205))) 2) 3689348814741910323)+(uAnd (IntKind.u64.wrap ((uAnd (shr64 x 1) 6148914691236517205)+(uAnd x 6148914691236517205))) 3689348814741910323))) 4)+(IntKind.u64.wrap ((uAnd (shr64 (IntKind.u64.wrap ((uAnd (shr64 x 1) 6148914691236517205)+(uAnd x 6148914691236517205))) 2) 3689348814741910323)+(uAnd (IntKind.u64.wrap ((uAnd (shr64 x 1) 6148914691236517205)+(uAnd x 6148914691236517205))) 3689348814741910323))))) 1085102592571150095) 8))) 16)))+(shr64 (IntKind.u64.wrap ((IntKind.u64.wrap ((uAnd (IntKind.u64.wrap ((shr64 (IntKind.u64.wrap ((uAnd (shr64 (IntKind.u64.wrap ((uAnd (shr64 x 1) 6148914691236517205)+(uAnd x 6148914691236517205))) 2) 3689348814741910323)+(uAnd (IntKind.u64.wrap ((uAnd (shr64 x 1) 6148914691236517205)+(uAnd x 6148914691236517205))) 3689348814741910323))) 4)+(IntKind.u64.wrap ((uAnd (shr64 (IntKind.u64.wrap ((uAnd (shr64 x 1) 6148914691236517205)+(uAnd x 6148914691236517205))) 2) 3689348814741910323)+(uAnd (IntKind.u64.wrap ((uAnd (shr64 x 1) 6148914691236517205)+(uAnd x 6148914691236517205))) 3689348814741910323))))) 1085102592571150095)+(shr64 (uAnd (IntKind.u64.wrap ((shr64 (IntKind.u64.wrap ((uAnd (shr64 (IntKind.u64.wrap ((uAnd (shr64 x 1) 6148914691236517205)+(uAnd x 6148914691236517205))) 2) 3689348814741910323)+(uAnd (IntKind.u64.wrap ((uAnd (shr64 x 1) 6148914691236517205)+(uAnd x 6148914691236517205))) 3689348814741910323))) 4)+(IntKind.u64.wrap ((uAnd (shr64 (IntKind.u64.wrap ((uAnd (shr64 x 1) 6148914691236517205)+(uAnd x 6148914691236517205))) 2) 3689348814741910323)+(uAnd (IntKind.u64.wrap ((uAnd (shr64 x 1) 6148914691236517205)+(uAnd x 6148914691236517205))) 3689348814741910323))))) 1085102592571150095) 8)))+(shr64 (IntKind.u64.wrap ((uAnd (IntKind.u64.wrap ((shr64 (IntKind.u64.wrap ((uAnd (shr64 (IntKind.u64.wrap ((uAnd (shr64 x 1) 6148914691236517205)+(uAnd x 6148914691236517205))) 2) 3689348814741910323)+(uAnd (IntKind.u64.wrap ((uAnd (shr64 x 1) 6148914691236517205)+(uAnd x 6148914691236517205))) 3689348814741910323))) 4)+(IntKind.u64.wrap ((uAnd (shr64 (IntKind.u64.wrap ((uAnd (shr64 x 1) 6148914691236517205)+(uAnd x 6148914691236517205))) 2) 3689348814741910323)+(uAnd (IntKind.u64.wrap ((uAnd (shr64 x 1) 6148914691236517205)+(uAnd x 6148914691236517205))) 3689348814741910323))))) 1085102592571150095)+(shr64 (uAnd (IntKind.u64.wrap ((shr64 (IntKind.u64.wrap ((uAnd (shr64 (IntKind.u64.wrap ((uAnd (shr64 x 1) 6148914691236517205)+(uAnd x 6148914691236517205))) 2) 3689348814741910323)+(uAnd (IntKind.u64.wrap ((uAnd (shr64 x 1) 6148914691236517205)+(uAnd x 6148914691236517205))) 3689348814741910323))) 4)+(IntKind.u64.wrap ((uAnd (shr64 (IntKind.u64.wrap ((uAnd (shr64 x 1) 6148914691236517205)+(uAnd x 6148914691236517205))) 2) 3689348814741910323)+(uAnd (IntKind.u64.wrap ((uAnd (shr64 x 1) 6148914691236517205)+(uAnd x 6148914691236517205))) 3689348814741910323))))) 1085102592571150095) 8))) 16))) 32)))) 127)
theorem k41 (x:Int) (r:Int) (h:g41 x=some r):SCall Tryd.prog Gs 41 [.d (.int .u64 x)] [] 0 Fr.emp (jI r) [] 0 Fr.emp:=by
 unfold g41 at h
 refine SCall.mkK Tryd.func41 c41 rfl rfl (by kernel_rfl) (fun Q_0 hR_0 hN_0=>?_)
 refine Sa (sT [(0,.d (.int .u64 x))] [] 0 0) ?_
 refine AW.srwK (fun Q_1 hQ_1=>?_)
 refine Au 1 (sT [(0,.d (.int .u64 x)),(3,.d (.int .u64 x))] [] 0 0) ?_
 refine RW.one fokW (r_sh trivial rfl rfl (shr64u_ok (by decide)) (r_end ?_))
 refine Au 5 (sT [(0,.d (.int .u64 (IntKind.u64.wrap ((uAnd (shr64 x 1) 6148914691236517205)+(uAnd x 6148914691236517205)))))] [] 0 0) ?_
 refine RW.nil (hQ_1 _ ?_)
 refine AW.srwK (fun Q_3 hQ_3=>?_)
 refine Au 1 (sT [(0,.d (.int .u64 (IntKind.u64.wrap ((uAnd (shr64 x 1) 6148914691236517205)+(uAnd x 6148914691236517205))))),(9,.d (.int .u64 (IntKind.u64.wrap ((uAnd (shr64 x 1) 6148914691236517205)+(uAnd x 6148914691236517205)))))] [] 0 0) ?_
 refine RW.one fokW (r_sh trivial rfl rfl (shr64u_ok (by decide)) (r_end ?_))
 refine Au 5 (sT [(0,.d (.int .u64 (IntKind.u64.wrap ((uAnd (shr64 (IntKind.u64.wrap ((uAnd (shr64 x 1) 6148914691236517205)+(uAnd x 6148914691236517205))) 2) 3689348814741910323)+(uAnd (IntKind.u64.wrap ((uAnd (shr64 x 1) 6148914691236517205)+(uAnd x 6148914691236517205))) 3689348814741910323)))))] [] 0 0) ?_
 refine RW.nil (hQ_3 _ ?_)
 refine AW.srwK (fun Q_5 hQ_5=>?_)
 refine Au 1 (sT [(0,.d (.int .u64 (IntKind.u64.wrap ((uAnd (shr64 (IntKind.u64.wrap ((uAnd (shr64 x 1) 6148914691236517205)+(uAnd x 6148914691236517205))) 2) 3689348814741910323)+(uAnd (IntKind.u64.wrap ((uAnd (shr64 x 1) 6148914691236517205)+(uAnd x 6148914691236517205))) 3689348814741910323))))),(15,.d (.int .u64 (IntKind.u64.wrap ((uAnd (shr64 (IntKind.u64.wrap ((uAnd (shr64 x 1) 6148914691236517205)+(uAnd x 6148914691236517205))) 2) 3689348814741910323)+(uAnd (IntKind.u64.wrap ((uAnd (shr64 x 1) 6148914691236517205)+(uAnd x 6148914691236517205))) 3689348814741910323)))))] [] 0 0) ?_
 refine RW.one fokW (r_sh trivial rfl rfl (shr64u_ok (by decide)) (r_end ?_))
 refine Au 4 (sT [(0,.d (.int .u64 (uAnd (IntKind.u64.wrap ((shr64 (IntKind.u64.wrap ((uAnd (shr64 (IntKind.u64.wrap ((uAnd (shr64 x 1) 6148914691236517205)+(uAnd x 6148914691236517205))) 2) 3689348814741910323)+(uAnd (IntKind.u64.wrap ((uAnd (shr64 x 1) 6148914691236517205)+(uAnd x 6148914691236517205))) 3689348814741910323))) 4)+(IntKind.u64.wrap ((uAnd (shr64 (IntKind.u64.wrap ((uAnd (shr64 x 1) 6148914691236517205)+(uAnd x 6148914691236517205))) 2) 3689348814741910323)+(uAnd (IntKind.u64.wrap ((uAnd (shr64 x 1) 6148914691236517205)+(uAnd x 6148914691236517205))) 3689348814741910323))))) 1085102592571150095)))] [] 0 0) ?_
 refine RW.nil (hQ_5 _ ?_)
 refine AW.srwK (fun Q_7 hQ_7=>?_)
 refine Au 2 (sT [(20,.d (.int .u64 (uAnd (IntKind.u64.wrap ((shr64 (IntKind.u64.wrap ((uAnd (shr64 (IntKind.u64.wrap ((uAnd (shr64 x 1) 6148914691236517205)+(uAnd x 6148914691236517205))) 2) 3689348814741910323)+(uAnd (IntKind.u64.wrap ((uAnd (shr64 x 1) 6148914691236517205)+(uAnd x 6148914691236517205))) 3689348814741910323))) 4)+(IntKind.u64.wrap ((uAnd (shr64 (IntKind.u64.wrap ((uAnd (shr64 x 1) 6148914691236517205)+(uAnd x 6148914691236517205))) 2) 3689348814741910323)+(uAnd (IntKind.u64.wrap ((uAnd (shr64 x 1) 6148914691236517205)+(uAnd x 6148914691236517205))) 3689348814741910323))))) 1085102592571150095))),(21,.d (.int .u64 (uAnd (IntKind.u64.wrap ((shr64 (IntKind.u64.wrap ((uAnd (shr64 (IntKind.u64.wrap ((uAnd (shr64 x 1) 6148914691236517205)+(uAnd x 6148914691236517205))) 2) 3689348814741910323)+(uAnd (IntKind.u64.wrap ((uAnd (shr64 x 1) 6148914691236517205)+(uAnd x 6148914691236517205))) 3689348814741910323))) 4)+(IntKind.u64.wrap ((uAnd (shr64 (IntKind.u64.wrap ((uAnd (shr64 x 1) 6148914691236517205)+(uAnd x 6148914691236517205))) 2) 3689348814741910323)+(uAnd (IntKind.u64.wrap ((uAnd (shr64 x 1) 6148914691236517205)+(uAnd x 6148914691236517205))) 3689348814741910323))))) 1085102592571150095)))] [] 0 0) ?_
 refine RW.one fokW (r_sh trivial rfl rfl (shr64u_ok (by decide)) (r_end ?_))
 refine Au 2 (sT [(0,.d (.int .u64 (IntKind.u64.wrap ((uAnd (IntKind.u64.wrap ((shr64 (IntKind.u64.wrap ((uAnd (shr64 (IntKind.u64.wrap ((uAnd (shr64 x 1) 6148914691236517205)+(uAnd x 6148914691236517205))) 2) 3689348814741910323)+(uAnd (IntKind.u64.wrap ((uAnd (shr64 x 1) 6148914691236517205)+(uAnd x 6148914691236517205))) 3689348814741910323))) 4)+(IntKind.u64.wrap ((uAnd (shr64 (IntKind.u64.wrap ((uAnd (shr64 x 1) 6148914691236517205)+(uAnd x 6148914691236517205))) 2) 3689348814741910323)+(uAnd (IntKind.u64.wrap ((uAnd (shr64 x 1) 6148914691236517205)+(uAnd x 6148914691236517205))) 3689348814741910323))))) 1085102592571150095)+(shr64 (uAnd (IntKind.u64.wrap ((shr64 (IntKind.u64.wrap ((uAnd (shr64 (IntKind.u64.wrap ((uAnd (shr64 x 1) 6148914691236517205)+(uAnd x 6148914691236517205))) 2) 3689348814741910323)+(uAnd (IntKind.u64.wrap ((uAnd (shr64 x 1) 6148914691236517205)+(uAnd x 6148914691236517205))) 3689348814741910323))) 4)+(IntKind.u64.wrap ((uAnd (shr64 (IntKind.u64.wrap ((uAnd (shr64 x 1) 6148914691236517205)+(uAnd x 6148914691236517205))) 2) 3689348814741910323)+(uAnd (IntKind.u64.wrap ((uAnd (shr64 x 1) 6148914691236517205)+(uAnd x 6148914691236517205))) 3689348814741910323))))) 1085102592571150095) 8)))))] [] 0 0) ?_
 refine RW.nil (hQ_7 _ ?_)
 refine AW.srwK (fun Q_9 hQ_9=>?_)
 refine Au 2 (sT [(24,.d (.int .u64 (IntKind.u64.wrap ((uAnd (IntKind.u64.wrap ((shr64 (IntKind.u64.wrap ((uAnd (shr64 (IntKind.u64.wrap ((uAnd (shr64 x 1) 6148914691236517205)+(uAnd x 6148914691236517205))) 2) 3689348814741910323)+(uAnd (IntKind.u64.wrap ((uAnd (shr64 x 1) 6148914691236517205)+(uAnd x 6148914691236517205))) 3689348814741910323))) 4)+(IntKind.u64.wrap ((uAnd (shr64 (IntKind.u64.wrap ((uAnd (shr64 x 1) 6148914691236517205)+(uAnd x 6148914691236517205))) 2) 3689348814741910323)+(uAnd (IntKind.u64.wrap ((uAnd (shr64 x 1) 6148914691236517205)+(uAnd x 6148914691236517205))) 3689348814741910323))))) 1085102592571150095)+(shr64 (uAnd (IntKind.u64.wrap ((shr64 (IntKind.u64.wrap ((uAnd (shr64 (IntKind.u64.wrap ((uAnd (shr64 x 1) 6148914691236517205)+(uAnd x 6148914691236517205))) 2) 3689348814741910323)+(uAnd (IntKind.u64.wrap ((uAnd (shr64 x 1) 6148914691236517205)+(uAnd x 6148914691236517205))) 3689348814741910323))) 4)+(IntKind.u64.wrap ((uAnd (shr64 (IntKind.u64.wrap ((uAnd (shr64 x 1) 6148914691236517205)+(uAnd x 6148914691236517205))) 2) 3689348814741910323)+(uAnd (IntKind.u64.wrap ((uAnd (shr64 x 1) 6148914691236517205)+(uAnd x 6148914691236517205))) 3689348814741910323))))) 1085102592571150095) 8))))),(25,.d (.int .u64 (IntKind.u64.wrap ((uAnd (IntKind.u64.wrap ((shr64 (IntKind.u64.wrap ((uAnd (shr64 (IntKind.u64.wrap ((uAnd (shr64 x 1) 6148914691236517205)+(uAnd x 6148914691236517205))) 2) 3689348814741910323)+(uAnd (IntKind.u64.wrap ((uAnd (shr64 x 1) 6148914691236517205)+(uAnd x 6148914691236517205))) 3689348814741910323))) 4)+(IntKind.u64.wrap ((uAnd (shr64 (IntKind.u64.wrap ((uAnd (shr64 x 1) 6148914691236517205)+(uAnd x 6148914691236517205))) 2) 3689348814741910323)+(uAnd (IntKind.u64.wrap ((uAnd (shr64 x 1) 6148914691236517205)+(uAnd x 6148914691236517205))) 3689348814741910323))))) 1085102592571150095)+(shr64 (uAnd (IntKind.u64.wrap ((shr64 (IntKind.u64.wrap ((uAnd (shr64 (IntKind.u64.wrap ((uAnd (shr64 x 1) 6148914691236517205)+(uAnd x 6148914691236517205))) 2) 3689348814741910323)+(uAnd (IntKind.u64.wrap ((uAnd (shr64 x 1) 6148914691236517205)+(uAnd x 6148914691236517205))) 3689348814741910323))) 4)+(IntKind.u64.wrap ((uAnd (shr64 (IntKind.u64.wrap ((uAnd (shr64 x 1) 6148914691236517205)+(uAnd x 6148914691236517205))) 2) 3689348814741910323)+(uAnd (IntKind.u64.wrap ((uAnd (shr64 x 1) 6148914691236517205)+(uAnd x 6148914691236517205))) 3689348814741910323))))) 1085102592571150095) 8)))))] [] 0 0) ?_
 refine RW.one fokW (r_sh trivial rfl rfl (shr64u_ok (by decide)) (r_end ?_))
 refine Au 2 (sT [(0,.d (.int .u64 (IntKind.u64.wrap ((IntKind.u64.wrap ((uAnd (IntKind.u64.wrap ((shr64 (IntKind.u64.wrap ((uAnd (shr64 (IntKind.u64.wrap ((uAnd (shr64 x 1) 6148914691236517205)+(uAnd x 6148914691236517205))) 2) 3689348814741910323)+(uAnd (IntKind.u64.wrap ((uAnd (shr64 x 1) 6148914691236517205)+(uAnd x 6148914691236517205))) 3689348814741910323))) 4)+(IntKind.u64.wrap ((uAnd (shr64 (IntKind.u64.wrap ((uAnd (shr64 x 1) 6148914691236517205)+(uAnd x 6148914691236517205))) 2) 3689348814741910323)+(uAnd (IntKind.u64.wrap ((uAnd (shr64 x 1) 6148914691236517205)+(uAnd x 6148914691236517205))) 3689348814741910323))))) 1085102592571150095)+(shr64 (uAnd (IntKind.u64.wrap ((shr64 (IntKind.u64.wrap ((uAnd (shr64 (IntKind.u64.wrap ((uAnd (shr64 x 1) 6148914691236517205)+(uAnd x 6148914691236517205))) 2) 3689348814741910323)+(uAnd (IntKind.u64.wrap ((uAnd (shr64 x 1) 6148914691236517205)+(uAnd x 6148914691236517205))) 3689348814741910323))) 4)+(IntKind.u64.wrap ((uAnd (shr64 (IntKind.u64.wrap ((uAnd (shr64 x 1) 6148914691236517205)+(uAnd x 6148914691236517205))) 2) 3689348814741910323)+(uAnd (IntKind.u64.wrap ((uAnd (shr64 x 1) 6148914691236517205)+(uAnd x 6148914691236517205))) 3689348814741910323))))) 1085102592571150095) 8)))+(shr64 (IntKind.u64.wrap ((uAnd (IntKind.u64.wrap ((shr64 (IntKind.u64.wrap ((uAnd (shr64 (IntKind.u64.wrap ((uAnd (shr64 x 1) 6148914691236517205)+(uAnd x 6148914691236517205))) 2) 3689348814741910323)+(uAnd (IntKind.u64.wrap ((uAnd (shr64 x 1) 6148914691236517205)+(uAnd x 6148914691236517205))) 3689348814741910323))) 4)+(IntKind.u64.wrap ((uAnd (shr64 (IntKind.u64.wrap ((uAnd (shr64 x 1) 6148914691236517205)+(uAnd x 6148914691236517205))) 2) 3689348814741910323)+(uAnd (IntKind.u64.wrap ((uAnd (shr64 x 1) 6148914691236517205)+(uAnd x 6148914691236517205))) 3689348814741910323))))) 1085102592571150095)+(shr64 (uAnd (IntKind.u64.wrap ((shr64 (IntKind.u64.wrap ((uAnd (shr64 (IntKind.u64.wrap ((uAnd (shr64 x 1) 6148914691236517205)+(uAnd x 6148914691236517205))) 2) 3689348814741910323)+(uAnd (IntKind.u64.wrap ((uAnd (shr64 x 1) 6148914691236517205)+(uAnd x 6148914691236517205))) 3689348814741910323))) 4)+(IntKind.u64.wrap ((uAnd (shr64 (IntKind.u64.wrap ((uAnd (shr64 x 1) 6148914691236517205)+(uAnd x 6148914691236517205))) 2) 3689348814741910323)+(uAnd (IntKind.u64.wrap ((uAnd (shr64 x 1) 6148914691236517205)+(uAnd x 6148914691236517205))) 3689348814741910323))))) 1085102592571150095) 8))) 16)))))] [] 0 0) ?_
 refine RW.nil (hQ_9 _ ?_)
 refine AW.srwK (fun Q_11 hQ_11=>?_)
 refine Au 2 (sT [(28,.d (.int .u64 (IntKind.u64.wrap ((IntKind.u64.wrap ((uAnd (IntKind.u64.wrap ((shr64 (IntKind.u64.wrap ((uAnd (shr64 (IntKind.u64.wrap ((uAnd (shr64 x 1) 6148914691236517205)+(uAnd x 6148914691236517205))) 2) 3689348814741910323)+(uAnd (IntKind.u64.wrap ((uAnd (shr64 x 1) 6148914691236517205)+(uAnd x 6148914691236517205))) 3689348814741910323))) 4)+(IntKind.u64.wrap ((uAnd (shr64 (IntKind.u64.wrap ((uAnd (shr64 x 1) 6148914691236517205)+(uAnd x 6148914691236517205))) 2) 3689348814741910323)+(uAnd (IntKind.u64.wrap ((uAnd (shr64 x 1) 6148914691236517205)+(uAnd x 6148914691236517205))) 3689348814741910323))))) 1085102592571150095)+(shr64 (uAnd (IntKind.u64.wrap ((shr64 (IntKind.u64.wrap ((uAnd (shr64 (IntKind.u64.wrap ((uAnd (shr64 x 1) 6148914691236517205)+(uAnd x 6148914691236517205))) 2) 3689348814741910323)+(uAnd (IntKind.u64.wrap ((uAnd (shr64 x 1) 6148914691236517205)+(uAnd x 6148914691236517205))) 3689348814741910323))) 4)+(IntKind.u64.wrap ((uAnd (shr64 (IntKind.u64.wrap ((uAnd (shr64 x 1) 6148914691236517205)+(uAnd x 6148914691236517205))) 2) 3689348814741910323)+(uAnd (IntKind.u64.wrap ((uAnd (shr64 x 1) 6148914691236517205)+(uAnd x 6148914691236517205))) 3689348814741910323))))) 1085102592571150095) 8)))+(shr64 (IntKind.u64.wrap ((uAnd (IntKind.u64.wrap ((shr64 (IntKind.u64.wrap ((uAnd (shr64 (IntKind.u64.wrap ((uAnd (shr64 x 1) 6148914691236517205)+(uAnd x 6148914691236517205))) 2) 3689348814741910323)+(uAnd (IntKind.u64.wrap ((uAnd (shr64 x 1) 6148914691236517205)+(uAnd x 6148914691236517205))) 3689348814741910323))) 4)+(IntKind.u64.wrap ((uAnd (shr64 (IntKind.u64.wrap ((uAnd (shr64 x 1) 6148914691236517205)+(uAnd x 6148914691236517205))) 2) 3689348814741910323)+(uAnd (IntKind.u64.wrap ((uAnd (shr64 x 1) 6148914691236517205)+(uAnd x 6148914691236517205))) 3689348814741910323))))) 1085102592571150095)+(shr64 (uAnd (IntKind.u64.wrap ((shr64 (IntKind.u64.wrap ((uAnd (shr64 (IntKind.u64.wrap ((uAnd (shr64 x 1) 6148914691236517205)+(uAnd x 6148914691236517205))) 2) 3689348814741910323)+(uAnd (IntKind.u64.wrap ((uAnd (shr64 x 1) 6148914691236517205)+(uAnd x 6148914691236517205))) 3689348814741910323))) 4)+(IntKind.u64.wrap ((uAnd (shr64 (IntKind.u64.wrap ((uAnd (shr64 x 1) 6148914691236517205)+(uAnd x 6148914691236517205))) 2) 3689348814741910323)+(uAnd (IntKind.u64.wrap ((uAnd (shr64 x 1) 6148914691236517205)+(uAnd x 6148914691236517205))) 3689348814741910323))))) 1085102592571150095) 8))) 16))))),(29,.d (.int .u64 (IntKind.u64.wrap ((IntKind.u64.wrap ((uAnd (IntKind.u64.wrap ((shr64 (IntKind.u64.wrap ((uAnd (shr64 (IntKind.u64.wrap ((uAnd (shr64 x 1) 6148914691236517205)+(uAnd x 6148914691236517205))) 2) 3689348814741910323)+(uAnd (IntKind.u64.wrap ((uAnd (shr64 x 1) 6148914691236517205)+(uAnd x 6148914691236517205))) 3689348814741910323))) 4)+(IntKind.u64.wrap ((uAnd (shr64 (IntKind.u64.wrap ((uAnd (shr64 x 1) 6148914691236517205)+(uAnd x 6148914691236517205))) 2) 3689348814741910323)+(uAnd (IntKind.u64.wrap ((uAnd (shr64 x 1) 6148914691236517205)+(uAnd x 6148914691236517205))) 3689348814741910323))))) 1085102592571150095)+(shr64 (uAnd (IntKind.u64.wrap ((shr64 (IntKind.u64.wrap ((uAnd (shr64 (IntKind.u64.wrap ((uAnd (shr64 x 1) 6148914691236517205)+(uAnd x 6148914691236517205))) 2) 3689348814741910323)+(uAnd (IntKind.u64.wrap ((uAnd (shr64 x 1) 6148914691236517205)+(uAnd x 6148914691236517205))) 3689348814741910323))) 4)+(IntKind.u64.wrap ((uAnd (shr64 (IntKind.u64.wrap ((uAnd (shr64 x 1) 6148914691236517205)+(uAnd x 6148914691236517205))) 2) 3689348814741910323)+(uAnd (IntKind.u64.wrap ((uAnd (shr64 x 1) 6148914691236517205)+(uAnd x 6148914691236517205))) 3689348814741910323))))) 1085102592571150095) 8)))+(shr64 (IntKind.u64.wrap ((uAnd (IntKind.u64.wrap ((shr64 (IntKind.u64.wrap ((uAnd (shr64 (IntKind.u64.wrap ((uAnd (shr64 x 1) 6148914691236517205)+(uAnd x 6148914691236517205))) 2) 3689348814741910323)+(uAnd (IntKind.u64.wrap ((uAnd (shr64 x 1) 6148914691236517205)+(uAnd x 6148914691236517205))) 3689348814741910323))) 4)+(IntKind.u64.wrap ((uAnd (shr64 (IntKind.u64.wrap ((uAnd (shr64 x 1) 6148914691236517205)+(uAnd x 6148914691236517205))) 2) 3689348814741910323)+(uAnd (IntKind.u64.wrap ((uAnd (shr64 x 1) 6148914691236517205)+(uAnd x 6148914691236517205))) 3689348814741910323))))) 1085102592571150095)+(shr64 (uAnd (IntKind.u64.wrap ((shr64 (IntKind.u64.wrap ((uAnd (shr64 (IntKind.u64.wrap ((uAnd (shr64 x 1) 6148914691236517205)+(uAnd x 6148914691236517205))) 2) 3689348814741910323)+(uAnd (IntKind.u64.wrap ((uAnd (shr64 x 1) 6148914691236517205)+(uAnd x 6148914691236517205))) 3689348814741910323))) 4)+(IntKind.u64.wrap ((uAnd (shr64 (IntKind.u64.wrap ((uAnd (shr64 x 1) 6148914691236517205)+(uAnd x 6148914691236517205))) 2) 3689348814741910323)+(uAnd (IntKind.u64.wrap ((uAnd (shr64 x 1) 6148914691236517205)+(uAnd x 6148914691236517205))) 3689348814741910323))))) 1085102592571150095) 8))) 16)))))] [] 0 0) ?_
 refine RW.one fokW (r_sh trivial rfl rfl (shr64u_ok (by decide)) (r_end ?_))
 refine Au 2 (sT [(0,.d (.int .u64 (IntKind.u64.wrap ((IntKind.u64.wrap ((IntKind.u64.wrap ((uAnd (IntKind.u64.wrap ((shr64 (IntKind.u64.wrap ((uAnd (shr64 (IntKind.u64.wrap ((uAnd (shr64 x 1) 6148914691236517205)+(uAnd x 6148914691236517205))) 2) 3689348814741910323)+(uAnd (IntKind.u64.wrap ((uAnd (shr64 x 1) 6148914691236517205)+(uAnd x 6148914691236517205))) 3689348814741910323))) 4)+(IntKind.u64.wrap ((uAnd (shr64 (IntKind.u64.wrap ((uAnd (shr64 x 1) 6148914691236517205)+(uAnd x 6148914691236517205))) 2) 3689348814741910323)+(uAnd (IntKind.u64.wrap ((uAnd (shr64 x 1) 6148914691236517205)+(uAnd x 6148914691236517205))) 3689348814741910323))))) 1085102592571150095)+(shr64 (uAnd (IntKind.u64.wrap ((shr64 (IntKind.u64.wrap ((uAnd (shr64 (IntKind.u64.wrap ((uAnd (shr64 x 1) 6148914691236517205)+(uAnd x 6148914691236517205))) 2) 3689348814741910323)+(uAnd (IntKind.u64.wrap ((uAnd (shr64 x 1) 6148914691236517205)+(uAnd x 6148914691236517205))) 3689348814741910323))) 4)+(IntKind.u64.wrap ((uAnd (shr64 (IntKind.u64.wrap ((uAnd (shr64 x 1) 6148914691236517205)+(uAnd x 6148914691236517205))) 2) 3689348814741910323)+(uAnd (IntKind.u64.wrap ((uAnd (shr64 x 1) 6148914691236517205)+(uAnd x 6148914691236517205))) 3689348814741910323))))) 1085102592571150095) 8)))+(shr64 (IntKind.u64.wrap ((uAnd (IntKind.u64.wrap ((shr64 (IntKind.u64.wrap ((uAnd (shr64 (IntKind.u64.wrap ((uAnd (shr64 x 1) 6148914691236517205)+(uAnd x 6148914691236517205))) 2) 3689348814741910323)+(uAnd (IntKind.u64.wrap ((uAnd (shr64 x 1) 6148914691236517205)+(uAnd x 6148914691236517205))) 3689348814741910323))) 4)+(IntKind.u64.wrap ((uAnd (shr64 (IntKind.u64.wrap ((uAnd (shr64 x 1) 6148914691236517205)+(uAnd x 6148914691236517205))) 2) 3689348814741910323)+(uAnd (IntKind.u64.wrap ((uAnd (shr64 x 1) 6148914691236517205)+(uAnd x 6148914691236517205))) 3689348814741910323))))) 1085102592571150095)+(shr64 (uAnd (IntKind.u64.wrap ((shr64 (IntKind.u64.wrap ((uAnd (shr64 (IntKind.u64.wrap ((uAnd (shr64 x 1) 6148914691236517205)+(uAnd x 6148914691236517205))) 2) 3689348814741910323)+(uAnd (IntKind.u64.wrap ((uAnd (shr64 x 1) 6148914691236517205)+(uAnd x 6148914691236517205))) 3689348814741910323))) 4)+(IntKind.u64.wrap ((uAnd (shr64 (IntKind.u64.wrap ((uAnd (shr64 x 1) 6148914691236517205)+(uAnd x 6148914691236517205))) 2) 3689348814741910323)+(uAnd (IntKind.u64.wrap ((uAnd (shr64 x 1) 6148914691236517205)+(uAnd x 6148914691236517205))) 3689348814741910323))))) 1085102592571150095) 8))) 16)))+(shr64 (IntKind.u64.wrap ((IntKind.u64.wrap ((uAnd (IntKind.u64.wrap ((shr64 (IntKind.u64.wrap ((uAnd (shr64 (IntKind.u64.wrap ((uAnd (shr64 x 1) 6148914691236517205)+(uAnd x 6148914691236517205))) 2) 3689348814741910323)+(uAnd (IntKind.u64.wrap ((uAnd (shr64 x 1) 6148914691236517205)+(uAnd x 6148914691236517205))) 3689348814741910323))) 4)+(IntKind.u64.wrap ((uAnd (shr64 (IntKind.u64.wrap ((uAnd (shr64 x 1) 6148914691236517205)+(uAnd x 6148914691236517205))) 2) 3689348814741910323)+(uAnd (IntKind.u64.wrap ((uAnd (shr64 x 1) 6148914691236517205)+(uAnd x 6148914691236517205))) 3689348814741910323))))) 1085102592571150095)+(shr64 (uAnd (IntKind.u64.wrap ((shr64 (IntKind.u64.wrap ((uAnd (shr64 (IntKind.u64.wrap ((uAnd (shr64 x 1) 6148914691236517205)+(uAnd x 6148914691236517205))) 2) 3689348814741910323)+(uAnd (IntKind.u64.wrap ((uAnd (shr64 x 1) 6148914691236517205)+(uAnd x 6148914691236517205))) 3689348814741910323))) 4)+(IntKind.u64.wrap ((uAnd (shr64 (IntKind.u64.wrap ((uAnd (shr64 x 1) 6148914691236517205)+(uAnd x 6148914691236517205))) 2) 3689348814741910323)+(uAnd (IntKind.u64.wrap ((uAnd (shr64 x 1) 6148914691236517205)+(uAnd x 6148914691236517205))) 3689348814741910323))))) 1085102592571150095) 8)))+(shr64 (IntKind.u64.wrap ((uAnd (IntKind.u64.wrap ((shr64 (IntKind.u64.wrap ((uAnd (shr64 (IntKind.u64.wrap ((uAnd (shr64 x 1) 6148914691236517205)+(uAnd x 6148914691236517205))) 2) 3689348814741910323)+(uAnd (IntKind.u64.wrap ((uAnd (shr64 x 1) 6148914691236517205)+(uAnd x 6148914691236517205))) 3689348814741910323))) 4)+(IntKind.u64.wrap ((uAnd (shr64 (IntKind.u64.wrap ((uAnd (shr64 x 1) 6148914691236517205)+(uAnd x 6148914691236517205))) 2) 3689348814741910323)+(uAnd (IntKind.u64.wrap ((uAnd (shr64 x 1) 6148914691236517205)+(uAnd x 6148914691236517205))) 3689348814741910323))))) 1085102592571150095)+(shr64 (uAnd (IntKind.u64.wrap ((shr64 (IntKind.u64.wrap ((uAnd (shr64 (IntKind.u64.wrap ((uAnd (shr64 x 1) 6148914691236517205)+(uAnd x 6148914691236517205))) 2) 3689348814741910323)+(uAnd (IntKind.u64.wrap ((uAnd (shr64 x 1) 6148914691236517205)+(uAnd x 6148914691236517205))) 3689348814741910323))) 4)+(IntKind.u64.wrap ((uAnd (shr64 (IntKind.u64.wrap ((uAnd (shr64 x 1) 6148914691236517205)+(uAnd x 6148914691236517205))) 2) 3689348814741910323)+(uAnd (IntKind.u64.wrap ((uAnd (shr64 x 1) 6148914691236517205)+(uAnd x 6148914691236517205))) 3689348814741910323))))) 1085102592571150095) 8))) 16))) 32)))))] [] 0 0) ?_
 refine RW.nil (hQ_11 _ ?_)
 refine AW.srwK (fun Q_13 hQ_13=>?_)
 refine Au 1 (sT [(32,.d (.int .u64 (IntKind.u64.wrap ((IntKind.u64.wrap ((IntKind.u64.wrap ((uAnd (IntKind.u64.wrap ((shr64 (IntKind.u64.wrap ((uAnd (shr64 (IntKind.u64.wrap ((uAnd (shr64 x 1) 6148914691236517205)+(uAnd x 6148914691236517205))) 2) 3689348814741910323)+(uAnd (IntKind.u64.wrap ((uAnd (shr64 x 1) 6148914691236517205)+(uAnd x 6148914691236517205))) 3689348814741910323))) 4)+(IntKind.u64.wrap ((uAnd (shr64 (IntKind.u64.wrap ((uAnd (shr64 x 1) 6148914691236517205)+(uAnd x 6148914691236517205))) 2) 3689348814741910323)+(uAnd (IntKind.u64.wrap ((uAnd (shr64 x 1) 6148914691236517205)+(uAnd x 6148914691236517205))) 3689348814741910323))))) 1085102592571150095)+(shr64 (uAnd (IntKind.u64.wrap ((shr64 (IntKind.u64.wrap ((uAnd (shr64 (IntKind.u64.wrap ((uAnd (shr64 x 1) 6148914691236517205)+(uAnd x 6148914691236517205))) 2) 3689348814741910323)+(uAnd (IntKind.u64.wrap ((uAnd (shr64 x 1) 6148914691236517205)+(uAnd x 6148914691236517205))) 3689348814741910323))) 4)+(IntKind.u64.wrap ((uAnd (shr64 (IntKind.u64.wrap ((uAnd (shr64 x 1) 6148914691236517205)+(uAnd x 6148914691236517205))) 2) 3689348814741910323)+(uAnd (IntKind.u64.wrap ((uAnd (shr64 x 1) 6148914691236517205)+(uAnd x 6148914691236517205))) 3689348814741910323))))) 1085102592571150095) 8)))+(shr64 (IntKind.u64.wrap ((uAnd (IntKind.u64.wrap ((shr64 (IntKind.u64.wrap ((uAnd (shr64 (IntKind.u64.wrap ((uAnd (shr64 x 1) 6148914691236517205)+(uAnd x 6148914691236517205))) 2) 3689348814741910323)+(uAnd (IntKind.u64.wrap ((uAnd (shr64 x 1) 6148914691236517205)+(uAnd x 6148914691236517205))) 3689348814741910323))) 4)+(IntKind.u64.wrap ((uAnd (shr64 (IntKind.u64.wrap ((uAnd (shr64 x 1) 6148914691236517205)+(uAnd x 6148914691236517205))) 2) 3689348814741910323)+(uAnd (IntKind.u64.wrap ((uAnd (shr64 x 1) 6148914691236517205)+(uAnd x 6148914691236517205))) 3689348814741910323))))) 1085102592571150095)+(shr64 (uAnd (IntKind.u64.wrap ((shr64 (IntKind.u64.wrap ((uAnd (shr64 (IntKind.u64.wrap ((uAnd (shr64 x 1) 6148914691236517205)+(uAnd x 6148914691236517205))) 2) 3689348814741910323)+(uAnd (IntKind.u64.wrap ((uAnd (shr64 x 1) 6148914691236517205)+(uAnd x 6148914691236517205))) 3689348814741910323))) 4)+(IntKind.u64.wrap ((uAnd (shr64 (IntKind.u64.wrap ((uAnd (shr64 x 1) 6148914691236517205)+(uAnd x 6148914691236517205))) 2) 3689348814741910323)+(uAnd (IntKind.u64.wrap ((uAnd (shr64 x 1) 6148914691236517205)+(uAnd x 6148914691236517205))) 3689348814741910323))))) 1085102592571150095) 8))) 16)))+(shr64 (IntKind.u64.wrap ((IntKind.u64.wrap ((uAnd (IntKind.u64.wrap ((shr64 (IntKind.u64.wrap ((uAnd (shr64 (IntKind.u64.wrap ((uAnd (shr64 x 1) 6148914691236517205)+(uAnd x 6148914691236517205))) 2) 3689348814741910323)+(uAnd (IntKind.u64.wrap ((uAnd (shr64 x 1) 6148914691236517205)+(uAnd x 6148914691236517205))) 3689348814741910323))) 4)+(IntKind.u64.wrap ((uAnd (shr64 (IntKind.u64.wrap ((uAnd (shr64 x 1) 6148914691236517205)+(uAnd x 6148914691236517205))) 2) 3689348814741910323)+(uAnd (IntKind.u64.wrap ((uAnd (shr64 x 1) 6148914691236517205)+(uAnd x 6148914691236517205))) 3689348814741910323))))) 1085102592571150095)+(shr64 (uAnd (IntKind.u64.wrap ((shr64 (IntKind.u64.wrap ((uAnd (shr64 (IntKind.u64.wrap ((uAnd (shr64 x 1) 6148914691236517205)+(uAnd x 6148914691236517205))) 2) 3689348814741910323)+(uAnd (IntKind.u64.wrap ((uAnd (shr64 x 1) 6148914691236517205)+(uAnd x 6148914691236517205))) 3689348814741910323))) 4)+(IntKind.u64.wrap ((uAnd (shr64 (IntKind.u64.wrap ((uAnd (shr64 x 1) 6148914691236517205)+(uAnd x 6148914691236517205))) 2) 3689348814741910323)+(uAnd (IntKind.u64.wrap ((uAnd (shr64 x 1) 6148914691236517205)+(uAnd x 6148914691236517205))) 3689348814741910323))))) 1085102592571150095) 8)))+(shr64 (IntKind.u64.wrap ((uAnd (IntKind.u64.wrap ((shr64 (IntKind.u64.wrap ((uAnd (shr64 (IntKind.u64.wrap ((uAnd (shr64 x 1) 6148914691236517205)+(uAnd x 6148914691236517205))) 2) 3689348814741910323)+(uAnd (IntKind.u64.wrap ((uAnd (shr64 x 1) 6148914691236517205)+(uAnd x 6148914691236517205))) 3689348814741910323))) 4)+(IntKind.u64.wrap ((uAnd (shr64 (IntKind.u64.wrap ((uAnd (shr64 x 1) 6148914691236517205)+(uAnd x 6148914691236517205))) 2) 3689348814741910323)+(uAnd (IntKind.u64.wrap ((uAnd (shr64 x 1) 6148914691236517205)+(uAnd x 6148914691236517205))) 3689348814741910323))))) 1085102592571150095)+(shr64 (uAnd (IntKind.u64.wrap ((shr64 (IntKind.u64.wrap ((uAnd (shr64 (IntKind.u64.wrap ((uAnd (shr64 x 1) 6148914691236517205)+(uAnd x 6148914691236517205))) 2) 3689348814741910323)+(uAnd (IntKind.u64.wrap ((uAnd (shr64 x 1) 6148914691236517205)+(uAnd x 6148914691236517205))) 3689348814741910323))) 4)+(IntKind.u64.wrap ((uAnd (shr64 (IntKind.u64.wrap ((uAnd (shr64 x 1) 6148914691236517205)+(uAnd x 6148914691236517205))) 2) 3689348814741910323)+(uAnd (IntKind.u64.wrap ((uAnd (shr64 x 1) 6148914691236517205)+(uAnd x 6148914691236517205))) 3689348814741910323))))) 1085102592571150095) 8))) 16))) 32)))))] [] 0 0) ?_
 refine RW.one fokW (r_conv trivial rfl (r_end ?_))
 refine Au 2 (sT [(2,jI (bAnd (wr (IntKind.u64.wrap ((IntKind.u64.wrap ((IntKind.u64.wrap ((uAnd (IntKind.u64.wrap ((shr64 (IntKind.u64.wrap ((uAnd (shr64 (IntKind.u64.wrap ((uAnd (shr64 x 1) 6148914691236517205)+(uAnd x 6148914691236517205))) 2) 3689348814741910323)+(uAnd (IntKind.u64.wrap ((uAnd (shr64 x 1) 6148914691236517205)+(uAnd x 6148914691236517205))) 3689348814741910323))) 4)+(IntKind.u64.wrap ((uAnd (shr64 (IntKind.u64.wrap ((uAnd (shr64 x 1) 6148914691236517205)+(uAnd x 6148914691236517205))) 2) 3689348814741910323)+(uAnd (IntKind.u64.wrap ((uAnd (shr64 x 1) 6148914691236517205)+(uAnd x 6148914691236517205))) 3689348814741910323))))) 1085102592571150095)+(shr64 (uAnd (IntKind.u64.wrap ((shr64 (IntKind.u64.wrap ((uAnd (shr64 (IntKind.u64.wrap ((uAnd (shr64 x 1) 6148914691236517205)+(uAnd x 6148914691236517205))) 2) 3689348814741910323)+(uAnd (IntKind.u64.wrap ((uAnd (shr64 x 1) 6148914691236517205)+(uAnd x 6148914691236517205))) 3689348814741910323))) 4)+(IntKind.u64.wrap ((uAnd (shr64 (IntKind.u64.wrap ((uAnd (shr64 x 1) 6148914691236517205)+(uAnd x 6148914691236517205))) 2) 3689348814741910323)+(uAnd (IntKind.u64.wrap ((uAnd (shr64 x 1) 6148914691236517205)+(uAnd x 6148914691236517205))) 3689348814741910323))))) 1085102592571150095) 8)))+(shr64 (IntKind.u64.wrap ((uAnd (IntKind.u64.wrap ((shr64 (IntKind.u64.wrap ((uAnd (shr64 (IntKind.u64.wrap ((uAnd (shr64 x 1) 6148914691236517205)+(uAnd x 6148914691236517205))) 2) 3689348814741910323)+(uAnd (IntKind.u64.wrap ((uAnd (shr64 x 1) 6148914691236517205)+(uAnd x 6148914691236517205))) 3689348814741910323))) 4)+(IntKind.u64.wrap ((uAnd (shr64 (IntKind.u64.wrap ((uAnd (shr64 x 1) 6148914691236517205)+(uAnd x 6148914691236517205))) 2) 3689348814741910323)+(uAnd (IntKind.u64.wrap ((uAnd (shr64 x 1) 6148914691236517205)+(uAnd x 6148914691236517205))) 3689348814741910323))))) 1085102592571150095)+(shr64 (uAnd (IntKind.u64.wrap ((shr64 (IntKind.u64.wrap ((uAnd (shr64 (IntKind.u64.wrap ((uAnd (shr64 x 1) 6148914691236517205)+(uAnd x 6148914691236517205))) 2) 3689348814741910323)+(uAnd (IntKind.u64.wrap ((uAnd (shr64 x 1) 6148914691236517205)+(uAnd x 6148914691236517205))) 3689348814741910323))) 4)+(IntKind.u64.wrap ((uAnd (shr64 (IntKind.u64.wrap ((uAnd (shr64 x 1) 6148914691236517205)+(uAnd x 6148914691236517205))) 2) 3689348814741910323)+(uAnd (IntKind.u64.wrap ((uAnd (shr64 x 1) 6148914691236517205)+(uAnd x 6148914691236517205))) 3689348814741910323))))) 1085102592571150095) 8))) 16)))+(shr64 (IntKind.u64.wrap ((IntKind.u64.wrap ((uAnd (IntKind.u64.wrap ((shr64 (IntKind.u64.wrap ((uAnd (shr64 (IntKind.u64.wrap ((uAnd (shr64 x 1) 6148914691236517205)+(uAnd x 6148914691236517205))) 2) 3689348814741910323)+(uAnd (IntKind.u64.wrap ((uAnd (shr64 x 1) 6148914691236517205)+(uAnd x 6148914691236517205))) 3689348814741910323))) 4)+(IntKind.u64.wrap ((uAnd (shr64 (IntKind.u64.wrap ((uAnd (shr64 x 1) 6148914691236517205)+(uAnd x 6148914691236517205))) 2) 3689348814741910323)+(uAnd (IntKind.u64.wrap ((uAnd (shr64 x 1) 6148914691236517205)+(uAnd x 6148914691236517205))) 3689348814741910323))))) 1085102592571150095)+(shr64 (uAnd (IntKind.u64.wrap ((shr64 (IntKind.u64.wrap ((uAnd (shr64 (IntKind.u64.wrap ((uAnd (shr64 x 1) 6148914691236517205)+(uAnd x 6148914691236517205))) 2) 3689348814741910323)+(uAnd (IntKind.u64.wrap ((uAnd (shr64 x 1) 6148914691236517205)+(uAnd x 6148914691236517205))) 3689348814741910323))) 4)+(IntKind.u64.wrap ((uAnd (shr64 (IntKind.u64.wrap ((uAnd (shr64 x 1) 6148914691236517205)+(uAnd x 6148914691236517205))) 2) 3689348814741910323)+(uAnd (IntKind.u64.wrap ((uAnd (shr64 x 1) 6148914691236517205)+(uAnd x 6148914691236517205))) 3689348814741910323))))) 1085102592571150095) 8)))+(shr64 (IntKind.u64.wrap ((uAnd (IntKind.u64.wrap ((shr64 (IntKind.u64.wrap ((uAnd (shr64 (IntKind.u64.wrap ((uAnd (shr64 x 1) 6148914691236517205)+(uAnd x 6148914691236517205))) 2) 3689348814741910323)+(uAnd (IntKind.u64.wrap ((uAnd (shr64 x 1) 6148914691236517205)+(uAnd x 6148914691236517205))) 3689348814741910323))) 4)+(IntKind.u64.wrap ((uAnd (shr64 (IntKind.u64.wrap ((uAnd (shr64 x 1) 6148914691236517205)+(uAnd x 6148914691236517205))) 2) 3689348814741910323)+(uAnd (IntKind.u64.wrap ((uAnd (shr64 x 1) 6148914691236517205)+(uAnd x 6148914691236517205))) 3689348814741910323))))) 1085102592571150095)+(shr64 (uAnd (IntKind.u64.wrap ((shr64 (IntKind.u64.wrap ((uAnd (shr64 (IntKind.u64.wrap ((uAnd (shr64 x 1) 6148914691236517205)+(uAnd x 6148914691236517205))) 2) 3689348814741910323)+(uAnd (IntKind.u64.wrap ((uAnd (shr64 x 1) 6148914691236517205)+(uAnd x 6148914691236517205))) 3689348814741910323))) 4)+(IntKind.u64.wrap ((uAnd (shr64 (IntKind.u64.wrap ((uAnd (shr64 x 1) 6148914691236517205)+(uAnd x 6148914691236517205))) 2) 3689348814741910323)+(uAnd (IntKind.u64.wrap ((uAnd (shr64 x 1) 6148914691236517205)+(uAnd x 6148914691236517205))) 3689348814741910323))))) 1085102592571150095) 8))) 16))) 32)))) 127))] [] 0 0) ?_
 refine RW.nil (hQ_13 _ ?_)
 obtain rfl:=Option.some.inj h
 exact rT hR_0 (.cons (.tmp rfl) .nil)
def g27 (x:Int):Option Int:=(g41 x).bind fun r0=>some r0
theorem k27 (x:Int) (r:Int) (h:g27 x=some r):SCall Tryd.prog Gs 27 [.d (.int .u64 x)] [] 0 Fr.emp (jI r) [] 0 Fr.emp:=by
 unfold g27 at h
 refine SCall.mkK Tryd.func27 c27 rfl rfl (by kernel_rfl) (fun Q_0 hR_0 hN_0=>?_)
 refine Sa (sT [(0,.d (.int .u64 x))] [] 0 0) ?_
 refine AW.seqK (fun K_1 hK_1=>?_)
 refine AW.condF rfl ?_
 refine AW.skip (hK_1 _ ?_)
 refine AW.srwK (fun Q_2 hQ_2=>?_)
 refine Au 1 (sT [(6,.d (.int .u64 x))] [] 0 0) ?_
 obtain ⟨r0,hx_3,h⟩:=bsome h
 refine rC (k41 x _ hx_3) ?_
 refine Au 1 (sT [(2,jI r0)] [] 0 0) ?_
 refine RW.nil (hQ_2 _ ?_)
 obtain rfl:=Option.some.inj h
 exact rT hR_0 (.cons (.tmp rfl) .nil)
def g10_15 (x:MakerBook) (other:Int):Int→Int→Int→Option Int:=fun v1 p1 apart=>(ixL x.Makers other).bind fun p2=>(ixL p2 v1).bind fun p3=>bif (decide ((bAnd p1 p3)=0)) then ((must (decide (0≤v1))).bind fun _=>some (bOr apart (shl64 1 v1))) else (some apart)
def g10 (x:MakerBook) (one:Int) (other:Int):Option (Bool×Int):=(g25 x).bind fun r0_9=>bif (decide (r0_9≠0)) then (some (false,r0_9)) else ((g26 x one).bind fun r0_1=>(bif (!r0_1) then (some true) else ((g26 x other).bind fun r0_1_1=>some (!r0_1_1))).bind fun v=>bif (v||(decide (one=other))) then (some (false,51)) else ((ixL x.Makers one).bind fun p=>(eachS (g10_15 x other) p 0 0).bind fun apart=>bif (decide ((bAnd apart x.Fixed)≠0)) then (some (true,0)) else ((g27 (IntKind.u64.wrap apart)).bind fun r0_1_2=>some ((decide ((wr (2*x.Repairs))<r0_1_2)),0))))
theorem k10 (x:MakerBook) (one:Int) (other:Int) (r:Bool×Int) (h:g10 x one other=some r):SCall Tryd.prog Gs 10 [.agg [.d (.sl 1 (List.map e29 x.Makers)),.d (.sl 2 (List.map e83 x.Seen)),jI x.Repairs,jI x.Fixed],jI one,jI other] [] 0 Fr.emp (match r with | (r0_4,r1_3)=>.tup [.d (.bool r0_4),jI r1_3]) [] 0 Fr.emp:=by
 unfold g10 at h
 refine SCall.mkK Tryd.func10 c10 rfl rfl (by kernel_rfl) (fun Q_0 hR_0 hN_0=>?_)
 refine Sa (sT [(1,jI one),(2,jI other),pR 3 0] [(0,.var 37 (cv37 x))] 1 0) ?_
 refine AW.seqK fun K_1 hK_1=>AW.srwK fun Q_2 hQ_2=>?_
 refine Au 1 (sT [(1,jI one),(2,jI other),pR 3 0,(12,.agg [.d (.sl 1 (List.map e29 x.Makers)),.d (.sl 2 (List.map e83 x.Seen)),jI x.Repairs,jI x.Fixed])] [(0,.var 37 (cv37 x))] 1 0) ?_
 obtain ⟨r0_9,hx_3,h⟩:=bsome h
 refine rC (k25 x _ hx_3) ?_
 refine Au 1 (sT [(1,jI one),(2,jI other),pR 3 0,(8,jI r0_9)] [(0,.var 37 (cv37 x))] 1 0) ?_
 refine RW.nil (hQ_2 _ ?_)
 refine Sa (sT [(1,jI one),(2,jI other),pR 3 0,(8,jI r0_9),(15,.d (.bool (decide (r0_9≠0))))] [(0,.var 37 (cv37 x))] 1 0) ?_
 refine AW.cond rfl (fun hb_4=>?_) (fun hb_4=>?_)
 ·have h:=ifT hb_4 h
  refine Sa (sT [(6,.d (.bool false)),(7,jI r0_9)] [] 1 0) ?_
  obtain rfl:=Option.some.inj h
  exact rT hR_0 (.cons (.tmp rfl) (.cons (.tmp rfl) .nil))
 ·have h:=ifF hb_4 h
  refine AW.skip (hK_1 _ ?_)
  refine AW.seqK fun K_5 hK_5=>AW.srwK fun Q_6 hQ_6=>?_
  refine Au 2 (sT [(1,jI one),(2,jI other),pR 3 0,(17,.agg [.d (.sl 1 (List.map e29 x.Makers)),.d (.sl 2 (List.map e83 x.Seen)),jI x.Repairs,jI x.Fixed]),(18,jI one)] [(0,.var 37 (cv37 x))] 1 0) ?_
  obtain ⟨r0_1,hx_7,h⟩:=bsome h
  refine rC (k26 x one _ hx_7) ?_
  refine Au 2 (sT [(1,jI one),(2,jI other),pR 3 0,(21,.d (.bool (!r0_1)))] [(0,.var 37 (cv37 x))] 1 0) ?_
  obtain ⟨v,hx_8,h⟩:=bsome h
  refine RW.cut fokW 5 ((sT [(1,jI one),(2,jI other),pR 3 0,(26,.d (.bool v))] [(0,.var 37 (cv37 x))] 1 0)) ?_ ?_
  ·refine r_split 21 rfl (fun hb_10=>?_) (fun hb_10=>?_)
   ·have h:=ifT hb_10 hx_8
    refine aX 5 (sT [(1,jI one),(2,jI other),pR 3 0,(26,.d (.bool true))] [(0,.var 37 (cv37 x))] 1 0) ?_
    obtain rfl:=Option.some.inj h
    refine RunC.finJ (Can.kp (by kernel_rfl))
   ·have h:=ifF hb_10 hx_8
    refine aX 2 (sT [(1,jI one),(2,jI other),pR 3 0,(21,.d (.bool false)),(22,.agg [.d (.sl 1 (List.map e29 x.Makers)),.d (.sl 2 (List.map e83 x.Seen)),jI x.Repairs,jI x.Fixed]),(23,jI other)] [(0,.var 37 (cv37 x))] 1 0) ?_
    obtain ⟨r0_1_1,hx_9,h⟩:=bsome h
    refine r_call rfl rfl (k26 x other _ hx_9) rfl rfl ?_
    refine aX 2 (sT [(1,jI one),(2,jI other),pR 3 0,(26,.d (.bool (!r0_1_1)))] [(0,.var 37 (cv37 x))] 1 0) ?_
    obtain rfl:=Option.some.inj h
    refine RunC.finJ (Can.kp (by kernel_rfl))
  ·refine RW.au fokW 5 [27] (sT [(1,jI one),(2,jI other),pR 3 0,(31,.d (.bool (v||(decide (one=other)))))] [(0,.var 37 (cv37 x))] 1 0) (by kernel_rfl) ?_
   refine RW.nil (hQ_6 _ ?_)
   refine AW.cond rfl (fun hb_11=>?_) (fun hb_11=>?_)
   ·have h:=ifT hb_11 h
    refine Sa (sT [(6,.d (.bool false)),(7,jI 51)] [] 1 0) ?_
    obtain rfl:=Option.some.inj h
    exact rT hR_0 (.cons (.tmp rfl) (.cons (.tmp rfl) .nil))
   ·have h:=ifF hb_11 h
    refine AW.skip (hK_5 _ ?_)
    refine Sa (sT [(1,jI one),(2,jI other),pR 3 0,(9,jI 0)] [(0,.var 37 (cv37 x))] 1 0) ?_
    refine AW.seqK fun K_12 hK_12=>AW.srwK fun Q_13 hQ_13=>?_
    refine Au 3 (sT [(2,jI other),pR 3 0,(9,jI 0),(33,.d (.sl 1 (List.map e29 x.Makers))),(34,jI one)] [(0,.var 37 (cv37 x))] 1 0) ?_
    obtain ⟨p,hv_14,h⟩:=bsome h
    refine RW.one fokW (r_iaD trivial rfl rfl (ixL_ok hv_14).1 (row:=e29 p) (mapget (ixL_ok hv_14).2) (r_end ?_))
    refine Au 1 (sT [(2,jI other),pR 3 0,(9,jI 0),(36,.d (.sl 1 (List.map e3 p)))] [(0,.var 37 (cv37 x))] 1 0) ?_
    refine rL rfl ?_
    refine Au 1 (sT [(2,jI other),pR 3 0,(9,jI 0),(36,.d (.sl 1 (List.map e3 p))),(37,jI (p.length:Int)),(38,jI 0)] [(0,.var 37 (cv37 x))] 1 0) ?_
    refine RW.nil (hQ_13 _ ?_)
    refine AW.block ?_
    refine AW.sln (t:=36) rfl (fun hN_15=>?_)
    rw [List.length_map] at hN_15
    obtain ⟨out_15,hx_15,h⟩:=bsome h
    refine AW.evSK (fun (v1:Int) (apart:Int)=>(sT [(2,jI other),pR 3 0,(9,jI apart),(36,.d (.sl 1 (List.map e3 p))),(37,jI (p.length:Int)),(38,jI v1)] [(0,.var 37 (cv37 x))] 1 0)) (g10_15 x other) hx_15 (Can.kp (by kernel_rfl)) (fun v1 p1 apart hi_15 hl_15 hp_15 c_15 h K_15 hK_15=>?_) (fun v1 apart hi_15 hl_15 hout=>?_)
    ·unfold g10_15 at h
     refine Sa (sT [(2,jI other),pR 3 0,(9,jI apart),(36,.d (.sl 1 (List.map e3 p))),(37,jI (p.length:Int)),(38,jI v1),(39,.d (.bool (decide (v1<(p.length:Int)))))] [(0,.var 37 (cv37 x))] 1 0) ?_
     refine AW.seqK (fun K_16 hK_16=>?_)
     refine AW.cond rfl (fun hb_17=>?_) (fun hb_17=>False.elim (by have:=of_decide_eq_false hb_17;omega))
     refine AW.skip (hK_16 _ ?_)
     refine AW.seqK (fun K_18 hK_18=>?_)
     refine AW.block ?_
     refine AW.srwK (fun Q_19 hQ_19=>?_)
     refine Au 1 (sT [(2,jI other),pR 3 0,(9,jI apart),(36,.d (.sl 1 (List.map e3 p))),(37,jI (p.length:Int)),(38,jI v1),(40,jI v1)] [(0,.var 37 (cv37 x))] 1 0) ?_
     refine RW.one fokW (r_iaD trivial rfl rfl hi_15 (row:=e3 p1) (mapget hp_15) (r_end ?_))
     refine Au 3 (sT [(2,jI other),pR 3 0,(9,jI apart),(10,jI v1),(11,jI p1),(36,.d (.sl 1 (List.map e3 p))),(37,jI (p.length:Int)),(38,jI v1)] [(0,.var 37 (cv37 x))] 1 0) ?_
     refine RW.nil (hQ_19 _ ?_)
     refine AW.srwK (fun Q_20 hQ_20=>?_)
     refine Au 4 (sT [(2,jI other),pR 3 0,(9,jI apart),(10,jI v1),(36,.d (.sl 1 (List.map e3 p))),(37,jI (p.length:Int)),(38,jI v1),(43,jI p1),(45,.d (.sl 1 (List.map e29 x.Makers))),(46,jI other)] [(0,.var 37 (cv37 x))] 1 0) ?_
     obtain ⟨p2,hv_21,h⟩:=bsome h
     refine RW.one fokW (r_iaD trivial rfl rfl (ixL_ok hv_21).1 (row:=e29 p2) (mapget (ixL_ok hv_21).2) (r_end ?_))
     refine Au 2 (sT [(2,jI other),pR 3 0,(9,jI apart),(10,jI v1),(36,.d (.sl 1 (List.map e3 p))),(37,jI (p.length:Int)),(38,jI v1),(43,jI p1),(48,.d (.sl 1 (List.map e3 p2))),(49,jI v1)] [(0,.var 37 (cv37 x))] 1 0) ?_
     obtain ⟨p3,hv_22,h⟩:=bsome h
     refine RW.one fokW (r_iaD trivial rfl rfl (ixL_ok hv_22).1 (row:=e3 p3) (mapget (ixL_ok hv_22).2) (r_end ?_))
     refine Au 3 (sT [(2,jI other),pR 3 0,(9,jI apart),(10,jI v1),(36,.d (.sl 1 (List.map e3 p))),(37,jI (p.length:Int)),(38,jI v1),(53,.d (.bool (decide ((bAnd p1 p3)=0))))] [(0,.var 37 (cv37 x))] 1 0) ?_
     refine RW.nil (hQ_20 _ ?_)
     refine AW.cond rfl (fun hb_23=>?_) (fun hb_23=>?_)
     ·have h:=ifT hb_23 h
      refine AW.rw ?_
      refine Au 2 (sT [(2,jI other),pR 3 0,(36,.d (.sl 1 (List.map e3 p))),(37,jI (p.length:Int)),(38,jI v1),(54,jI apart),(55,jI v1)] [(0,.var 37 (cv37 x))] 1 0) ?_
      obtain ⟨_,hv_25,h⟩:=bsome h
      refine RW.one fokW (r_sh trivial rfl rfl (shl64_ok (of_decide_eq_true (must_ok hv_25))) (r_end ?_))
      refine Au 2 (sT [(2,jI other),pR 3 0,(9,jI (bOr apart (shl64 1 v1))),(36,.d (.sl 1 (List.map e3 p))),(37,jI (p.length:Int)),(38,jI v1)] [(0,.var 37 (cv37 x))] 1 0) ?_
      refine RW.nil ?_
      refine hK_18 _ ?_
      refine Ra (sT [(2,jI other),pR 3 0,(9,jI (bOr apart (shl64 1 v1))),(36,.d (.sl 1 (List.map e3 p))),(37,jI (p.length:Int)),(38,jI (wr (v1+1)))] [(0,.var 37 (cv37 x))] 1 0) ?_
      obtain rfl:=Option.some.inj h
      have ew:wr (v1+1)=v1+1:=inext (N:=(p.length:Int)) (by omega) (by omega) (by omega)
      rw [ew]
      exact hK_15 _ (Can.kp (by kernel_rfl))
     ·have h:=ifF hb_23 h
      refine AW.skip (hK_18 _ ?_)
      refine Ra (sT [(2,jI other),pR 3 0,(9,jI apart),(36,.d (.sl 1 (List.map e3 p))),(37,jI (p.length:Int)),(38,jI (wr (v1+1)))] [(0,.var 37 (cv37 x))] 1 0) ?_
      obtain rfl:=Option.some.inj h
      have ew:wr (v1+1)=v1+1:=inext (N:=(p.length:Int)) (by omega) (by omega) (by omega)
      rw [ew]
      exact hK_15 _ (Can.kp (by kernel_rfl))
    ·subst hout
     refine Sa (sT [(2,jI other),pR 3 0,(9,jI apart),(36,.d (.sl 1 (List.map e3 p))),(37,jI (p.length:Int)),(38,jI v1),(39,.d (.bool (decide (v1<(p.length:Int)))))] [(0,.var 37 (cv37 x))] 1 0) ?_
     refine AW.seqK (fun K_26 hK_26=>?_)
     refine AW.cond rfl (fun hb_27=>False.elim (by have:=of_decide_eq_true hb_27;omega)) (fun hb_27=>?_)
     refine AW.exit ?_
     refine hK_12 _ ?_
     refine AW.sdrwK fokW (fun Q_28 hQ_28=>?_)
     refine aX 6 (sT [pR 3 0,(9,jI apart),(64,.d (.bool (decide ((bAnd apart x.Fixed)≠0))))] [(0,.var 37 (cv37 x))] 1 0) ?_
     refine r_split 64 rfl (fun hb_29=>?_) (fun hb_29=>?_)
     ·have h:=ifT hb_29 h
      refine aX 10 (sT [(6,.d (.bool true)),(7,jI 0)] [(0,.var 37 (cv37 x))] 1 0) ?_
      refine Fi (sT [(6,.d (.bool true)),(7,jI 0)] [] 1 0) ?_
      refine hQ_28 _ ?_
      obtain rfl:=Option.some.inj h
      exact rT hR_0 (.cons (.tmp rfl) (.cons (.tmp rfl) .nil))
     ·have h:=ifF hb_29 h
      refine aX 1 (sT [pR 3 0,(64,.d (.bool false)),(65,jI apart)] [(0,.var 37 (cv37 x))] 1 0) ?_
      refine r_conv rfl rfl ?_
      obtain ⟨r0_1_2,hx_30,h⟩:=bsome h
      refine r_call rfl rfl (k27 (IntKind.u64.wrap apart) _ hx_30) rfl rfl ?_
      refine aX 7 (sT [(6,.d (.bool (decide ((wr (2*x.Repairs))<r0_1_2)))),(7,jI 0)] [(0,.var 37 (cv37 x))] 1 0) ?_
      refine Fi (sT [(6,.d (.bool (decide ((wr (2*x.Repairs))<r0_1_2)))),(7,jI 0)] [] 1 0) ?_
      refine hQ_28 _ ?_
      obtain rfl:=Option.some.inj h
      exact rT hR_0 (.cons (.tmp rfl) (.cons (.tmp rfl) .nil))
def g21a (b_DappleBook:DappleBook) (b_rows:(List (Nat→Int))) (r_:(Nat→Int)) (s:(Nat→Int)):Option (DappleBook×(List (Nat→Int))×(Nat→Int)×(Nat→Int)):=some (b_DappleBook,b_rows,r_,s)
def y31 (s:(Nat→Int)) (r_:(Nat→Int)) (b_DappleBook:DappleBook) (b_rows:(List (Nat→Int))):List (Nat×Blk):=[(3,.var 61 [.d (.fn 72)]),(2,.var 60 [jI (s 0),jI (s 1),jI (s 2),jI (s 3),jI (s 4),jI (s 5),jI (s 6),jI (s 7)]),(1,.var 60 [jI (r_ 0),jI (r_ 1),jI (r_ 2),jI (r_ 3),jI (r_ 4),jI (r_ 5),jI (r_ 6),jI (r_ 7)]),(0,.var 53 [jI b_DappleBook.Round,.d (.sl 1 (List.map e29 b_DappleBook.Horses)),.d (.sl 8 (List.map e60 b_rows)),.opq])]
theorem k21a (b_DappleBook:DappleBook) (b_rows:(List (Nat→Int))) (r_:(Nat→Int)) (s:(Nat→Int)) (r:DappleBook×(List (Nat→Int))×(Nat→Int)×(Nat→Int)) (h:g21a b_DappleBook b_rows r_ s=some r):SCall Tryd.prog Gs 21 [.agg [jI b_DappleBook.Round,.d (.sl 1 (List.map e29 b_DappleBook.Horses)),.d (.sl 8 (List.map e60 b_rows)),.opq],.agg [jI (r_ 0),jI (r_ 1),jI (r_ 2),jI (r_ 3),jI (r_ 4),jI (r_ 5),jI (r_ 6),jI (r_ 7)],.agg [jI (s 0),jI (s 1),jI (s 2),jI (s 3),jI (s 4),jI (s 5),jI (s 6),jI (s 7)],.d (.fn 72)] [] 0 Fr.emp (match r with | (o0_DappleBook,o0_rows,o1,o2)=>.clo 34 [] [.ptr 0 0,.ptr 3 0,.ptr 1 0,.ptr 2 0]) (match r with | (o0_DappleBook,o0_rows,o1,o2)=>[(0,.var 53 [jI o0_DappleBook.Round,.d (.sl 1 (List.map e29 o0_DappleBook.Horses)),.d (.sl 8 (List.map e60 o0_rows)),.opq]),(1,.var 60 [jI (o1 0),jI (o1 1),jI (o1 2),jI (o1 3),jI (o1 4),jI (o1 5),jI (o1 6),jI (o1 7)]),(2,.var 60 [jI (o2 0),jI (o2 1),jI (o2 2),jI (o2 3),jI (o2 4),jI (o2 5),jI (o2 6),jI (o2 7)]),(3,.var 61 [.d (.fn 72)])]) 4 Fr.emp:=by
 unfold g21a at h
 refine SCall.mkK Tryd.func21 c21 rfl rfl (by kernel_rfl) (fun Q_0 hR_0 hN_0=>?_)
 refine Sa (sT [pR 4 0,pR 5 1,pR 6 2,pR 7 3] (y31 s r_ b_DappleBook b_rows) 4 0) ?_
 refine Sa (sT [(8,.clo 34 [] [.ptr 0 0,.ptr 3 0,.ptr 1 0,.ptr 2 0])] (y31 s r_ b_DappleBook b_rows) 4 0) ?_
 obtain rfl:=Option.some.inj h
 exact rT hR_0 (.cons (.tmp rfl) .nil)
def g72 (s:Int) (t:Int):Option Bool:=some ((decide (s=t))&&(decide ((bAnd s (wr (s - 1)))=0)))
theorem k72 (s:Int) (t:Int) (r:Bool) (h:g72 s t=some r):SCall Tryd.prog Gs 72 [jI s,jI t] [] 0 Fr.emp (.d (.bool r)) [] 0 Fr.emp:=by
 unfold g72 at h
 refine SCall.mkK Tryd.func72 c72 rfl rfl (by kernel_rfl) (fun Q_0 hR_0 hN_0=>?_)
 refine Sa (sT [(0,jI s),(1,jI t)] [] 0 0) ?_
 refine AW.sa fokW [8] (sT [(4,.d (.bool ((decide (s=t))&&(decide ((bAnd s (wr (s - 1)))=0)))))] [] 0 0) (by kernel_rfl) ?_
 obtain rfl:=Option.some.inj h
 exact rT hR_0 (.cons (.tmp rfl) .nil)
def g34a_7 {S_:Type} (o0_DappleBook:DappleBook) (o2:(Nat→Int)) (o3:(Nat→Int)) (v:Int) (s_2:S_):Int→Unit→Option (Ctl (Unit) (Ctl (S_) (Ctl (S_) (Ctl (S_) (S_))))):=fun v1 _=>(must (decide (o0_DappleBook.Round≠0))).bind fun _=>(ixN 8 ((wr (v1+v)).tmod o0_DappleBook.Round)).bind fun j=>(ixN 8 v1).bind fun j1=>(g72 (o2 j) (o3 j1)).bind fun r0=>bif (!r0) then (some (.brk (.next s_2))) else (some (.next ()))
def g34a_2 {S_:Type} (c_:Int→S_→Option (S_×Bool)) (o0_DappleBook:DappleBook) (o2:(Nat→Int)) (o3:(Nat→Int)):Int→S_→Option (Ctl (S_) (Ctl (S_) (S_))):=fun v s_2=>bindC ((must (decide (o0_DappleBook.Round≤9223372036854775807))).bind fun _=>bindC (forC (g34a_7 o0_DappleBook o2 o3 v s_2) (((o0_DappleBook.Round:Int) - 0).toNat) 0 ()) fun _=>(c_ v s_2).bind fun (s_4,go)=>bif (!go) then (some (.brk (.brk (.brk s_4)))) else (some (.next s_4)):Option (Ctl (S_) (Ctl (S_) (Ctl (S_) (S_))))) fun s_3=>some (.next s_3)
def g34a {S_:Type} (c_:Int→S_→Option (S_×Bool)) (o0_DappleBook:DappleBook) (o0_rows:(List (Nat→Int))) (o2:(Nat→Int)) (o3:(Nat→Int)) (s_:S_):Option S_:=bindC ((must (decide (o0_DappleBook.Round≤9223372036854775807))).bind fun _=>bindC (forC (g34a_2 c_ o0_DappleBook o2 o3) (((o0_DappleBook.Round:Int) - 0).toNat) 0 s_) fun s_2=>some (.next s_2):Option (Ctl (S_) (S_))) fun s_1=>some s_1
def y32 (o0_DappleBook:DappleBook) (o0_rows:(List (Nat→Int))) (o2:(Nat→Int)) (o3:(Nat→Int)):List (Nat×Blk):=[(0,.var 53 [jI o0_DappleBook.Round,.d (.sl 1 (List.map e29 o0_DappleBook.Horses)),.d (.sl 8 (List.map e60 o0_rows)),.opq]),(1,.var 61 [.d (.fn 72)]),(2,.var 60 [jI (o2 0),jI (o2 1),jI (o2 2),jI (o2 3),jI (o2 4),jI (o2 5),jI (o2 6),jI (o2 7)]),(3,.var 60 [jI (o3 0),jI (o3 1),jI (o3 2),jI (o3 3),jI (o3 4),jI (o3 5),jI (o3 6),jI (o3 7)])]
theorem k34a {S_:Type} (fr_:S_→Fr) (c_:Int→S_→Option (S_×Bool)) (hc_:∀ (a0:Int) s s2 b,c_ a0 s=some (s2,b)→YCall Tryd.prog Gs (fr_ s) [jI a0] (.d (.bool b)) (fr_ s2)) (o0_DappleBook:DappleBook) (o0_rows:(List (Nat→Int))) (o2:(Nat→Int)) (o3:(Nat→Int)) (s_:S_) (r:S_) (h:g34a c_ o0_DappleBook o0_rows o2 o3 s_=some r):SCall Tryd.prog Gs 34 [.yld,.ptr 0 0,.ptr 1 0,.ptr 2 0,.ptr 3 0] [(0,.var 53 [jI o0_DappleBook.Round,.d (.sl 1 (List.map e29 o0_DappleBook.Horses)),.d (.sl 8 (List.map e60 o0_rows)),.opq]),(1,.var 61 [.d (.fn 72)]),(2,.var 60 [jI (o2 0),jI (o2 1),jI (o2 2),jI (o2 3),jI (o2 4),jI (o2 5),jI (o2 6),jI (o2 7)]),(3,.var 60 [jI (o3 0),jI (o3 1),jI (o3 2),jI (o3 3),jI (o3 4),jI (o3 5),jI (o3 6),jI (o3 7)])] 4 (fr_ s_) (.tup []) [(0,.var 53 [jI o0_DappleBook.Round,.d (.sl 1 (List.map e29 o0_DappleBook.Horses)),.d (.sl 8 (List.map e60 o0_rows)),.opq]),(1,.var 61 [.d (.fn 72)]),(2,.var 60 [jI (o2 0),jI (o2 1),jI (o2 2),jI (o2 3),jI (o2 4),jI (o2 5),jI (o2 6),jI (o2 7)]),(3,.var 60 [jI (o3 0),jI (o3 1),jI (o3 2),jI (o3 3),jI (o3 4),jI (o3 5),jI (o3 6),jI (o3 7)])] 4 (fr_ r):=by
 unfold g34a at h
 refine SCall.mkK Tryd.func34 c34 rfl rfl (by kernel_rfl) (fun Q_0 hR_0 hN_0=>?_)
 refine AW.scope ?_
 refine AW.seq (AW.skip ?_)
 refine Sa ⟨[(0,.yld),pR 1 0,pR 2 1,pR 3 2,pR 4 3,(10,jI o0_DappleBook.Round),(11,jI 0)],(y32 o0_DappleBook o0_rows o2 o3),4,(fr_ s_),[],4⟩ ?_
 obtain ⟨c_1,hx_1,hk_1⟩:=bsomeC h
 refine AW.jqK (fun (s_1:S_)=>⟨[],(y32 o0_DappleBook o0_rows o2 o3),4,(fr_ s_1),[],4⟩) (c:=c_1) (fun K_1 hK_1=>?_) (fun s_1 hj_1=>?_)
 ·have h:=hx_1
  refine AW.block ?_
  obtain ⟨_,hN_2,h⟩:=bsome h
  have hN_2:=of_decide_eq_true (must_ok hN_2)
  obtain ⟨out_2,hx_2,hk_2⟩:=bsomeC h
  refine AW.lpCK (fun (v:Int) (s_2:S_)=>⟨[(0,.yld),pR 1 0,pR 2 1,pR 3 2,pR 4 3,(10,jI o0_DappleBook.Round),(11,jI v)],(y32 o0_DappleBook o0_rows o2 o3),4,(fr_ s_2),[],4⟩) (g34a_2 c_ o0_DappleBook o2 o3) (o0_DappleBook.Round) hx_2 (Can.kp (by kernel_rfl)) (fun v s_2 hi_2 hl_2 c_2 h hb_2 K_2 hK_2=>?_) (fun v s_2 hi_2 hl_2 hout=>?_)
  ·unfold g34a_2 at h
   refine Sa ⟨[(0,.yld),pR 1 0,pR 2 1,pR 3 2,pR 4 3,(10,jI o0_DappleBook.Round),(11,jI v),(12,.d (.bool (decide (v<o0_DappleBook.Round))))],(y32 o0_DappleBook o0_rows o2 o3),4,(fr_ s_2),[],4⟩ ?_
   refine AW.seqK (fun K_3 hK_3=>?_)
   refine AW.cond rfl (fun hb_4=>?_) (fun hb_4=>False.elim (by have:=of_decide_eq_false hb_4;omega))
   refine AW.skip (hK_3 _ ?_)
   obtain ⟨c_5,hx_5,hk_5⟩:=bsomeC h
   refine AW.jnK (fun (s_3:S_)=>⟨[(0,.yld),pR 1 0,pR 2 1,pR 3 2,pR 4 3,(10,jI o0_DappleBook.Round),(11,jI v)],(y32 o0_DappleBook o0_rows o2 o3),4,(fr_ s_3),[],4⟩) (c:=c_5) (fun K_5 hK_5=>?_) (fun s_3 hj_5=>?_)
   ·have h:=hx_5
    refine AW.block ?_
    refine Sa ⟨[(0,.yld),pR 1 0,pR 2 1,pR 3 2,pR 4 3,(6,jI v),(10,jI o0_DappleBook.Round),(11,jI v)],(y32 o0_DappleBook o0_rows o2 o3),4,(fr_ s_2),[],4⟩ ?_
    refine AW.seqK (fun K_6 hK_6=>?_)
    refine Sa ⟨[(0,.yld),pR 1 0,pR 2 1,pR 3 2,pR 4 3,(6,jI v),(10,jI o0_DappleBook.Round),(11,jI v),(16,jI o0_DappleBook.Round),(17,jI 0)],(y32 o0_DappleBook o0_rows o2 o3),4,(fr_ s_2),[],4⟩ ?_
    refine AW.block ?_
    obtain ⟨_,hN_7,h⟩:=bsome h
    have hN_7:=of_decide_eq_true (must_ok hN_7)
    obtain ⟨out_7,hx_7,hk_7⟩:=bsomeC h
    refine AW.lpCK (fun (v1:Int) (_:Unit)=>⟨[(0,.yld),pR 1 0,pR 2 1,pR 3 2,pR 4 3,(6,jI v),(10,jI o0_DappleBook.Round),(11,jI v),(16,jI o0_DappleBook.Round),(17,jI v1)],(y32 o0_DappleBook o0_rows o2 o3),4,(fr_ s_2),[],4⟩) (g34a_7 o0_DappleBook o2 o3 v s_2) (o0_DappleBook.Round) hx_7 (Can.kp (by kernel_rfl)) (fun v1 s_7 hi_7 hl_7 c_7 h hb_7 K_7 hK_7=>?_) (fun v1 s_7 hi_7 hl_7 hout=>?_)
    ·unfold g34a_7 at h
     refine Sa ⟨[(0,.yld),pR 1 0,pR 2 1,pR 3 2,pR 4 3,(6,jI v),(10,jI o0_DappleBook.Round),(11,jI v),(16,jI o0_DappleBook.Round),(17,jI v1),(18,.d (.bool (decide (v1<o0_DappleBook.Round))))],(y32 o0_DappleBook o0_rows o2 o3),4,(fr_ s_2),[],4⟩ ?_
     refine AW.seqK (fun K_8 hK_8=>?_)
     refine AW.cond rfl (fun hb_9=>?_) (fun hb_9=>False.elim (by have:=of_decide_eq_false hb_9;omega))
     refine AW.skip (hK_8 _ ?_)
     refine AW.seqK (fun K_10 hK_10=>?_)
     refine AW.block ?_
     refine Sa ⟨[(0,.yld),pR 1 0,pR 2 1,pR 3 2,pR 4 3,(6,jI v),(7,jI v1),(10,jI o0_DappleBook.Round),(11,jI v),(16,jI o0_DappleBook.Round),(17,jI v1)],(y32 o0_DappleBook o0_rows o2 o3),4,(fr_ s_2),[],4⟩ ?_
     refine AW.sdrwK fokW (fun Q_11 hQ_11=>?_)
     refine aX 7 ⟨[(0,.yld),pR 1 0,pR 2 1,pR 3 2,pR 4 3,(6,jI v),(7,jI v1),(10,jI o0_DappleBook.Round),(11,jI v),(16,jI o0_DappleBook.Round),(17,jI v1),(20,.d (.fn 72)),(23,jI (wr (v1+v))),(26,jI o0_DappleBook.Round)],(y32 o0_DappleBook o0_rows o2 o3),4,(fr_ s_2),[],4⟩ ?_
     obtain ⟨_,hv_12,h⟩:=bsome h
     refine r_rem trivial rfl rfl (of_decide_eq_true (must_ok hv_12)) ?_
     obtain ⟨j,hv_13,h⟩:=bsome h
     refine r_iaV trivial rfl rfl rfl (ixN_ok hv_13).1 (ixN_ok hv_13).2.1 ?_
     refine r_loadV trivial rfl rfl (u:=jI (o2 j)) (agt (f:=fun k=>jI (o2 k)) hv_13) ?_
     refine aX 1 ⟨[(0,.yld),pR 1 0,pR 2 1,pR 3 2,pR 4 3,(6,jI v),(10,jI o0_DappleBook.Round),(11,jI v),(16,jI o0_DappleBook.Round),(17,jI v1),(20,.d (.fn 72)),(29,jI (o2 j)),(30,jI v1)],(y32 o0_DappleBook o0_rows o2 o3),4,(fr_ s_2),[],4⟩ ?_
     obtain ⟨j1,hv_14,h⟩:=bsome h
     refine r_iaV trivial rfl rfl rfl (ixN_ok hv_14).1 (ixN_ok hv_14).2.1 ?_
     refine r_loadV trivial rfl rfl (u:=jI (o3 j1)) (agt (f:=fun k=>jI (o3 k)) hv_14) ?_
     obtain ⟨r0,hx_15,h⟩:=bsome h
     refine r_callvZ (zr:=[]) trivial rfl (.fn _) (by kernel_rfl) rfl (k72 (o2 j) (o3 j1) _ hx_15) trivial ⟨.refl _,.refl _,trivial⟩ rfl rfl rfl rfl ?_
     refine aX 1 ⟨[(0,.yld),pR 1 0,pR 2 1,pR 3 2,pR 4 3,(6,jI v),(10,jI o0_DappleBook.Round),(11,jI v),(16,jI o0_DappleBook.Round),(17,jI v1),(34,.d (.bool (!r0)))],(y32 o0_DappleBook o0_rows o2 o3),4,(fr_ s_2),[],4⟩ ?_
     refine Fi ⟨[(0,.yld),pR 1 0,pR 2 1,pR 3 2,pR 4 3,(6,jI v),(10,jI o0_DappleBook.Round),(11,jI v),(16,jI o0_DappleBook.Round),(17,jI v1),(34,.d (.bool (!r0)))],(y32 o0_DappleBook o0_rows o2 o3),4,(fr_ s_2),[],4⟩ ?_
     refine hQ_11 _ ?_
     refine AW.cond rfl (fun hb_16=>?_) (fun hb_16=>?_)
     ·have h:=ifT hb_16 h
      refine AW.exit ?_
      obtain rfl:=Option.some.inj h
      have e_4:=hb_7 _ rfl
      subst e_4
      obtain rfl:=Aft.bk hk_7
      exact hK_5 _ _ rfl (Can.kp (by kernel_rfl))
     ·have h:=ifF hb_16 h
      refine AW.skip (hK_10 _ ?_)
      refine Ra ⟨[(0,.yld),pR 1 0,pR 2 1,pR 3 2,pR 4 3,(6,jI v),(10,jI o0_DappleBook.Round),(11,jI v),(16,jI o0_DappleBook.Round),(17,jI (wr (v1+1)))],(y32 o0_DappleBook o0_rows o2 o3),4,(fr_ s_2),[],4⟩ ?_
      obtain rfl:=Option.some.inj h
      have ew:wr (v1+1)=v1+1:=inext (N:=o0_DappleBook.Round) (by omega) (by omega) (by omega)
      rw [ew]
      exact hK_7 _ _ rfl (Can.kp (by kernel_rfl))
    ·subst hout
     have h:=Aft.nx hk_7
     refine Sa ⟨[(0,.yld),pR 1 0,pR 2 1,pR 3 2,pR 4 3,(6,jI v),(10,jI o0_DappleBook.Round),(11,jI v),(16,jI o0_DappleBook.Round),(17,jI v1),(18,.d (.bool (decide (v1<o0_DappleBook.Round))))],(y32 o0_DappleBook o0_rows o2 o3),4,(fr_ s_2),[],4⟩ ?_
     refine AW.seqK (fun K_17 hK_17=>?_)
     refine AW.cond rfl (fun hb_18=>False.elim (by have:=of_decide_eq_true hb_18;omega)) (fun hb_18=>?_)
     refine AW.exit ?_
     refine hK_6 _ ?_
     refine AW.srwK (fun Q_19 hQ_19=>?_)
     refine Au 2 ⟨[(0,.yld),pR 1 0,pR 2 1,pR 3 2,pR 4 3,(10,jI o0_DappleBook.Round),(11,jI v),(36,.yld),(37,jI v)],(y32 o0_DappleBook o0_rows o2 o3),4,(fr_ s_2),[],4⟩ ?_
     obtain ⟨⟨s_4,go⟩,hx_20,h⟩:=bsome h
     refine RW.one fokW (r_yield (zr:=[]) trivial rfl rfl (hc_ v _ _ _ hx_20) trivial ⟨.refl _,trivial⟩ rfl rfl rfl rfl (r_end ?_))
     refine Au 1 ⟨[(0,.yld),pR 1 0,pR 2 1,pR 3 2,pR 4 3,(10,jI o0_DappleBook.Round),(11,jI v),(39,.d (.bool (!go)))],(y32 o0_DappleBook o0_rows o2 o3),4,(fr_ s_4),[],4⟩ ?_
     refine RW.nil (hQ_19 _ ?_)
     refine AW.cond rfl (fun hb_21=>?_) (fun hb_21=>?_)
     ·have h:=ifT hb_21 h
      obtain rfl:=Option.some.inj h
      obtain rfl:=Aft.bk hk_5
      have e_2:=hb_2 _ rfl
      subst e_2
      obtain rfl:=Aft.bk hk_2
      obtain rfl:=Aft.bk hk_1
      exact rT hR_0 .nil
     ·have h:=ifF hb_21 h
      refine AW.skip ?_
      obtain rfl:=Option.some.inj h
      exact hK_5 _ _ rfl (Can.kp (by kernel_rfl))
   ·subst hj_5
    have h:=Aft.nx hk_5
    refine Ra ⟨[(0,.yld),pR 1 0,pR 2 1,pR 3 2,pR 4 3,(10,jI o0_DappleBook.Round),(11,jI (wr (v+1)))],(y32 o0_DappleBook o0_rows o2 o3),4,(fr_ s_3),[],4⟩ ?_
    obtain rfl:=Option.some.inj h
    have ew:wr (v+1)=v+1:=inext (N:=o0_DappleBook.Round) (by omega) (by omega) (by omega)
    rw [ew]
    exact hK_2 _ _ rfl (Can.kp (by kernel_rfl))
  ·subst hout
   have h:=Aft.nx hk_2
   refine Sa ⟨[(0,.yld),pR 1 0,pR 2 1,pR 3 2,pR 4 3,(10,jI o0_DappleBook.Round),(11,jI v),(12,.d (.bool (decide (v<o0_DappleBook.Round))))],(y32 o0_DappleBook o0_rows o2 o3),4,(fr_ s_2),[],4⟩ ?_
   refine AW.seqK (fun K_22 hK_22=>?_)
   refine AW.cond rfl (fun hb_23=>False.elim (by have:=of_decide_eq_true hb_23;omega)) (fun hb_23=>?_)
   refine AW.exit ?_
   obtain rfl:=Option.some.inj h
   exact hK_1 _ _ rfl (Can.kp (by kernel_rfl))
 ·subst hj_1
  have h:=Aft.nx hk_1
  obtain rfl:=Option.some.inj h
  exact hN_0 _ (retX .nil (.refl _) rfl (by kernel_rfl) (by kernel_rfl))
def g42a_r8:Int→(Unit)→Option (Ctl (Unit) (Unit)):=fun a _=>some (.brk ())
def g42a (b_DappleBook:DappleBook) (b_rows:(List (Nat→Int))) (r_:(Nat→Int)) (s:(Nat→Int)):Option Bool:=(g43).bind fun r0=>bif (false != (((r_ 0)==(r0 0))&&(((r_ 1)==(r0 1))&&(((r_ 2)==(r0 2))&&(((r_ 3)==(r0 3))&&(((r_ 4)==(r0 4))&&(((r_ 5)==(r0 5))&&(((r_ 6)==(r0 6))&&(((r_ 7)==(r0 7))&&true))))))))) then (some false) else ((g21a b_DappleBook b_rows r_ s).bind fun (o0_DappleBook,o0_rows,o1,o2)=>(g34a (fun a s=>rndC g42a_r8 a s) o0_DappleBook o0_rows o1 o2 (.next ())).bind fun out_8=>match out_8 with | .next _=>some false | .brk _=>some true)
def y33 (s:(Nat→Int)) (r_:(Nat→Int)) (b_DappleBook:DappleBook) (b_rows:(List (Nat→Int))):List (Nat×Blk):=[(3,.var 4 [.d (.bool false)]),(2,.var 60 [jI (s 0),jI (s 1),jI (s 2),jI (s 3),jI (s 4),jI (s 5),jI (s 6),jI (s 7)]),(1,.var 60 [jI (r_ 0),jI (r_ 1),jI (r_ 2),jI (r_ 3),jI (r_ 4),jI (r_ 5),jI (r_ 6),jI (r_ 7)]),(0,.var 53 [jI b_DappleBook.Round,.d (.sl 1 (List.map e29 b_DappleBook.Horses)),.d (.sl 8 (List.map e60 b_rows)),.opq])]
theorem k42a (b_DappleBook:DappleBook) (b_rows:(List (Nat→Int))) (r_:(Nat→Int)) (s:(Nat→Int)) (r:Bool) (h:g42a b_DappleBook b_rows r_ s=some r):SCall Tryd.prog Gs 42 [.agg [jI b_DappleBook.Round,.d (.sl 1 (List.map e29 b_DappleBook.Horses)),.d (.sl 8 (List.map e60 b_rows)),.opq],.agg [jI (r_ 0),jI (r_ 1),jI (r_ 2),jI (r_ 3),jI (r_ 4),jI (r_ 5),jI (r_ 6),jI (r_ 7)],.agg [jI (s 0),jI (s 1),jI (s 2),jI (s 3),jI (s 4),jI (s 5),jI (s 6),jI (s 7)],.d (.fn 72)] [] 0 Fr.emp (.d (.bool r)) [] 0 Fr.emp:=by
 unfold g42a at h
 refine SCall.mkK Tryd.func42 c42 rfl rfl (by kernel_rfl) (fun Q_0 hR_0 hN_0=>?_)
 refine Sa (sT [(3,.d (.fn 72)),pR 4 0,pR 5 1,pR 6 2,pR 8 3] (y33 s r_ b_DappleBook b_rows) 4 0) ?_
 refine AW.seqK (fun K_1 hK_1=>?_)
 refine AW.sdrwK fokW (fun Q_2 hQ_2=>?_)
 refine aX 1 (sT [(3,.d (.fn 72)),pR 4 0,pR 5 1,pR 6 2,pR 8 3,(9,.agg [jI (r_ 0),jI (r_ 1),jI (r_ 2),jI (r_ 3),jI (r_ 4),jI (r_ 5),jI (r_ 6),jI (r_ 7)])] (y33 s r_ b_DappleBook b_rows) 4 0) ?_
 obtain ⟨r0,hx_3,h⟩:=bsome h
 refine r_call trivial rfl (k43 _ hx_3) rfl rfl ?_
 refine r_aeq trivial rfl rfl rfl rfl ft60 rfl rfl rfl ?_
 refine Fi (sT [(3,.d (.fn 72)),pR 4 0,pR 5 1,pR 6 2,pR 8 3,(11,.d (.bool (false != (((r_ 0)==(r0 0))&&(((r_ 1)==(r0 1))&&(((r_ 2)==(r0 2))&&(((r_ 3)==(r0 3))&&(((r_ 4)==(r0 4))&&(((r_ 5)==(r0 5))&&(((r_ 6)==(r0 6))&&(((r_ 7)==(r0 7))&&true)))))))))))] (y33 s r_ b_DappleBook b_rows) 4 0) ?_
 refine hQ_2 _ ?_
 refine AW.cond rfl (fun hb_4=>?_) (fun hb_4=>?_)
 ·have h:=ifT hb_4 h
  refine Sa (sT [pR 8 3] [(3,.var 4 [.d (.bool false)])] 4 0) ?_
  obtain rfl:=Option.some.inj h
  exact rT hR_0 (.cons (.one rfl rfl rfl) .nil)
 ·have h:=ifF hb_4 h
  refine AW.skip (hK_1 _ ?_)
  refine AW.seqK fun K_5 hK_5=>AW.srwK fun Q_6 hQ_6=>?_
  refine Au 4 (sT [pR 8 3,(12,.agg [jI b_DappleBook.Round,.d (.sl 1 (List.map e29 b_DappleBook.Horses)),.d (.sl 8 (List.map e60 b_rows)),.opq]),(13,.agg [jI (r_ 0),jI (r_ 1),jI (r_ 2),jI (r_ 3),jI (r_ 4),jI (r_ 5),jI (r_ 6),jI (r_ 7)]),(14,.agg [jI (s 0),jI (s 1),jI (s 2),jI (s 3),jI (s 4),jI (s 5),jI (s 6),jI (s 7)]),(15,.d (.fn 72))] [(3,.var 4 [.d (.bool false)])] 4 0) ?_
  obtain ⟨⟨o0_DappleBook,o0_rows,o1,o2⟩,hx_7,h⟩:=bsome h
  refine RW.one fokW (r_callS (zr:=[]) [] trivial rfl (k21a b_DappleBook b_rows r_ s _ hx_7) trivial rfl rfl ⟨.refl _,.refl _,.refl _,.refl _,trivial⟩ rfl rfl rfl (r_end ?_))
  refine RW.nil (hQ_6 _ ?_)
  refine AW.block ?_
  obtain ⟨out_8,hx_8,h⟩:=bsome h
  refine AW.rfX (fun (_:Unit)=>[(8,.dm),(3,.var 4 [.d (.bool false)])]) (fun (_:Unit)=>[(8,.dm),(3,.var 4 [.d (.bool true)])]) (fun _=>some .ret) g42a_r8 (fun (a:Int)=>[jI a]) (s0:=()) (out:=out_8) [pR 8 3] [(3,.var 4 [.d (.bool false)])] [4,7,5,6] rfl (.clo _ _ _) (by kernel_rfl) (by kernel_rfl) (fun fr_ hY_8=>k34a fr_ _ (fun a s s2 b h=>hY_8 a s s2 b h) o0_DappleBook o0_rows o1 o2 (.next ()) _ hx_8) (by kernel_rfl) ⟨rfl,rfl,rfl,rfl,trivial⟩ rfl ⟨rfl,rfl⟩ rfl rfl (fun _=>rfl) (fun _=>rfl) (fun a_8 s_8 c_8 h l_8=>?_) (fun _=>rfl) ?_
  ·have ⟨a,e_8⟩:∃ x,x=a_8:=⟨_,rfl⟩
   subst e_8
   unfold g42a_r8 at h
   refine AW.skip ?_
   refine AW.block ?_
   refine AW.sa (fokR l_8) [] (sT [pR 8 3] [(3,.var 4 [.d (.bool true)]),(8,.dm)] 9 9) (by kernel_rfl) ?_
   refine AW.ret ?_
   obtain rfl:=Option.some.inj h
   exact ⟨(sT [] [(8,.dm),(3,.var 4 [.d (.bool true)])] 9 9),Can.kp (by kernel_rfl),rdX trivial rfl (by kernel_rfl) (by kernel_rfl)⟩
  ·rcases out_8 with _ | _
   ·refine hK_5 _ ?_
    refine Sa ⟨[pR 8 3],[(3,.var 4 [.d (.bool false)]),(8,.dm)],9,Fr.emp,[8],0⟩ ?_
    obtain rfl:=Option.some.inj h
    exact rT hR_0 (.cons (.one rfl rfl rfl) .nil)
   ·obtain rfl:=Option.some.inj h
    exact hR_0 _ (retX (.cons (.one rfl rfl rfl) .nil) (.refl _) rfl (by kernel_rfl) (by kernel_rfl))
def g38c (b_DappleBook:DappleBook) (b_rows:(List (Nat→Int))) (one:Int) (other:Int) (what:Int) (m0:List (Dapple_turn×Bool)):Option (Bool×(List (Dapple_turn×Bool))):=bif ((false != ((one==(-1))&&((other==(-1))&&((what==(-1))&&true))))||((mget q87 m0 (Dapple_turn.mk one other what)).isSome)) then (some (((mget q87 m0 (Dapple_turn.mk one other what)).getD false),m0)) else ((ixL b_rows (min one other)).bind fun p=>(ixL b_rows (max one other)).bind fun p1=>(ixN 2 what).bind fun j=>match j with | 0=>(g42 b_DappleBook b_rows p p1).bind fun r0_3=>(mput q87 m0 (Dapple_turn.mk one other what) r0_3).bind fun m=>some (r0_3,m) | 1=>(g42a b_DappleBook b_rows p p1).bind fun r0_3_1=>(mput q87 m0 (Dapple_turn.mk one other what) r0_3_1).bind fun m1=>some (r0_3_1,m1) | _=>none)
def y34 (one:Int) (other:Int) (what:Int) (b_DappleBook:DappleBook) (b_rows:(List (Nat→Int))) (m0:List (Dapple_turn×Bool)):List (Nat×Blk):=[(2,.var 87 [jI one,jI other,jI what]),(1,.var 53 [jI b_DappleBook.Round,.d (.sl 1 (List.map e29 b_DappleBook.Horses)),.d (.sl 8 (List.map e60 b_rows)),.map 0]),(0,.mp (List.map m87_4 m0))]
theorem k38c (b_DappleBook:DappleBook) (b_rows:(List (Nat→Int))) (one:Int) (other:Int) (what:Int) (m0:List (Dapple_turn×Bool)) (r:Bool×(List (Dapple_turn×Bool))) (h:g38c b_DappleBook b_rows one other what m0=some r):SCall Tryd.prog Gs 38 [.agg [jI b_DappleBook.Round,.d (.sl 1 (List.map e29 b_DappleBook.Horses)),.d (.sl 8 (List.map e60 b_rows)),.map 0],jI one,jI other,jI what] [(0,.mp (List.map m87_4 m0))] 1 Fr.emp (match r with | (r0_2,m0_3)=>.d (.bool r0_2)) (match r with | (r0_2,m0_3)=>[(0,.mp (List.map m87_4 m0_3))]) 1 Fr.emp:=by
 unfold g38c at h
 refine SCall.mkK Tryd.func38 c38 rfl rfl (by kernel_rfl) (fun Q_0 hR_0 hN_0=>?_)
 refine Sa (sT [(1,jI one),(2,jI other),(3,jI what),pR 4 1] [(1,.var 53 [jI b_DappleBook.Round,.d (.sl 1 (List.map e29 b_DappleBook.Horses)),.d (.sl 8 (List.map e60 b_rows)),.map 0]),(0,.mp (List.map m87_4 m0))] 2 1) ?_
 refine Sa (sT [(1,jI one),(2,jI other),(3,jI what),pR 4 1,pR 9 2] (y34 one other what b_DappleBook b_rows m0) 3 1) ?_
 refine AW.srwK (fun Q_1 hQ_1=>?_)
 refine Au 3 (sT [(1,jI one),(2,jI other),(3,jI what),pR 4 1,pR 9 2,(18,.map 0),(19,.agg [jI one,jI other,jI what])] (y34 one other what b_DappleBook b_rows m0) 3 1) ?_
 refine RW.one fokW (r_lookC q87 e87 (fun x=>.bool x) m0 (Dapple_turn.mk one other what) false trivial rfl rfl rfl ft87 q87_ok (fun _=>rfl) rfl (r_end ?_))
 refine Au 5 (sT [(1,jI one),(2,jI other),(3,jI what),pR 4 1,pR 9 2,(10,.d (.bool ((mget q87 m0 (Dapple_turn.mk one other what)).getD false))),(11,.d (.bool ((mget q87 m0 (Dapple_turn.mk one other what)).isSome)))] (y34 one other what b_DappleBook b_rows m0) 3 1) ?_
 refine RW.nil (hQ_1 _ ?_)
 refine AW.seqK fun K_2 hK_2=>AW.srwK fun Q_3 hQ_3=>?_
 refine Au 2 (sT [(1,jI one),(2,jI other),(3,jI what),pR 4 1,pR 9 2,(10,.d (.bool ((mget q87 m0 (Dapple_turn.mk one other what)).getD false))),(11,.d (.bool ((mget q87 m0 (Dapple_turn.mk one other what)).isSome))),(23,.agg [jI one,jI other,jI what]),(24,.agg [jI (-1),jI (-1),jI (-1)])] (y34 one other what b_DappleBook b_rows m0) 3 1) ?_
 refine RW.one fokW (r_aeq trivial rfl rfl rfl rfl ft87 rfl rfl rfl (r_end ?_))
 refine RW.au fokW 3 [26] (sT [(1,jI one),(2,jI other),(3,jI what),pR 4 1,pR 9 2,(10,.d (.bool ((mget q87 m0 (Dapple_turn.mk one other what)).getD false))),(28,.d (.bool ((false != ((one==(-1))&&((other==(-1))&&((what==(-1))&&true))))||((mget q87 m0 (Dapple_turn.mk one other what)).isSome))))] (y34 one other what b_DappleBook b_rows m0) 3 1) (by kernel_rfl) ?_
 refine RW.nil (hQ_3 _ ?_)
 refine AW.cond rfl (fun hb_4=>?_) (fun hb_4=>?_)
 ·have h:=ifT hb_4 h
  refine Sa (sT [(8,.d (.bool ((mget q87 m0 (Dapple_turn.mk one other what)).getD false)))] [(0,.mp (List.map m87_4 m0))] 3 1) ?_
  obtain rfl:=Option.some.inj h
  exact rT hR_0 (.cons (.tmp rfl) .nil)
 ·have h:=ifF hb_4 h
  refine AW.skip (hK_2 _ ?_)
  refine AW.sdrwK fokW (fun Q_5 hQ_5=>?_)
  refine aX 6 (sT [(1,jI one),(2,jI other),(3,jI what),pR 4 1,pR 9 2,(30,.agg [jI b_DappleBook.Round,.d (.sl 1 (List.map e29 b_DappleBook.Horses)),.d (.sl 8 (List.map e60 b_rows)),.map 0]),(32,.d (.sl 8 (List.map e60 b_rows))),(35,jI (min one other))] (y34 one other what b_DappleBook b_rows m0) 3 1) ?_
  obtain ⟨p,hv_6,h⟩:=bsome h
  refine r_iaD trivial rfl rfl (ixL_ok hv_6).1 (row:=e60 p) (mapget (ixL_ok hv_6).2) ?_
  refine aX 6 (sT [(3,jI what),pR 4 1,pR 9 2,(30,.agg [jI b_DappleBook.Round,.d (.sl 1 (List.map e29 b_DappleBook.Horses)),.d (.sl 8 (List.map e60 b_rows)),.map 0]),(37,.agg [jI (p 0),jI (p 1),jI (p 2),jI (p 3),jI (p 4),jI (p 5),jI (p 6),jI (p 7)]),(39,.d (.sl 8 (List.map e60 b_rows))),(42,jI (max one other))] (y34 one other what b_DappleBook b_rows m0) 3 1) ?_
  obtain ⟨p1,hv_7,h⟩:=bsome h
  refine r_iaD trivial rfl rfl (ixL_ok hv_7).1 (row:=e60 p1) (mapget (ixL_ok hv_7).2) ?_
  refine aX 2 (sT [pR 4 1,pR 9 2,(30,.agg [jI b_DappleBook.Round,.d (.sl 1 (List.map e29 b_DappleBook.Horses)),.d (.sl 8 (List.map e60 b_rows)),.map 0]),(37,.agg [jI (p 0),jI (p 1),jI (p 2),jI (p 3),jI (p 4),jI (p 5),jI (p 6),jI (p 7)]),(44,.agg [jI (p1 0),jI (p1 1),jI (p1 2),jI (p1 3),jI (p1 4),jI (p1 5),jI (p1 6),jI (p1 7)]),(45,jI what)] (y34 one other what b_DappleBook b_rows m0) 3 1) ?_
  obtain ⟨j,hv_8,h⟩:=bsome h
  rcases j with _ | _ | j
  ·refine r_iaF trivial rfl rfl (ixN_ok hv_8).1 (ixN_ok hv_8).2.1 ?_
   refine r_loadF trivial rfl (u:=.fn 70) (by rw [(ixN_ok hv_8).2.2];rfl) ?_
   obtain ⟨r0_3,hx_9,h⟩:=bsome h
   refine r_callZ (zr:=[]) trivial rfl (k42 b_DappleBook b_rows p p1 _ hx_9) trivial ⟨(Frz.agg_of ⟨.refl _,.refl _,.refl _,(.opq rfl (by intro _ h;cases h)),trivial⟩),.refl _,.refl _,.refl _,trivial⟩ rfl rfl rfl rfl ?_
   refine aX 1 (sT [pR 4 1,pR 9 2,(10,.d (.bool r0_3))] (y34 one other what b_DappleBook b_rows m0) 3 1) ?_
   refine Fi (sT [pR 4 1,pR 9 2,(10,.d (.bool r0_3))] (y34 one other what b_DappleBook b_rows m0) 3 1) ?_
   refine hQ_5 _ ?_
   refine AW.srwK (fun Q_10 hQ_10=>?_)
   refine Au 4 (sT [(10,.d (.bool r0_3)),(50,.map 0),(51,.agg [jI one,jI other,jI what]),(52,.d (.bool r0_3))] [(0,.mp (List.map m87_4 m0))] 3 1) ?_
   obtain ⟨m,hv_11,h⟩:=bsome h
   refine RW.one fokW (r_mput q87 e87 (fun x=>DV.c (.bool x)) trivial rfl rfl rfl rfl ft87 q87_ok (fun _=>rfl) rfl hv_11 (r_end ?_))
   refine RW.nil (hQ_10 _ ?_)
   refine Sa (sT [(8,.d (.bool r0_3))] [(0,.mp (List.map m87_4 m))] 3 1) ?_
   obtain rfl:=Option.some.inj h
   exact rT hR_0 (.cons (.tmp rfl) .nil)
  ·refine r_iaF trivial rfl rfl (ixN_ok hv_8).1 (ixN_ok hv_8).2.1 ?_
   refine r_loadF trivial rfl (u:=.fn 72) (by rw [(ixN_ok hv_8).2.2];rfl) ?_
   obtain ⟨r0_3_1,hx_12,h⟩:=bsome h
   refine r_callZ (zr:=[]) trivial rfl (k42a b_DappleBook b_rows p p1 _ hx_12) trivial ⟨(Frz.agg_of ⟨.refl _,.refl _,.refl _,(.opq rfl (by intro _ h;cases h)),trivial⟩),.refl _,.refl _,.refl _,trivial⟩ rfl rfl rfl rfl ?_
   refine aX 1 (sT [pR 4 1,pR 9 2,(10,.d (.bool r0_3_1))] (y34 one other what b_DappleBook b_rows m0) 3 1) ?_
   refine Fi (sT [pR 4 1,pR 9 2,(10,.d (.bool r0_3_1))] (y34 one other what b_DappleBook b_rows m0) 3 1) ?_
   refine hQ_5 _ ?_
   refine AW.srwK (fun Q_13 hQ_13=>?_)
   refine Au 4 (sT [(10,.d (.bool r0_3_1)),(50,.map 0),(51,.agg [jI one,jI other,jI what]),(52,.d (.bool r0_3_1))] [(0,.mp (List.map m87_4 m0))] 3 1) ?_
   obtain ⟨m1,hv_14,h⟩:=bsome h
   refine RW.one fokW (r_mput q87 e87 (fun x=>DV.c (.bool x)) trivial rfl rfl rfl rfl ft87 q87_ok (fun _=>rfl) rfl hv_14 (r_end ?_))
   refine RW.nil (hQ_13 _ ?_)
   refine Sa (sT [(8,.d (.bool r0_3_1))] [(0,.mp (List.map m87_4 m1))] 3 1) ?_
   obtain rfl:=Option.some.inj h
   exact rT hR_0 (.cons (.tmp rfl) .nil)
  ·cases h
def g24a_9 (b_DappleBook:DappleBook) (b_rows:(List (Nat→Int))) (but:(List Int)) (v1:Int):Int→(List (Dapple_turn×Bool))→Option (Ctl (List (Dapple_turn×Bool)) (Ctl (List (Dapple_turn×Bool)) (Ctl (List (Dapple_turn×Bool)) (Ctl (List (Dapple_turn×Bool)) (Ctl (List (Dapple_turn×Bool)) (Ctl (List (Dapple_turn×Bool)) (Bool×(List (Dapple_turn×Bool))))))))):=fun v2 m5=>(g37 but v2).bind fun r0=>(bif (!r0) then ((g37 but v1).bind fun r0_1=>some (!r0_1)) else (some false)).bind fun v3=>(bif v3 then ((g38c b_DappleBook b_rows v2 v1 0 m5).bind fun (r0_2,m0_3)=>some (r0_2,m0_3)) else (some (false,m5))).bind fun (v4,m6)=>bif v4 then (some (.brk (.brk (.brk (.brk (.brk (.brk (false,m6)))))))) else (some (.next m6))
def g24a_4 (b_DappleBook:DappleBook) (b_rows:(List (Nat→Int))) (but:(List Int)):Int→(Nat→Int)→(List (Dapple_turn×Bool))→Option (Ctl (List (Dapple_turn×Bool)) (Ctl (List (Dapple_turn×Bool)) (Ctl (List (Dapple_turn×Bool)) (Bool×(List (Dapple_turn×Bool)))))):=fun v1 p m2=>bindC (bindC ((must (decide (v1≤9223372036854775807))).bind fun _=>bindC (forC (g24a_9 b_DappleBook b_rows but v1) (((v1:Int) - 0).toNat) 0 m2) fun m5=>some (.next m5):Option (Ctl (List (Dapple_turn×Bool)) (Ctl (List (Dapple_turn×Bool)) (Ctl (List (Dapple_turn×Bool)) (Ctl (List (Dapple_turn×Bool)) (Ctl (List (Dapple_turn×Bool)) (Bool×(List (Dapple_turn×Bool))))))))) fun m4=>some (.next m4):Option (Ctl (List (Dapple_turn×Bool)) (Ctl (List (Dapple_turn×Bool)) (Ctl (List (Dapple_turn×Bool)) (Ctl (List (Dapple_turn×Bool)) (Bool×(List (Dapple_turn×Bool)))))))) fun m3=>some (.next m3)
def g24a (b_DappleBook:DappleBook) (b_rows:(List (Nat→Int))) (but:(List Int)) (m0:List (Dapple_turn×Bool)):Option (Bool×(List (Dapple_turn×Bool))):=bindC (bindC (bindC (eachC (g24a_4 b_DappleBook b_rows but) b_rows 0 m0) fun m2=>some (.next m2):Option (Ctl (List (Dapple_turn×Bool)) (Ctl (List (Dapple_turn×Bool)) (Bool×(List (Dapple_turn×Bool)))))) fun m1=>some (.next m1):Option (Ctl (List (Dapple_turn×Bool)) (Bool×(List (Dapple_turn×Bool))))) fun m=>some (true,m)
def y35 (b_DappleBook:DappleBook) (b_rows:(List (Nat→Int))) (m0:List (Dapple_turn×Bool)):List (Nat×Blk):=[(1,.var 53 [jI b_DappleBook.Round,.d (.sl 1 (List.map e29 b_DappleBook.Horses)),.d (.sl 8 (List.map e60 b_rows)),.map 0]),(0,.mp (List.map m87_4 m0))]
def y36 (b_DappleBook:DappleBook) (b_rows:(List (Nat→Int))) (m2:List (Dapple_turn×Bool)):List (Nat×Blk):=[(1,.var 53 [jI b_DappleBook.Round,.d (.sl 1 (List.map e29 b_DappleBook.Horses)),.d (.sl 8 (List.map e60 b_rows)),.map 0]),(0,.mp (List.map m87_4 m2))]
def y37 (b_DappleBook:DappleBook) (b_rows:(List (Nat→Int))) (m5:List (Dapple_turn×Bool)):List (Nat×Blk):=[(1,.var 53 [jI b_DappleBook.Round,.d (.sl 1 (List.map e29 b_DappleBook.Horses)),.d (.sl 8 (List.map e60 b_rows)),.map 0]),(0,.mp (List.map m87_4 m5))]
theorem k24a (b_DappleBook:DappleBook) (b_rows:(List (Nat→Int))) (but:(List Int)) (m0:List (Dapple_turn×Bool)) (r:Bool×(List (Dapple_turn×Bool))) (h:g24a b_DappleBook b_rows but m0=some r):SCall Tryd.prog Gs 24 [.agg [jI b_DappleBook.Round,.d (.sl 1 (List.map e29 b_DappleBook.Horses)),.d (.sl 8 (List.map e60 b_rows)),.map 0],.d (.sl 1 (List.map e3 but))] [(0,.mp (List.map m87_4 m0))] 1 Fr.emp (match r with | (r0_4,m0_2)=>.d (.bool r0_4)) (match r with | (r0_4,m0_2)=>[(0,.mp (List.map m87_4 m0_2))]) 1 Fr.emp:=by
 unfold g24a at h
 refine SCall.mkK Tryd.func24 c24 rfl rfl (by kernel_rfl) (fun Q_0 hR_0 hN_0=>?_)
 refine Sa (sT [(1,.d (.sl 1 (List.map e3 but))),pR 2 1] (y35 b_DappleBook b_rows m0) 2 1) ?_
 obtain ⟨c_1,hx_1,hk_1⟩:=bsomeC h
 refine AW.jnK (fun (m:List (Dapple_turn×Bool))=>(sT [] [(0,.mp (List.map m87_4 m))] 2 1)) (c:=c_1) (fun K_1 hK_1=>?_) (fun m hj_1=>?_)
 ·have h:=hx_1
  refine AW.srwK (fun Q_2 hQ_2=>?_)
  refine Au 2 (sT [(1,.d (.sl 1 (List.map e3 but))),pR 2 1,(8,.d (.sl 8 (List.map e60 b_rows)))] (y35 b_DappleBook b_rows m0) 2 1) ?_
  refine rL rfl ?_
  refine Au 1 (sT [(1,.d (.sl 1 (List.map e3 but))),pR 2 1,(9,jI (b_rows.length:Int)),(10,jI 0)] (y35 b_DappleBook b_rows m0) 2 1) ?_
  refine RW.nil (hQ_2 _ ?_)
  obtain ⟨c_3,hx_3,hk_3⟩:=bsomeC h
  refine AW.jqK (fun (m1:List (Dapple_turn×Bool))=>(sT [] [(0,.mp (List.map m87_4 m1))] 2 1)) (c:=c_3) (fun K_3 hK_3=>?_) (fun m1 hj_3=>?_)
  ·have h:=hx_3
   refine AW.block ?_
   refine AW.slh (r:=1) (off:=2) rfl rfl (fun hN_4=>?_)
   rw [List.length_map] at hN_4
   obtain ⟨out_4,hx_4,hk_4⟩:=bsomeC h
   refine AW.evCK (fun (v1:Int) (m2:List (Dapple_turn×Bool))=>(sT [(1,.d (.sl 1 (List.map e3 but))),pR 2 1,(9,jI (b_rows.length:Int)),(10,jI v1)] (y36 b_DappleBook b_rows m2) 2 1)) (g24a_4 b_DappleBook b_rows but) hx_4 (Can.kp (by kernel_rfl)) (fun v1 p m2 hi_4 hl_4 hp_4 c_4 h hb_4 K_4 hK_4=>?_) (fun v1 m2 hi_4 hl_4 hout=>?_)
   ·unfold g24a_4 at h
    refine Sa (sT [(1,.d (.sl 1 (List.map e3 but))),pR 2 1,(9,jI (b_rows.length:Int)),(10,jI v1),(11,.d (.bool (decide (v1<(b_rows.length:Int)))))] (y36 b_DappleBook b_rows m2) 2 1) ?_
    refine AW.seqK (fun K_5 hK_5=>?_)
    refine AW.cond rfl (fun hb_6=>?_) (fun hb_6=>False.elim (by have:=of_decide_eq_false hb_6;omega))
    refine AW.skip (hK_5 _ ?_)
    obtain ⟨c_7,hx_7,hk_7⟩:=bsomeC h
    refine AW.jnK (fun (m3:List (Dapple_turn×Bool))=>(sT [(1,.d (.sl 1 (List.map e3 but))),pR 2 1,(9,jI (b_rows.length:Int)),(10,jI v1)] [(1,.var 53 [jI b_DappleBook.Round,.d (.sl 1 (List.map e29 b_DappleBook.Horses)),.d (.sl 8 (List.map e60 b_rows)),.map 0]),(0,.mp (List.map m87_4 m3))] 2 1)) (c:=c_7) (fun K_7 hK_7=>?_) (fun m3 hj_7=>?_)
    ·have h:=hx_7
     refine AW.block ?_
     refine Sa (sT [(1,.d (.sl 1 (List.map e3 but))),pR 2 1,(5,jI v1),(9,jI (b_rows.length:Int)),(10,jI v1)] (y36 b_DappleBook b_rows m2) 2 1) ?_
     refine Sa (sT [(1,.d (.sl 1 (List.map e3 but))),pR 2 1,(5,jI v1),(9,jI (b_rows.length:Int)),(10,jI v1),(13,jI v1),(14,jI 0)] (y36 b_DappleBook b_rows m2) 2 1) ?_
     obtain ⟨c_8,hx_8,hk_8⟩:=bsomeC h
     refine AW.jqK (fun (m4:List (Dapple_turn×Bool))=>(sT [(1,.d (.sl 1 (List.map e3 but))),pR 2 1,(9,jI (b_rows.length:Int)),(10,jI v1)] [(1,.var 53 [jI b_DappleBook.Round,.d (.sl 1 (List.map e29 b_DappleBook.Horses)),.d (.sl 8 (List.map e60 b_rows)),.map 0]),(0,.mp (List.map m87_4 m4))] 2 1)) (c:=c_8) (fun K_8 hK_8=>?_) (fun m4 hj_8=>?_)
     ·have h:=hx_8
      refine AW.block ?_
      obtain ⟨_,hN_9,h⟩:=bsome h
      have hN_9:=of_decide_eq_true (must_ok hN_9)
      obtain ⟨out_9,hx_9,hk_9⟩:=bsomeC h
      refine AW.lpCK (fun (v2:Int) (m5:List (Dapple_turn×Bool))=>(sT [(1,.d (.sl 1 (List.map e3 but))),pR 2 1,(5,jI v1),(9,jI (b_rows.length:Int)),(10,jI v1),(13,jI v1),(14,jI v2)] (y37 b_DappleBook b_rows m5) 2 1)) (g24a_9 b_DappleBook b_rows but v1) (v1) hx_9 (Can.kp (by kernel_rfl)) (fun v2 m5 hi_9 hl_9 c_9 h hb_9 K_9 hK_9=>?_) (fun v2 m5 hi_9 hl_9 hout=>?_)
      ·unfold g24a_9 at h
       refine Sa (sT [(1,.d (.sl 1 (List.map e3 but))),pR 2 1,(5,jI v1),(9,jI (b_rows.length:Int)),(10,jI v1),(13,jI v1),(14,jI v2),(15,.d (.bool (decide (v2<v1))))] (y37 b_DappleBook b_rows m5) 2 1) ?_
       refine AW.seqK (fun K_10 hK_10=>?_)
       refine AW.cond rfl (fun hb_11=>?_) (fun hb_11=>False.elim (by have:=of_decide_eq_false hb_11;omega))
       refine AW.skip (hK_10 _ ?_)
       refine AW.seqK (fun K_12 hK_12=>?_)
       refine AW.block ?_
       refine Sa (sT [(1,.d (.sl 1 (List.map e3 but))),pR 2 1,(5,jI v1),(6,jI v2),(9,jI (b_rows.length:Int)),(10,jI v1),(13,jI v1),(14,jI v2)] (y37 b_DappleBook b_rows m5) 2 1) ?_
       refine AW.srwK (fun Q_13 hQ_13=>?_)
       refine Au 2 (sT [(1,.d (.sl 1 (List.map e3 but))),pR 2 1,(5,jI v1),(6,jI v2),(9,jI (b_rows.length:Int)),(10,jI v1),(13,jI v1),(14,jI v2),(17,.d (.sl 1 (List.map e3 but))),(18,jI v2)] (y37 b_DappleBook b_rows m5) 2 1) ?_
       obtain ⟨r0,hx_14,h⟩:=bsome h
       refine rC (k37 but v2 _ hx_14) ?_
       refine Au 2 (sT [(1,.d (.sl 1 (List.map e3 but))),pR 2 1,(5,jI v1),(6,jI v2),(9,jI (b_rows.length:Int)),(10,jI v1),(13,jI v1),(14,jI v2),(21,.d (.bool (!r0)))] (y37 b_DappleBook b_rows m5) 2 1) ?_
       obtain ⟨v3,hx_15,h⟩:=bsome h
       refine RW.cut fokW 5 ((sT [(1,.d (.sl 1 (List.map e3 but))),pR 2 1,(5,jI v1),(6,jI v2),(9,jI (b_rows.length:Int)),(10,jI v1),(13,jI v1),(14,jI v2),(26,.d (.bool v3))] (y37 b_DappleBook b_rows m5) 2 1)) ?_ ?_
       ·refine r_split 21 rfl (fun hb_17=>?_) (fun hb_17=>?_)
        ·have h:=ifT hb_17 hx_15
         refine aX 2 (sT [(1,.d (.sl 1 (List.map e3 but))),pR 2 1,(5,jI v1),(6,jI v2),(9,jI (b_rows.length:Int)),(10,jI v1),(13,jI v1),(14,jI v2),(21,.d (.bool true)),(22,.d (.sl 1 (List.map e3 but))),(23,jI v1)] (y37 b_DappleBook b_rows m5) 2 1) ?_
         obtain ⟨r0_1,hx_16,h⟩:=bsome h
         refine r_call rfl rfl (k37 but v1 _ hx_16) rfl rfl ?_
         refine aX 2 (sT [(1,.d (.sl 1 (List.map e3 but))),pR 2 1,(5,jI v1),(6,jI v2),(9,jI (b_rows.length:Int)),(10,jI v1),(13,jI v1),(14,jI v2),(26,.d (.bool (!r0_1)))] (y37 b_DappleBook b_rows m5) 2 1) ?_
         obtain rfl:=Option.some.inj h
         refine RunC.finJ (Can.kp (by kernel_rfl))
        ·have h:=ifF hb_17 hx_15
         refine aX 5 (sT [(1,.d (.sl 1 (List.map e3 but))),pR 2 1,(5,jI v1),(6,jI v2),(9,jI (b_rows.length:Int)),(10,jI v1),(13,jI v1),(14,jI v2),(26,.d (.bool false))] (y37 b_DappleBook b_rows m5) 2 1) ?_
         obtain rfl:=Option.some.inj h
         refine RunC.finJ (Can.kp (by kernel_rfl))
       ·refine Au 1 (sT [(1,.d (.sl 1 (List.map e3 but))),pR 2 1,(5,jI v1),(6,jI v2),(9,jI (b_rows.length:Int)),(10,jI v1),(13,jI v1),(14,jI v2),(27,.d (.bool v3))] (y37 b_DappleBook b_rows m5) 2 1) ?_
        obtain ⟨c_18,hx_18,h⟩:=bsome h
        refine RW.cut fokW 5 (match c_18 with | (v4,m6)=>(sT [(1,.d (.sl 1 (List.map e3 but))),pR 2 1,(5,jI v1),(9,jI (b_rows.length:Int)),(10,jI v1),(13,jI v1),(14,jI v2),(32,.d (.bool v4))] [(0,.mp (List.map m87_4 m6)),(1,.var 53 [jI b_DappleBook.Round,.d (.sl 1 (List.map e29 b_DappleBook.Horses)),.d (.sl 8 (List.map e60 b_rows)),.map 0])] 2 1)) ?_ ?_
        ·refine r_split 27 rfl (fun hb_20=>?_) (fun hb_20=>?_)
         ·have h:=ifT hb_20 hx_18
          refine aX 3 (sT [(1,.d (.sl 1 (List.map e3 but))),pR 2 1,(5,jI v1),(9,jI (b_rows.length:Int)),(10,jI v1),(13,jI v1),(14,jI v2),(27,.d (.bool true)),(28,.agg [jI b_DappleBook.Round,.d (.sl 1 (List.map e29 b_DappleBook.Horses)),.d (.sl 8 (List.map e60 b_rows)),.map 0]),(29,jI v2),(30,jI v1)] (y37 b_DappleBook b_rows m5) 2 1) ?_
          obtain ⟨⟨r0_2,m0_3⟩,hx_19,h⟩:=bsome h
          refine r_callS (zr:=[]) [0] rfl rfl (k38c b_DappleBook b_rows v2 v1 0 m5 _ hx_19) ⟨rfl,trivial⟩ rfl rfl ⟨.refl _,.refl _,.refl _,.refl _,trivial⟩ rfl rfl rfl ?_
          refine aX 1 (sT [(1,.d (.sl 1 (List.map e3 but))),pR 2 1,(5,jI v1),(9,jI (b_rows.length:Int)),(10,jI v1),(13,jI v1),(14,jI v2),(32,.d (.bool r0_2))] [(0,.mp (List.map m87_4 m0_3)),(1,.var 53 [jI b_DappleBook.Round,.d (.sl 1 (List.map e29 b_DappleBook.Horses)),.d (.sl 8 (List.map e60 b_rows)),.map 0])] 2 1) ?_
          obtain rfl:=Option.some.inj h
          refine RunC.finJ (Can.kp (by kernel_rfl))
         ·have h:=ifF hb_20 hx_18
          refine aX 5 (sT [(1,.d (.sl 1 (List.map e3 but))),pR 2 1,(5,jI v1),(9,jI (b_rows.length:Int)),(10,jI v1),(13,jI v1),(14,jI v2),(32,.d (.bool false))] (y37 b_DappleBook b_rows m5) 2 1) ?_
          obtain rfl:=Option.some.inj h
          refine RunC.finJ (Can.kp (by kernel_rfl))
        ·obtain ⟨v4,m6⟩:=c_18
         refine RW.nil (hQ_13 _ ?_)
         refine AW.cond rfl (fun hb_21=>?_) (fun hb_21=>?_)
         ·have h:=ifT hb_21 h
          refine Sa (sT [(4,.d (.bool false))] [(0,.mp (List.map m87_4 m6))] 2 1) ?_
          obtain rfl:=Option.some.inj h
          have e_6:=hb_9 _ rfl
          subst e_6
          obtain rfl:=Aft.bk hk_9
          obtain rfl:=Aft.bk hk_8
          obtain rfl:=Aft.bk hk_7
          have e_3:=hb_4 _ rfl
          subst e_3
          obtain rfl:=Aft.bk hk_4
          obtain rfl:=Aft.bk hk_3
          obtain rfl:=Aft.bk hk_1
          exact rT hR_0 (.cons (.tmp rfl) .nil)
         ·have h:=ifF hb_21 h
          refine AW.skip (hK_12 _ ?_)
          refine Ra (sT [(1,.d (.sl 1 (List.map e3 but))),pR 2 1,(5,jI v1),(9,jI (b_rows.length:Int)),(10,jI v1),(13,jI v1),(14,jI (wr (v2+1)))] [(0,.mp (List.map m87_4 m6)),(1,.var 53 [jI b_DappleBook.Round,.d (.sl 1 (List.map e29 b_DappleBook.Horses)),.d (.sl 8 (List.map e60 b_rows)),.map 0])] 2 1) ?_
          obtain rfl:=Option.some.inj h
          have ew:wr (v2+1)=v2+1:=inext (N:=v1) (by omega) (by omega) (by omega)
          rw [ew]
          exact hK_9 _ _ rfl (Can.kp (by kernel_rfl))
      ·subst hout
       have h:=Aft.nx hk_9
       refine Sa (sT [(1,.d (.sl 1 (List.map e3 but))),pR 2 1,(5,jI v1),(9,jI (b_rows.length:Int)),(10,jI v1),(13,jI v1),(14,jI v2),(15,.d (.bool (decide (v2<v1))))] (y37 b_DappleBook b_rows m5) 2 1) ?_
       refine AW.seqK (fun K_22 hK_22=>?_)
       refine AW.cond rfl (fun hb_23=>False.elim (by have:=of_decide_eq_true hb_23;omega)) (fun hb_23=>?_)
       refine AW.exit ?_
       obtain rfl:=Option.some.inj h
       exact hK_8 _ _ rfl (Can.kp (by kernel_rfl))
     ·subst hj_8
      have h:=Aft.nx hk_8
      obtain rfl:=Option.some.inj h
      exact hK_7 _ _ rfl (Can.kp (by kernel_rfl))
    ·subst hj_7
     have h:=Aft.nx hk_7
     refine Ra (sT [(1,.d (.sl 1 (List.map e3 but))),pR 2 1,(9,jI (b_rows.length:Int)),(10,jI (wr (v1+1)))] [(1,.var 53 [jI b_DappleBook.Round,.d (.sl 1 (List.map e29 b_DappleBook.Horses)),.d (.sl 8 (List.map e60 b_rows)),.map 0]),(0,.mp (List.map m87_4 m3))] 2 1) ?_
     obtain rfl:=Option.some.inj h
     have ew:wr (v1+1)=v1+1:=inext (N:=(b_rows.length:Int)) (by omega) (by omega) (by omega)
     rw [ew]
     exact hK_4 _ _ rfl (Can.kp (by kernel_rfl))
   ·subst hout
    have h:=Aft.nx hk_4
    refine Sa (sT [(1,.d (.sl 1 (List.map e3 but))),pR 2 1,(9,jI (b_rows.length:Int)),(10,jI v1),(11,.d (.bool (decide (v1<(b_rows.length:Int)))))] (y36 b_DappleBook b_rows m2) 2 1) ?_
    refine AW.seqK (fun K_24 hK_24=>?_)
    refine AW.cond rfl (fun hb_25=>False.elim (by have:=of_decide_eq_true hb_25;omega)) (fun hb_25=>?_)
    refine AW.exit ?_
    obtain rfl:=Option.some.inj h
    exact hK_3 _ _ rfl (Can.kp (by kernel_rfl))
  ·subst hj_3
   have h:=Aft.nx hk_3
   obtain rfl:=Option.some.inj h
   exact hK_1 _ _ rfl (Can.kp (by kernel_rfl))
 ·subst hj_1
  have h:=Aft.nx hk_1
  refine Sa (sT [(4,.d (.bool true))] [(0,.mp (List.map m87_4 m))] 2 1) ?_
  obtain rfl:=Option.some.inj h
  exact rT hR_0 (.cons (.tmp rfl) .nil)
def g23 :Option Unit:=some ()
theorem k23  (r:Unit) (h:g23=some r):SCall Tryd.prog Gs 23 [] [] 0 Fr.emp (.agg [.d (.fn 35)]) [] 0 Fr.emp:=by
 unfold g23 at h
 refine SCall.mkK Tryd.func23 c23 rfl rfl (by kernel_rfl) (fun Q_0 hR_0 hN_0=>?_)
 refine Sa (sT [pR 0 0] [(0,.var 65 [.d (.nilFn)])] 1 0) ?_
 refine Sa (sT [pR 0 0] [(0,.var 65 [.d (.fn 35)])] 1 0) ?_
 obtain rfl:=Option.some.inj h
 exact rT hR_0 (.cons (.agg rfl rfl (Nat.le_of_ble_eq_true rfl)) .nil)
def g52 (x:Int):Option Bool:=some (decide (x≠x))
theorem k52 (x:Int) (r:Bool) (h:g52 x=some r):SCall Tryd.prog Gs 52 [jI x] [] 0 Fr.emp (.d (.bool r)) [] 0 Fr.emp:=by
 unfold g52 at h
 refine SCall.mkK Tryd.func52 c52 rfl rfl (by kernel_rfl) (fun Q_0 hR_0 hN_0=>?_)
 refine Sa (sT [(0,jI x)] [] 0 0) ?_
 refine Sa (sT [(2,.d (.bool (decide (x≠x))))] [] 0 0) ?_
 obtain rfl:=Option.some.inj h
 exact rT hR_0 (.cons (.tmp rfl) .nil)
def g47 (x:Int) (y:Int):Option Int:=(g52 x).bind fun r0=>(g52 y).bind fun r0_1=>bif r0 then (bif r0_1 then (some 0) else (some (-1))) else (bif r0_1 then (some 1) else (bif (decide (x<y)) then (some (-1)) else (bif (decide (y<x)) then (some 1) else (some 0))))
theorem k47 (x:Int) (y:Int) (r:Int) (h:g47 x y=some r):SCall Tryd.prog Gs 47 [jI x,jI y] [] 0 Fr.emp (jI r) [] 0 Fr.emp:=by
 unfold g47 at h
 refine SCall.mkK Tryd.func47 c47 rfl rfl (by kernel_rfl) (fun Q_0 hR_0 hN_0=>?_)
 refine Sa (sT [(0,jI x),(1,jI y)] [] 0 0) ?_
 refine AW.srwK (fun Q_1 hQ_1=>?_)
 refine Au 1 (sT [(0,jI x),(1,jI y),(7,jI x)] [] 0 0) ?_
 obtain ⟨r0,hx_2,h⟩:=bsome h
 refine rC (k52 x _ hx_2) ?_
 refine Au 1 (sT [(0,jI x),(1,jI y),(5,.d (.bool r0))] [] 0 0) ?_
 refine RW.nil (hQ_1 _ ?_)
 refine AW.srwK (fun Q_3 hQ_3=>?_)
 refine Au 1 (sT [(0,jI x),(1,jI y),(5,.d (.bool r0)),(9,jI y)] [] 0 0) ?_
 obtain ⟨r0_1,hx_4,h⟩:=bsome h
 refine rC (k52 y _ hx_4) ?_
 refine Au 1 (sT [(0,jI x),(1,jI y),(5,.d (.bool r0)),(6,.d (.bool r0_1))] [] 0 0) ?_
 refine RW.nil (hQ_3 _ ?_)
 refine AW.seqK (fun K_5 hK_5=>?_)
 refine Sa (sT [(0,jI x),(1,jI y),(6,.d (.bool r0_1)),(11,.d (.bool r0))] [] 0 0) ?_
 refine AW.cond rfl (fun hb_6=>?_) (fun hb_6=>?_)
 ·have h:=ifT hb_6 h
  refine AW.seqK (fun K_7 hK_7=>?_)
  refine Sa (sT [(12,.d (.bool r0_1))] [] 0 0) ?_
  refine AW.cond rfl (fun hb_8=>?_) (fun hb_8=>?_)
  ·have h:=ifT hb_8 h
   refine Sa (sT [(4,jI 0)] [] 0 0) ?_
   obtain rfl:=Option.some.inj h
   exact rT hR_0 (.cons (.tmp rfl) .nil)
  ·have h:=ifF hb_8 h
   refine AW.skip (hK_7 _ ?_)
   refine Sa (sT [(4,jI (-1))] [] 0 0) ?_
   obtain rfl:=Option.some.inj h
   exact rT hR_0 (.cons (.tmp rfl) .nil)
 ·have h:=ifF hb_6 h
  refine AW.skip (hK_5 _ ?_)
  refine AW.seqK (fun K_9 hK_9=>?_)
  refine Sa (sT [(0,jI x),(1,jI y),(13,.d (.bool r0_1))] [] 0 0) ?_
  refine AW.cond rfl (fun hb_10=>?_) (fun hb_10=>?_)
  ·have h:=ifT hb_10 h
   refine Sa (sT [(4,jI 1)] [] 0 0) ?_
   obtain rfl:=Option.some.inj h
   exact rT hR_0 (.cons (.tmp rfl) .nil)
  ·have h:=ifF hb_10 h
   refine AW.skip (hK_9 _ ?_)
   refine AW.seqK (fun K_11 hK_11=>?_)
   refine Sa (sT [(0,jI x),(1,jI y),(16,.d (.bool (decide (x<y))))] [] 0 0) ?_
   refine AW.cond rfl (fun hb_12=>?_) (fun hb_12=>?_)
   ·have h:=ifT hb_12 h
    refine Sa (sT [(4,jI (-1))] [] 0 0) ?_
    obtain rfl:=Option.some.inj h
    exact rT hR_0 (.cons (.tmp rfl) .nil)
   ·have h:=ifF hb_12 h
    refine AW.skip (hK_11 _ ?_)
    refine AW.seqK (fun K_13 hK_13=>?_)
    refine Sa (sT [(19,.d (.bool (decide (y<x))))] [] 0 0) ?_
    refine AW.cond rfl (fun hb_14=>?_) (fun hb_14=>?_)
    ·have h:=ifT hb_14 h
     refine Sa (sT [(4,jI 1)] [] 0 0) ?_
     obtain rfl:=Option.some.inj h
     exact rT hR_0 (.cons (.tmp rfl) .nil)
    ·have h:=ifF hb_14 h
     refine AW.skip (hK_13 _ ?_)
     refine Sa (sT [(4,jI 0)] [] 0 0) ?_
     obtain rfl:=Option.some.inj h
     exact rT hR_0 (.cons (.tmp rfl) .nil)
end Go.Proofs.Ta
namespace Go.Proofs.Ta
open Go Go.Abs Go.Proofs
def g36_3 (s2:(List Int)):Int→Int→Unit→Option (Ctl (Unit) (Int)):=fun v p _=>bif (decide ((s2.length:Int)≤v)) then (some (.brk 1)) else ((ixL s2 v).bind fun p1=>(g47 p p1).bind fun r0_7=>bif (decide (r0_7≠0)) then (some (.brk r0_7)) else (some (.next ())))
def g36 (s1:(List Int)) (s2:(List Int)):Option Int:=bindC (eachC (g36_3 s2) s1 0 ()) fun _=>bif (decide ((s1.length:Int)<(s2.length:Int))) then (some (-1)) else (some 0)
theorem k36 (s1:(List Int)) (s2:(List Int)) (r:Int) (h:g36 s1 s2=some r):SCall Tryd.prog Gs 36 [.d (.sl 1 (List.map e3 s1)),.d (.sl 1 (List.map e3 s2))] [] 0 Fr.emp (jI r) [] 0 Fr.emp:=by
 unfold g36 at h
 refine SCall.mkK Tryd.func36 c36 rfl rfl (by kernel_rfl) (fun Q_0 hR_0 hN_0=>?_)
 refine Sa (sT [(0,.d (.sl 1 (List.map e3 s1))),(1,.d (.sl 1 (List.map e3 s2)))] [] 0 0) ?_
 refine AW.seqK fun K_1 hK_1=>AW.srwK fun Q_2 hQ_2=>?_
 refine Au 1 (sT [(0,.d (.sl 1 (List.map e3 s1))),(1,.d (.sl 1 (List.map e3 s2))),(9,.d (.sl 1 (List.map e3 s1)))] [] 0 0) ?_
 refine rL rfl ?_
 refine Au 1 (sT [(0,.d (.sl 1 (List.map e3 s1))),(1,.d (.sl 1 (List.map e3 s2))),(9,.d (.sl 1 (List.map e3 s1))),(10,jI (s1.length:Int)),(11,jI 0)] [] 0 0) ?_
 refine RW.nil (hQ_2 _ ?_)
 refine AW.block ?_
 refine AW.sln (t:=0) rfl (fun hN_3=>?_)
 rw [List.length_map] at hN_3
 obtain ⟨out_3,hx_3,hk_3⟩:=bsomeC h
 refine AW.evCK (fun (v:Int) (_:Unit)=>(sT [(0,.d (.sl 1 (List.map e3 s1))),(1,.d (.sl 1 (List.map e3 s2))),(9,.d (.sl 1 (List.map e3 s1))),(10,jI (s1.length:Int)),(11,jI v)] [] 0 0)) (g36_3 s2) hx_3 (Can.kp (by kernel_rfl)) (fun v p s_3 hi_3 hl_3 hp_3 c_3 h hb_3 K_3 hK_3=>?_) (fun v s_3 hi_3 hl_3 hout=>?_)
 ·unfold g36_3 at h
  refine Sa (sT [(0,.d (.sl 1 (List.map e3 s1))),(1,.d (.sl 1 (List.map e3 s2))),(9,.d (.sl 1 (List.map e3 s1))),(10,jI (s1.length:Int)),(11,jI v),(12,.d (.bool (decide (v<(s1.length:Int)))))] [] 0 0) ?_
  refine AW.seqK (fun K_4 hK_4=>?_)
  refine AW.cond rfl (fun hb_5=>?_) (fun hb_5=>False.elim (by have:=of_decide_eq_false hb_5;omega))
  refine AW.skip (hK_4 _ ?_)
  refine AW.seqK (fun K_6 hK_6=>?_)
  refine AW.block ?_
  refine AW.srwK (fun Q_7 hQ_7=>?_)
  refine Au 1 (sT [(0,.d (.sl 1 (List.map e3 s1))),(1,.d (.sl 1 (List.map e3 s2))),(9,.d (.sl 1 (List.map e3 s1))),(10,jI (s1.length:Int)),(11,jI v),(13,jI v)] [] 0 0) ?_
  refine RW.one fokW (r_iaD trivial rfl rfl hi_3 (row:=e3 p) (mapget hp_3) (r_end ?_))
  refine Au 3 (sT [(0,.d (.sl 1 (List.map e3 s1))),(1,.d (.sl 1 (List.map e3 s2))),(5,jI v),(6,jI p),(9,.d (.sl 1 (List.map e3 s1))),(10,jI (s1.length:Int)),(11,jI v)] [] 0 0) ?_
  refine RW.nil (hQ_7 _ ?_)
  refine AW.seqK fun K_8 hK_8=>AW.srwK fun Q_9 hQ_9=>?_
  refine Au 2 (sT [(0,.d (.sl 1 (List.map e3 s1))),(1,.d (.sl 1 (List.map e3 s2))),(5,jI v),(6,jI p),(9,.d (.sl 1 (List.map e3 s1))),(10,jI (s1.length:Int)),(11,jI v),(16,jI v),(17,.d (.sl 1 (List.map e3 s2)))] [] 0 0) ?_
  refine rL rfl ?_
  refine Au 1 (sT [(0,.d (.sl 1 (List.map e3 s1))),(1,.d (.sl 1 (List.map e3 s2))),(5,jI v),(6,jI p),(9,.d (.sl 1 (List.map e3 s1))),(10,jI (s1.length:Int)),(11,jI v),(19,.d (.bool (decide ((s2.length:Int)≤v))))] [] 0 0) ?_
  refine RW.nil (hQ_9 _ ?_)
  refine AW.cond rfl (fun hb_10=>?_) (fun hb_10=>?_)
  ·have h:=ifT hb_10 h
   refine Sa (sT [(4,jI 1)] [] 0 0) ?_
   obtain rfl:=Option.some.inj h
   have e_1:=hb_3 _ rfl
   subst e_1
   obtain rfl:=Aft.bk hk_3
   exact rT hR_0 (.cons (.tmp rfl) .nil)
  ·have h:=ifF hb_10 h
   refine AW.skip (hK_8 _ ?_)
   refine AW.srwK (fun Q_11 hQ_11=>?_)
   refine Au 2 (sT [(0,.d (.sl 1 (List.map e3 s1))),(1,.d (.sl 1 (List.map e3 s2))),(6,jI p),(9,.d (.sl 1 (List.map e3 s1))),(10,jI (s1.length:Int)),(11,jI v),(20,.d (.sl 1 (List.map e3 s2))),(21,jI v)] [] 0 0) ?_
   obtain ⟨p1,hv_12,h⟩:=bsome h
   refine RW.one fokW (r_iaD trivial rfl rfl (ixL_ok hv_12).1 (row:=e3 p1) (mapget (ixL_ok hv_12).2) (r_end ?_))
   refine Au 2 (sT [(0,.d (.sl 1 (List.map e3 s1))),(1,.d (.sl 1 (List.map e3 s2))),(6,jI p),(7,jI p1),(9,.d (.sl 1 (List.map e3 s1))),(10,jI (s1.length:Int)),(11,jI v)] [] 0 0) ?_
   refine RW.nil (hQ_11 _ ?_)
   refine AW.srwK (fun Q_13 hQ_13=>?_)
   refine Au 2 (sT [(0,.d (.sl 1 (List.map e3 s1))),(1,.d (.sl 1 (List.map e3 s2))),(9,.d (.sl 1 (List.map e3 s1))),(10,jI (s1.length:Int)),(11,jI v),(24,jI p),(25,jI p1)] [] 0 0) ?_
   obtain ⟨r0_7,hx_14,h⟩:=bsome h
   refine rC (k47 p p1 _ hx_14) ?_
   refine Au 1 (sT [(0,.d (.sl 1 (List.map e3 s1))),(1,.d (.sl 1 (List.map e3 s2))),(8,jI r0_7),(9,.d (.sl 1 (List.map e3 s1))),(10,jI (s1.length:Int)),(11,jI v)] [] 0 0) ?_
   refine RW.nil (hQ_13 _ ?_)
   refine Sa (sT [(0,.d (.sl 1 (List.map e3 s1))),(1,.d (.sl 1 (List.map e3 s2))),(8,jI r0_7),(9,.d (.sl 1 (List.map e3 s1))),(10,jI (s1.length:Int)),(11,jI v),(28,.d (.bool (decide (r0_7≠0))))] [] 0 0) ?_
   refine AW.cond rfl (fun hb_15=>?_) (fun hb_15=>?_)
   ·have h:=ifT hb_15 h
    refine Sa (sT [(4,jI r0_7)] [] 0 0) ?_
    obtain rfl:=Option.some.inj h
    have e_1:=hb_3 _ rfl
    subst e_1
    obtain rfl:=Aft.bk hk_3
    exact rT hR_0 (.cons (.tmp rfl) .nil)
   ·have h:=ifF hb_15 h
    refine AW.skip (hK_6 _ ?_)
    refine Ra (sT [(0,.d (.sl 1 (List.map e3 s1))),(1,.d (.sl 1 (List.map e3 s2))),(9,.d (.sl 1 (List.map e3 s1))),(10,jI (s1.length:Int)),(11,jI (wr (v+1)))] [] 0 0) ?_
    obtain rfl:=Option.some.inj h
    have ew:wr (v+1)=v+1:=inext (N:=(s1.length:Int)) (by omega) (by omega) (by omega)
    rw [ew]
    exact hK_3 _ _ rfl (Can.kp (by kernel_rfl))
 ·subst hout
  have h:=Aft.nx hk_3
  refine Sa (sT [(0,.d (.sl 1 (List.map e3 s1))),(1,.d (.sl 1 (List.map e3 s2))),(9,.d (.sl 1 (List.map e3 s1))),(10,jI (s1.length:Int)),(11,jI v),(12,.d (.bool (decide (v<(s1.length:Int)))))] [] 0 0) ?_
  refine AW.seqK (fun K_16 hK_16=>?_)
  refine AW.cond rfl (fun hb_17=>False.elim (by have:=of_decide_eq_true hb_17;omega)) (fun hb_17=>?_)
  refine AW.exit ?_
  refine hK_1 _ ?_
  refine AW.seqK fun K_18 hK_18=>AW.srwK fun Q_19 hQ_19=>?_
  refine Au 1 (sT [(1,.d (.sl 1 (List.map e3 s2))),(31,.d (.sl 1 (List.map e3 s1)))] [] 0 0) ?_
  refine rL rfl ?_
  refine Au 1 (sT [(32,jI (s1.length:Int)),(33,.d (.sl 1 (List.map e3 s2)))] [] 0 0) ?_
  refine rL rfl ?_
  refine Au 1 (sT [(35,.d (.bool (decide ((s1.length:Int)<(s2.length:Int)))))] [] 0 0) ?_
  refine RW.nil (hQ_19 _ ?_)
  refine AW.cond rfl (fun hb_20=>?_) (fun hb_20=>?_)
  ·have h:=ifT hb_20 h
   refine Sa (sT [(4,jI (-1))] [] 0 0) ?_
   obtain rfl:=Option.some.inj h
   exact rT hR_0 (.cons (.tmp rfl) .nil)
  ·have h:=ifF hb_20 h
   refine AW.skip (hK_18 _ ?_)
   refine Sa (sT [(4,jI 0)] [] 0 0) ?_
   obtain rfl:=Option.some.inj h
   exact rT hR_0 (.cons (.tmp rfl) .nil)
def g35 (l:(List Int)) (m:(List Int)):Option Bool:=(bif (decide ((l.length:Int)<(m.length:Int))) then (some true) else (bif (decide ((l.length:Int)=(m.length:Int))) then ((g36 l m).bind fun r0_3=>some (decide (r0_3<0))) else (some false))).bind fun v=>some v
theorem k35 (l:(List Int)) (m:(List Int)) (r:Bool) (h:g35 l m=some r):SCall Tryd.prog Gs 35 [.d (.sl 1 (List.map e3 l)),.d (.sl 1 (List.map e3 m))] [] 0 Fr.emp (.d (.bool r)) [] 0 Fr.emp:=by
 unfold g35 at h
 refine SCall.mkK Tryd.func35 c35 rfl rfl (by kernel_rfl) (fun Q_0 hR_0 hN_0=>?_)
 refine Sa (sT [(0,.d (.sl 1 (List.map e3 l))),(1,.d (.sl 1 (List.map e3 m)))] [] 0 0) ?_
 refine AW.srwK (fun Q_1 hQ_1=>?_)
 refine Au 1 (sT [(0,.d (.sl 1 (List.map e3 l))),(1,.d (.sl 1 (List.map e3 m))),(5,.d (.sl 1 (List.map e3 l)))] [] 0 0) ?_
 refine rL rfl ?_
 refine Au 1 (sT [(0,.d (.sl 1 (List.map e3 l))),(1,.d (.sl 1 (List.map e3 m))),(6,jI (l.length:Int)),(7,.d (.sl 1 (List.map e3 m)))] [] 0 0) ?_
 refine rL rfl ?_
 refine Au 2 (sT [(0,.d (.sl 1 (List.map e3 l))),(1,.d (.sl 1 (List.map e3 m))),(10,.d (.bool (decide ((l.length:Int)<(m.length:Int)))))] [] 0 0) ?_
 obtain ⟨v,hx_2,h⟩:=bsome h
 refine RW.cut fokW 12 ((sT [(22,.d (.bool v))] [] 0 0)) ?_ ?_
 ·refine r_split 10 rfl (fun hb_5=>?_) (fun hb_5=>?_)
  ·have h:=ifT hb_5 hx_2
   refine aX 12 (sT [(22,.d (.bool true))] [] 0 0) ?_
   obtain rfl:=Option.some.inj h
   refine RunC.finJ (Can.kp (by kernel_rfl))
  ·have h:=ifF hb_5 hx_2
   refine aX 1 (sT [(0,.d (.sl 1 (List.map e3 l))),(1,.d (.sl 1 (List.map e3 m))),(10,.d (.bool false)),(11,.d (.sl 1 (List.map e3 l)))] [] 0 0) ?_
   refine r_lenX rfl rfl lenm ?_
   refine aX 1 (sT [(0,.d (.sl 1 (List.map e3 l))),(1,.d (.sl 1 (List.map e3 m))),(10,.d (.bool false)),(12,jI (l.length:Int)),(13,.d (.sl 1 (List.map e3 m)))] [] 0 0) ?_
   refine r_lenX rfl rfl lenm ?_
   refine aX 2 (sT [(0,.d (.sl 1 (List.map e3 l))),(1,.d (.sl 1 (List.map e3 m))),(10,.d (.bool false)),(16,.d (.bool (decide ((l.length:Int)=(m.length:Int)))))] [] 0 0) ?_
   refine r_split 16 rfl (fun hb_3=>?_) (fun hb_3=>?_)
   ·have h:=ifT hb_3 h
    refine aX 2 (sT [(10,.d (.bool false)),(16,.d (.bool true)),(17,.d (.sl 1 (List.map e3 l))),(18,.d (.sl 1 (List.map e3 m)))] [] 0 0) ?_
    obtain ⟨r0_3,hx_4,h⟩:=bsome h
    refine r_call rfl rfl (k36 l m _ hx_4) rfl rfl ?_
    refine aX 3 (sT [(22,.d (.bool (decide (r0_3<0))))] [] 0 0) ?_
    obtain rfl:=Option.some.inj h
    refine RunC.finJ (Can.kp (by kernel_rfl))
   ·have h:=ifF hb_3 h
    refine aX 6 (sT [(22,.d (.bool false))] [] 0 0) ?_
    obtain rfl:=Option.some.inj h
    refine RunC.finJ (Can.kp (by kernel_rfl))
 ·refine Au 1 (sT [(4,.d (.bool v))] [] 0 0) ?_
  refine RW.nil (hQ_1 _ ?_)
  obtain rfl:=Option.some.inj h
  exact rT hR_0 (.cons (.tmp rfl) .nil)
def g8_16 (v:Int):Int→(List Int)→(List Int)→Option (List Int):=fun v1 p l=>(must (decide (0≤v1))).bind fun _=>bif (decide ((bAnd (shr64 v v1) 1)=1)) then ((appL 8 l [v1]).bind fun l1=>some l1) else (some l)
def g8_10 (x:DappleBook) (r0_DappleBook:DappleBook) (r0_rows:(List (Nat→Int))):Int→((List Int)×Bool×(List (Dapple_turn×Bool)))→Option ((List Int)×Bool×(List (Dapple_turn×Bool))):=fun v (best,found,m)=>(eachS (g8_16 v) x.Horses 0 ([]:List Int)).bind fun l=>(bif (!found) then (some true) else ((g23).bind fun _=>(g35 l best).bind fun r0=>some r0)).bind fun v2=>(bif v2 then ((g24a r0_DappleBook r0_rows l m).bind fun (r0_4_1,m0_2)=>some (r0_4_1,m0_2)) else (some (false,m))).bind fun (v3,m1)=>bif v3 then (some (l,true,m1)) else (some (best,found,m1))
def g8 (x:DappleBook):Option ((List Int)×Int):=(g13 x).bind fun r0_4=>bif (decide (r0_4≠0)) then (some ([],r0_4)) else ((g22 x).bind fun (r0_DappleBook,r0_rows,m2)=>(must (decide (0≤(x.Horses.length:Int)))).bind fun _=>(must (decide ((shl64 1 (x.Horses.length:Int))≤9223372036854775807))).bind fun _=>(forS (g8_10 x r0_DappleBook r0_rows) ((((shl64 1 (x.Horses.length:Int)):Int) - 0).toNat) 0 (([],false,m2):(List Int)×Bool×(List (Dapple_turn×Bool)))).bind fun (best,found,m)=>(slcL best 0 (best.length:Int)).bind fun l2=>some (l2,0))
theorem k8 (x:DappleBook) (r:(List Int)×Int) (h:g8 x=some r):SCall Tryd.prog Gs 8 [.agg [jI x.Round,.d (.sl 1 (List.map e29 x.Horses))]] [] 0 Fr.emp (match r with | (r0_2,r1_1)=>.tup [.d (.sl 1 (List.map e3 r0_2)),jI r1_1]) [] 0 Fr.emp:=by
 unfold g8 at h
 refine SCall.mkK Tryd.func8 c8 rfl rfl (by kernel_rfl) (fun Q_0 hR_0 hN_0=>?_)
 refine Sa (sT [pR 1 0] [(0,.var 24 [jI x.Round,.d (.sl 1 (List.map e29 x.Horses))])] 1 0) ?_
 refine AW.seqK fun K_1 hK_1=>AW.srwK fun Q_2 hQ_2=>?_
 refine Au 1 (sT [pR 1 0,(11,.agg [jI x.Round,.d (.sl 1 (List.map e29 x.Horses))])] [(0,.var 24 [jI x.Round,.d (.sl 1 (List.map e29 x.Horses))])] 1 0) ?_
 obtain ⟨r0_4,hx_3,h⟩:=bsome h
 refine rC (k13 x _ hx_3) ?_
 refine Au 1 (sT [pR 1 0,(4,jI r0_4)] [(0,.var 24 [jI x.Round,.d (.sl 1 (List.map e29 x.Horses))])] 1 0) ?_
 refine RW.nil (hQ_2 _ ?_)
 refine Sa (sT [pR 1 0,(4,jI r0_4),(14,.d (.bool (decide (r0_4≠0))))] [(0,.var 24 [jI x.Round,.d (.sl 1 (List.map e29 x.Horses))])] 1 0) ?_
 refine AW.cond rfl (fun hb_4=>?_) (fun hb_4=>?_)
 ·have h:=ifT hb_4 h
  refine Sa (sT [(2,.d (.nilSl)),(3,jI r0_4)] [] 1 0) ?_
  obtain rfl:=Option.some.inj h
  exact AW.ret (hR_0 _ (retX (.cons (.tmp rfl) (.cons (.tmp rfl) .nil)) (Frz.tup_of ⟨.nil 1,.refl _,trivial⟩) rfl (by kernel_rfl) (by kernel_rfl)))
 ·have h:=ifF hb_4 h
  refine AW.skip (hK_1 _ ?_)
  refine AW.srwK (fun Q_5 hQ_5=>?_)
  refine Au 1 (sT [pR 1 0,(16,.agg [jI x.Round,.d (.sl 1 (List.map e29 x.Horses))])] [(0,.var 24 [jI x.Round,.d (.sl 1 (List.map e29 x.Horses))])] 1 0) ?_
  obtain ⟨⟨r0_DappleBook,r0_rows,m2⟩,hx_6,h⟩:=bsome h
  refine RW.one fokW (r_callS (zr:=[]) [] trivial rfl (k22 x _ hx_6) trivial rfl rfl ⟨.refl _,trivial⟩ rfl rfl rfl (r_end ?_))
  refine Au 2 (sT [pR 1 0,pR 5 4] [(4,.var 53 [jI r0_DappleBook.Round,.d (.sl 1 (List.map e29 r0_DappleBook.Horses)),.d (.sl 8 (List.map e60 r0_rows)),.map 3]),(3,.mp (List.map m87_4 m2)),(0,.var 24 [jI x.Round,.d (.sl 1 (List.map e29 x.Horses))])] 5 0) ?_
  refine RW.nil (hQ_5 _ ?_)
  refine Sa (sT [pR 1 0,pR 5 4,(6,.d (.nilSl))] [(4,.var 53 [jI r0_DappleBook.Round,.d (.sl 1 (List.map e29 r0_DappleBook.Horses)),.d (.sl 8 (List.map e60 r0_rows)),.map 3]),(3,.mp (List.map m87_4 m2)),(0,.var 24 [jI x.Round,.d (.sl 1 (List.map e29 x.Horses))])] 5 0) ?_
  refine Sa (sT [pR 1 0,pR 5 4,(6,.d (.nilSl)),(7,.d (.bool false))] [(4,.var 53 [jI r0_DappleBook.Round,.d (.sl 1 (List.map e29 r0_DappleBook.Horses)),.d (.sl 8 (List.map e60 r0_rows)),.map 3]),(3,.mp (List.map m87_4 m2)),(0,.var 24 [jI x.Round,.d (.sl 1 (List.map e29 x.Horses))])] 5 0) ?_
  refine AW.seqK fun K_7 hK_7=>AW.srwK fun Q_8 hQ_8=>?_
  refine Au 2 (sT [pR 1 0,pR 5 4,(6,.d (.nilSl)),(7,.d (.bool false)),(19,.d (.sl 1 (List.map e29 x.Horses)))] [(4,.var 53 [jI r0_DappleBook.Round,.d (.sl 1 (List.map e29 r0_DappleBook.Horses)),.d (.sl 8 (List.map e60 r0_rows)),.map 3]),(3,.mp (List.map m87_4 m2)),(0,.var 24 [jI x.Round,.d (.sl 1 (List.map e29 x.Horses))])] 5 0) ?_
  refine rL rfl ?_
  obtain ⟨_,hv_9,h⟩:=bsome h
  refine RW.one fokW (r_sh trivial rfl rfl (shl64_ok (of_decide_eq_true (must_ok hv_9))) (r_end ?_))
  refine Au 1 (sT [pR 1 0,pR 5 4,(6,.d (.nilSl)),(7,.d (.bool false)),(21,jI (shl64 1 (x.Horses.length:Int))),(22,jI 0)] [(4,.var 53 [jI r0_DappleBook.Round,.d (.sl 1 (List.map e29 r0_DappleBook.Horses)),.d (.sl 8 (List.map e60 r0_rows)),.map 3]),(3,.mp (List.map m87_4 m2)),(0,.var 24 [jI x.Round,.d (.sl 1 (List.map e29 x.Horses))])] 5 0) ?_
  refine RW.nil (hQ_8 _ ?_)
  refine AW.block ?_
  obtain ⟨_,hN_10,h⟩:=bsome h
  have hN_10:=of_decide_eq_true (must_ok hN_10)
  obtain ⟨out_10,hx_10,h⟩:=bsome h
  refine AW.lpSK (fun (v:Int) (⟨best,found,m⟩:(List Int)×Bool×(List (Dapple_turn×Bool)))=>(sT [pR 1 0,pR 5 4,(6,.d (.sl 1 (List.map e3 best))),(7,.d (.bool found)),(21,jI (shl64 1 (x.Horses.length:Int))),(22,jI v)] [(4,.var 53 [jI r0_DappleBook.Round,.d (.sl 1 (List.map e29 r0_DappleBook.Horses)),.d (.sl 8 (List.map e60 r0_rows)),.map 3]),(3,.mp (List.map m87_4 m)),(0,.var 24 [jI x.Round,.d (.sl 1 (List.map e29 x.Horses))])] 5 0)) (g8_10 x r0_DappleBook r0_rows) ((shl64 1 (x.Horses.length:Int))) hx_10 (Can.trans (Can.wkE 6 1 rfl) (Can.kp (by kernel_rfl))) (fun v s_10 hi_10 hl_10 c_10 h K_10 hK_10=>?_) (fun v s_10 hi_10 hl_10 hout=>?_)
  ·obtain ⟨best,found,m⟩:=s_10
   unfold g8_10 at h
   refine Sa (sT [pR 1 0,pR 5 4,(6,.d (.sl 1 (List.map e3 best))),(7,.d (.bool found)),(21,jI (shl64 1 (x.Horses.length:Int))),(22,jI v),(23,.d (.bool (decide (v<(shl64 1 (x.Horses.length:Int))))))] [(4,.var 53 [jI r0_DappleBook.Round,.d (.sl 1 (List.map e29 r0_DappleBook.Horses)),.d (.sl 8 (List.map e60 r0_rows)),.map 3]),(3,.mp (List.map m87_4 m)),(0,.var 24 [jI x.Round,.d (.sl 1 (List.map e29 x.Horses))])] 5 0) ?_
   refine AW.seqK (fun K_11 hK_11=>?_)
   refine AW.cond rfl (fun hb_12=>?_) (fun hb_12=>False.elim (by have:=of_decide_eq_false hb_12;omega))
   refine AW.skip (hK_11 _ ?_)
   refine AW.seqK (fun K_13 hK_13=>?_)
   refine AW.block ?_
   refine Sa (sT [pR 1 0,pR 5 4,(6,.d (.sl 1 (List.map e3 best))),(7,.d (.bool found)),(8,jI v),(21,jI (shl64 1 (x.Horses.length:Int))),(22,jI v)] [(4,.var 53 [jI r0_DappleBook.Round,.d (.sl 1 (List.map e29 r0_DappleBook.Horses)),.d (.sl 8 (List.map e60 r0_rows)),.map 3]),(3,.mp (List.map m87_4 m)),(0,.var 24 [jI x.Round,.d (.sl 1 (List.map e29 x.Horses))])] 5 0) ?_
   refine Sa (sT [pR 1 0,pR 5 4,(6,.d (.sl 1 (List.map e3 best))),(7,.d (.bool found)),(8,jI v),(9,.d (.nilSl)),(21,jI (shl64 1 (x.Horses.length:Int))),(22,jI v)] [(4,.var 53 [jI r0_DappleBook.Round,.d (.sl 1 (List.map e29 r0_DappleBook.Horses)),.d (.sl 8 (List.map e60 r0_rows)),.map 3]),(3,.mp (List.map m87_4 m)),(0,.var 24 [jI x.Round,.d (.sl 1 (List.map e29 x.Horses))])] 5 0) ?_
   refine AW.seqK fun K_14 hK_14=>AW.srwK fun Q_15 hQ_15=>?_
   refine Au 2 (sT [pR 1 0,pR 5 4,(6,.d (.sl 1 (List.map e3 best))),(7,.d (.bool found)),(8,jI v),(9,.d (.nilSl)),(21,jI (shl64 1 (x.Horses.length:Int))),(22,jI v),(26,.d (.sl 1 (List.map e29 x.Horses)))] [(4,.var 53 [jI r0_DappleBook.Round,.d (.sl 1 (List.map e29 r0_DappleBook.Horses)),.d (.sl 8 (List.map e60 r0_rows)),.map 3]),(3,.mp (List.map m87_4 m)),(0,.var 24 [jI x.Round,.d (.sl 1 (List.map e29 x.Horses))])] 5 0) ?_
   refine rL rfl ?_
   refine Au 1 (sT [pR 1 0,pR 5 4,(6,.d (.sl 1 (List.map e3 best))),(7,.d (.bool found)),(8,jI v),(9,.d (.nilSl)),(21,jI (shl64 1 (x.Horses.length:Int))),(22,jI v),(27,jI (x.Horses.length:Int)),(28,jI 0)] [(4,.var 53 [jI r0_DappleBook.Round,.d (.sl 1 (List.map e29 r0_DappleBook.Horses)),.d (.sl 8 (List.map e60 r0_rows)),.map 3]),(3,.mp (List.map m87_4 m)),(0,.var 24 [jI x.Round,.d (.sl 1 (List.map e29 x.Horses))])] 5 0) ?_
   refine RW.nil (hQ_15 _ ?_)
   refine AW.block ?_
   refine AW.slh (r:=0) (off:=1) rfl rfl (fun hN_16=>?_)
   rw [List.length_map] at hN_16
   obtain ⟨out_16,hx_16,h⟩:=bsome h
   refine AW.evSK (fun (v1:Int) (l:List Int)=>(sT [pR 1 0,pR 5 4,(6,.d (.sl 1 (List.map e3 best))),(7,.d (.bool found)),(8,jI v),(9,.own 5 (List.map e3 l).length),(21,jI (shl64 1 (x.Horses.length:Int))),(22,jI v),(27,jI (x.Horses.length:Int)),(28,jI v1)] [(5,.row 3 1 (List.map e3 l)),(4,.var 53 [jI r0_DappleBook.Round,.d (.sl 1 (List.map e29 r0_DappleBook.Horses)),.d (.sl 8 (List.map e60 r0_rows)),.map 3]),(3,.mp (List.map m87_4 m)),(0,.var 24 [jI x.Round,.d (.sl 1 (List.map e29 x.Horses))])] 6 0)) (g8_16 v) hx_16 (Can.trans (Can.thawT 9 3 1 rfl rfl) (Can.kp (by kernel_rfl))) (fun v1 p l hi_16 hl_16 hp_16 c_16 h K_16 hK_16=>?_) (fun v1 l hi_16 hl_16 hout=>?_)
   ·unfold g8_16 at h
    refine Sa (sT [pR 1 0,pR 5 4,(6,.d (.sl 1 (List.map e3 best))),(7,.d (.bool found)),(8,jI v),(9,.own 5 (List.map e3 l).length),(21,jI (shl64 1 (x.Horses.length:Int))),(22,jI v),(27,jI (x.Horses.length:Int)),(28,jI v1),(29,.d (.bool (decide (v1<(x.Horses.length:Int)))))] [(5,.row 3 1 (List.map e3 l)),(4,.var 53 [jI r0_DappleBook.Round,.d (.sl 1 (List.map e29 r0_DappleBook.Horses)),.d (.sl 8 (List.map e60 r0_rows)),.map 3]),(3,.mp (List.map m87_4 m)),(0,.var 24 [jI x.Round,.d (.sl 1 (List.map e29 x.Horses))])] 6 0) ?_
    refine AW.seqK (fun K_17 hK_17=>?_)
    refine AW.cond rfl (fun hb_18=>?_) (fun hb_18=>False.elim (by have:=of_decide_eq_false hb_18;omega))
    refine AW.skip (hK_17 _ ?_)
    refine AW.seqK (fun K_19 hK_19=>?_)
    refine AW.block ?_
    refine Sa (sT [pR 1 0,pR 5 4,(6,.d (.sl 1 (List.map e3 best))),(7,.d (.bool found)),(8,jI v),(9,.own 5 (List.map e3 l).length),(10,jI v1),(21,jI (shl64 1 (x.Horses.length:Int))),(22,jI v),(27,jI (x.Horses.length:Int)),(28,jI v1)] [(5,.row 3 1 (List.map e3 l)),(4,.var 53 [jI r0_DappleBook.Round,.d (.sl 1 (List.map e29 r0_DappleBook.Horses)),.d (.sl 8 (List.map e60 r0_rows)),.map 3]),(3,.mp (List.map m87_4 m)),(0,.var 24 [jI x.Round,.d (.sl 1 (List.map e29 x.Horses))])] 6 0) ?_
    refine AW.srwK (fun Q_20 hQ_20=>?_)
    refine Au 2 (sT [pR 1 0,pR 5 4,(6,.d (.sl 1 (List.map e3 best))),(7,.d (.bool found)),(8,jI v),(9,.own 5 (List.map e3 l).length),(10,jI v1),(21,jI (shl64 1 (x.Horses.length:Int))),(22,jI v),(27,jI (x.Horses.length:Int)),(28,jI v1),(31,jI v),(32,jI v1)] [(5,.row 3 1 (List.map e3 l)),(4,.var 53 [jI r0_DappleBook.Round,.d (.sl 1 (List.map e29 r0_DappleBook.Horses)),.d (.sl 8 (List.map e60 r0_rows)),.map 3]),(3,.mp (List.map m87_4 m)),(0,.var 24 [jI x.Round,.d (.sl 1 (List.map e29 x.Horses))])] 6 0) ?_
    obtain ⟨_,hv_21,h⟩:=bsome h
    refine RW.one fokW (r_sh trivial rfl rfl (shr64_ok (of_decide_eq_true (must_ok hv_21))) (r_end ?_))
    refine Au 2 (sT [pR 1 0,pR 5 4,(6,.d (.sl 1 (List.map e3 best))),(7,.d (.bool found)),(8,jI v),(9,.own 5 (List.map e3 l).length),(10,jI v1),(21,jI (shl64 1 (x.Horses.length:Int))),(22,jI v),(27,jI (x.Horses.length:Int)),(28,jI v1),(35,.d (.bool (decide ((bAnd (shr64 v v1) 1)=1))))] [(5,.row 3 1 (List.map e3 l)),(4,.var 53 [jI r0_DappleBook.Round,.d (.sl 1 (List.map e29 r0_DappleBook.Horses)),.d (.sl 8 (List.map e60 r0_rows)),.map 3]),(3,.mp (List.map m87_4 m)),(0,.var 24 [jI x.Round,.d (.sl 1 (List.map e29 x.Horses))])] 6 0) ?_
    refine RW.nil (hQ_20 _ ?_)
    refine AW.cond rfl (fun hb_22=>?_) (fun hb_22=>?_)
    ·have h:=ifT hb_22 h
     refine AW.rw ?_
     refine Au 3 (sT [pR 1 0,pR 5 4,(6,.d (.sl 1 (List.map e3 best))),(7,.d (.bool found)),(8,jI v),(21,jI (shl64 1 (x.Horses.length:Int))),(22,jI v),(27,jI (x.Horses.length:Int)),(28,jI v1),(36,.own 5 (List.map e3 l).length),(38,.own 6 (List.map e3 [v1]).length)] [(6,.row 3 1 (List.map e3 [v1])),(5,.row 3 1 (List.map e3 l)),(4,.var 53 [jI r0_DappleBook.Round,.d (.sl 1 (List.map e29 r0_DappleBook.Horses)),.d (.sl 8 (List.map e60 r0_rows)),.map 3]),(3,.mp (List.map m87_4 m)),(0,.var 24 [jI x.Round,.d (.sl 1 (List.map e29 x.Horses))])] 7 0) ?_
     obtain ⟨l1,hv_24,h⟩:=bsome h
     refine RW.one fokW (r_apO trivial rfl rfl rfl rfl rfl rfl (apz hv_24 e3) (apr hv_24 e3) (r_end ?_))
     refine Au 1 (sT [pR 1 0,pR 5 4,(6,.d (.sl 1 (List.map e3 best))),(7,.d (.bool found)),(8,jI v),(9,.own 5 (List.map e3 l1).length),(21,jI (shl64 1 (x.Horses.length:Int))),(22,jI v),(27,jI (x.Horses.length:Int)),(28,jI v1)] [(5,.row 3 1 (List.map e3 l1)),(4,.var 53 [jI r0_DappleBook.Round,.d (.sl 1 (List.map e29 r0_DappleBook.Horses)),.d (.sl 8 (List.map e60 r0_rows)),.map 3]),(3,.mp (List.map m87_4 m)),(0,.var 24 [jI x.Round,.d (.sl 1 (List.map e29 x.Horses))])] 7 0) ?_
     refine RW.nil ?_
     refine hK_19 _ ?_
     refine Ra (sT [pR 1 0,pR 5 4,(6,.d (.sl 1 (List.map e3 best))),(7,.d (.bool found)),(8,jI v),(9,.own 5 (List.map e3 l1).length),(21,jI (shl64 1 (x.Horses.length:Int))),(22,jI v),(27,jI (x.Horses.length:Int)),(28,jI (wr (v1+1)))] [(5,.row 3 1 (List.map e3 l1)),(4,.var 53 [jI r0_DappleBook.Round,.d (.sl 1 (List.map e29 r0_DappleBook.Horses)),.d (.sl 8 (List.map e60 r0_rows)),.map 3]),(3,.mp (List.map m87_4 m)),(0,.var 24 [jI x.Round,.d (.sl 1 (List.map e29 x.Horses))])] 7 0) ?_
     obtain rfl:=Option.some.inj h
     have ew:wr (v1+1)=v1+1:=inext (N:=(x.Horses.length:Int)) (by omega) (by omega) (by omega)
     rw [ew]
     exact hK_16 _ (Can.kp (by kernel_rfl))
    ·have h:=ifF hb_22 h
     refine AW.skip (hK_19 _ ?_)
     refine Ra (sT [pR 1 0,pR 5 4,(6,.d (.sl 1 (List.map e3 best))),(7,.d (.bool found)),(8,jI v),(9,.own 5 (List.map e3 l).length),(21,jI (shl64 1 (x.Horses.length:Int))),(22,jI v),(27,jI (x.Horses.length:Int)),(28,jI (wr (v1+1)))] [(5,.row 3 1 (List.map e3 l)),(4,.var 53 [jI r0_DappleBook.Round,.d (.sl 1 (List.map e29 r0_DappleBook.Horses)),.d (.sl 8 (List.map e60 r0_rows)),.map 3]),(3,.mp (List.map m87_4 m)),(0,.var 24 [jI x.Round,.d (.sl 1 (List.map e29 x.Horses))])] 6 0) ?_
     obtain rfl:=Option.some.inj h
     have ew:wr (v1+1)=v1+1:=inext (N:=(x.Horses.length:Int)) (by omega) (by omega) (by omega)
     rw [ew]
     exact hK_16 _ (Can.kp (by kernel_rfl))
   ·subst hout
    refine Sa (sT [pR 1 0,pR 5 4,(6,.d (.sl 1 (List.map e3 best))),(7,.d (.bool found)),(8,jI v),(9,.own 5 (List.map e3 l).length),(21,jI (shl64 1 (x.Horses.length:Int))),(22,jI v),(27,jI (x.Horses.length:Int)),(28,jI v1),(29,.d (.bool (decide (v1<(x.Horses.length:Int)))))] [(5,.row 3 1 (List.map e3 l)),(4,.var 53 [jI r0_DappleBook.Round,.d (.sl 1 (List.map e29 r0_DappleBook.Horses)),.d (.sl 8 (List.map e60 r0_rows)),.map 3]),(3,.mp (List.map m87_4 m)),(0,.var 24 [jI x.Round,.d (.sl 1 (List.map e29 x.Horses))])] 6 0) ?_
    refine AW.seqK (fun K_25 hK_25=>?_)
    refine AW.cond rfl (fun hb_26=>False.elim (by have:=of_decide_eq_true hb_26;omega)) (fun hb_26=>?_)
    refine AW.exit ?_
    refine hK_14 _ ?_
    refine AW.can (Can.fzE 9 5 rfl rfl rfl) ?_
    refine AW.kp (sT [pR 1 0,pR 5 4,(6,.d (.sl 1 (List.map e3 best))),(7,.d (.bool found)),(8,jI v),(9,.d (.sl 1 (List.map e3 l))),(21,jI (shl64 1 (x.Horses.length:Int))),(22,jI v),(27,jI (x.Horses.length:Int)),(28,jI v1),(29,.d (.bool (decide (v1<(x.Horses.length:Int)))))] [(4,.var 53 [jI r0_DappleBook.Round,.d (.sl 1 (List.map e29 r0_DappleBook.Horses)),.d (.sl 8 (List.map e60 r0_rows)),.map 3]),(3,.mp (List.map m87_4 m)),(0,.var 24 [jI x.Round,.d (.sl 1 (List.map e29 x.Horses))])] 6 0) (by kernel_rfl) ?_
    refine AW.srwK (fun Q_27 hQ_27=>?_)
    refine Au 3 (sT [pR 1 0,pR 5 4,(6,.d (.sl 1 (List.map e3 best))),(7,.d (.bool found)),(9,.d (.sl 1 (List.map e3 l))),(21,jI (shl64 1 (x.Horses.length:Int))),(22,jI v),(43,.d (.bool (!found)))] [(4,.var 53 [jI r0_DappleBook.Round,.d (.sl 1 (List.map e29 r0_DappleBook.Horses)),.d (.sl 8 (List.map e60 r0_rows)),.map 3]),(3,.mp (List.map m87_4 m)),(0,.var 24 [jI x.Round,.d (.sl 1 (List.map e29 x.Horses))])] 6 0) ?_
    obtain ⟨v2,hx_28,h⟩:=bsome h
    refine RW.cut fokW 6 ((sT [pR 1 0,pR 5 4,(6,.d (.sl 1 (List.map e3 best))),(7,.d (.bool found)),(9,.d (.sl 1 (List.map e3 l))),(21,jI (shl64 1 (x.Horses.length:Int))),(22,jI v),(49,.d (.bool v2))] [(4,.var 53 [jI r0_DappleBook.Round,.d (.sl 1 (List.map e29 r0_DappleBook.Horses)),.d (.sl 8 (List.map e60 r0_rows)),.map 3]),(3,.mp (List.map m87_4 m)),(0,.var 24 [jI x.Round,.d (.sl 1 (List.map e29 x.Horses))])] 6 0)) ?_ ?_
    ·refine r_split 43 rfl (fun hb_31=>?_) (fun hb_31=>?_)
     ·have h:=ifT hb_31 hx_28
      refine aX 6 (sT [pR 1 0,pR 5 4,(6,.d (.sl 1 (List.map e3 best))),(7,.d (.bool found)),(9,.d (.sl 1 (List.map e3 l))),(21,jI (shl64 1 (x.Horses.length:Int))),(22,jI v),(49,.d (.bool true))] [(4,.var 53 [jI r0_DappleBook.Round,.d (.sl 1 (List.map e29 r0_DappleBook.Horses)),.d (.sl 8 (List.map e60 r0_rows)),.map 3]),(3,.mp (List.map m87_4 m)),(0,.var 24 [jI x.Round,.d (.sl 1 (List.map e29 x.Horses))])] 6 0) ?_
      obtain rfl:=Option.some.inj h
      refine RunC.finJ (Can.kp (by kernel_rfl))
     ·have h:=ifF hb_31 hx_28
      obtain ⟨⟨⟩,hx_29,h⟩:=bsome h
      refine r_call rfl rfl (k23 _ hx_29) rfl rfl ?_
      refine aX 3 (sT [pR 1 0,pR 5 4,(6,.d (.sl 1 (List.map e3 best))),(7,.d (.bool found)),(9,.d (.sl 1 (List.map e3 l))),(21,jI (shl64 1 (x.Horses.length:Int))),(22,jI v),(43,.d (.bool false)),(45,.d (.fn 35)),(46,.d (.sl 1 (List.map e3 l))),(47,.d (.sl 1 (List.map e3 best)))] [(4,.var 53 [jI r0_DappleBook.Round,.d (.sl 1 (List.map e29 r0_DappleBook.Horses)),.d (.sl 8 (List.map e60 r0_rows)),.map 3]),(3,.mp (List.map m87_4 m)),(0,.var 24 [jI x.Round,.d (.sl 1 (List.map e29 x.Horses))])] 6 0) ?_
      obtain ⟨r0,hx_30,h⟩:=bsome h
      refine r_callvZ (zr:=[]) rfl rfl (.fn _) (by kernel_rfl) rfl (k35 l best _ hx_30) trivial ⟨.refl _,.refl _,trivial⟩ rfl rfl rfl rfl ?_
      refine aX 1 (sT [pR 1 0,pR 5 4,(6,.d (.sl 1 (List.map e3 best))),(7,.d (.bool found)),(9,.d (.sl 1 (List.map e3 l))),(21,jI (shl64 1 (x.Horses.length:Int))),(22,jI v),(49,.d (.bool r0))] [(4,.var 53 [jI r0_DappleBook.Round,.d (.sl 1 (List.map e29 r0_DappleBook.Horses)),.d (.sl 8 (List.map e60 r0_rows)),.map 3]),(3,.mp (List.map m87_4 m)),(0,.var 24 [jI x.Round,.d (.sl 1 (List.map e29 x.Horses))])] 6 0) ?_
      obtain rfl:=Option.some.inj h
      refine RunC.finJ (Can.kp (by kernel_rfl))
    ·refine Au 1 (sT [pR 1 0,pR 5 4,(6,.d (.sl 1 (List.map e3 best))),(7,.d (.bool found)),(9,.d (.sl 1 (List.map e3 l))),(21,jI (shl64 1 (x.Horses.length:Int))),(22,jI v),(50,.d (.bool v2))] [(4,.var 53 [jI r0_DappleBook.Round,.d (.sl 1 (List.map e29 r0_DappleBook.Horses)),.d (.sl 8 (List.map e60 r0_rows)),.map 3]),(3,.mp (List.map m87_4 m)),(0,.var 24 [jI x.Round,.d (.sl 1 (List.map e29 x.Horses))])] 6 0) ?_
     obtain ⟨c_32,hx_32,h⟩:=bsome h
     refine RW.cut fokW 4 (match c_32 with | (v3,m1)=>(sT [pR 1 0,pR 5 4,(6,.d (.sl 1 (List.map e3 best))),(7,.d (.bool found)),(9,.d (.sl 1 (List.map e3 l))),(21,jI (shl64 1 (x.Horses.length:Int))),(22,jI v),(54,.d (.bool v3))] [(3,.mp (List.map m87_4 m1)),(4,.var 53 [jI r0_DappleBook.Round,.d (.sl 1 (List.map e29 r0_DappleBook.Horses)),.d (.sl 8 (List.map e60 r0_rows)),.map 3]),(0,.var 24 [jI x.Round,.d (.sl 1 (List.map e29 x.Horses))])] 6 0)) ?_ ?_
     ·refine r_split 50 rfl (fun hb_34=>?_) (fun hb_34=>?_)
      ·have h:=ifT hb_34 hx_32
       refine aX 2 (sT [pR 1 0,pR 5 4,(6,.d (.sl 1 (List.map e3 best))),(7,.d (.bool found)),(9,.d (.sl 1 (List.map e3 l))),(21,jI (shl64 1 (x.Horses.length:Int))),(22,jI v),(50,.d (.bool true)),(51,.agg [jI r0_DappleBook.Round,.d (.sl 1 (List.map e29 r0_DappleBook.Horses)),.d (.sl 8 (List.map e60 r0_rows)),.map 3]),(52,.d (.sl 1 (List.map e3 l)))] [(4,.var 53 [jI r0_DappleBook.Round,.d (.sl 1 (List.map e29 r0_DappleBook.Horses)),.d (.sl 8 (List.map e60 r0_rows)),.map 3]),(3,.mp (List.map m87_4 m)),(0,.var 24 [jI x.Round,.d (.sl 1 (List.map e29 x.Horses))])] 6 0) ?_
       obtain ⟨⟨r0_4_1,m0_2⟩,hx_33,h⟩:=bsome h
       refine r_callS (zr:=[]) [3] rfl rfl (k24a r0_DappleBook r0_rows l m _ hx_33) ⟨rfl,trivial⟩ rfl rfl ⟨.refl _,.refl _,trivial⟩ rfl rfl rfl ?_
       refine aX 1 (sT [pR 1 0,pR 5 4,(6,.d (.sl 1 (List.map e3 best))),(7,.d (.bool found)),(9,.d (.sl 1 (List.map e3 l))),(21,jI (shl64 1 (x.Horses.length:Int))),(22,jI v),(54,.d (.bool r0_4_1))] [(3,.mp (List.map m87_4 m0_2)),(4,.var 53 [jI r0_DappleBook.Round,.d (.sl 1 (List.map e29 r0_DappleBook.Horses)),.d (.sl 8 (List.map e60 r0_rows)),.map 3]),(0,.var 24 [jI x.Round,.d (.sl 1 (List.map e29 x.Horses))])] 6 0) ?_
       obtain rfl:=Option.some.inj h
       refine RunC.finJ (Can.kp (by kernel_rfl))
      ·have h:=ifF hb_34 hx_32
       refine aX 4 (sT [pR 1 0,pR 5 4,(6,.d (.sl 1 (List.map e3 best))),(7,.d (.bool found)),(9,.d (.sl 1 (List.map e3 l))),(21,jI (shl64 1 (x.Horses.length:Int))),(22,jI v),(54,.d (.bool false))] [(4,.var 53 [jI r0_DappleBook.Round,.d (.sl 1 (List.map e29 r0_DappleBook.Horses)),.d (.sl 8 (List.map e60 r0_rows)),.map 3]),(3,.mp (List.map m87_4 m)),(0,.var 24 [jI x.Round,.d (.sl 1 (List.map e29 x.Horses))])] 6 0) ?_
       obtain rfl:=Option.some.inj h
       refine RunC.finJ (Can.kp (by kernel_rfl))
     ·obtain ⟨v3,m1⟩:=c_32
      refine RW.nil (hQ_27 _ ?_)
      refine AW.cond rfl (fun hb_35=>?_) (fun hb_35=>?_)
      ·have h:=ifT hb_35 h
       refine Ra (sT [pR 1 0,pR 5 4,(6,.d (.sl 1 (List.map e3 l))),(7,.d (.bool true)),(21,jI (shl64 1 (x.Horses.length:Int))),(22,jI v)] [(3,.mp (List.map m87_4 m1)),(4,.var 53 [jI r0_DappleBook.Round,.d (.sl 1 (List.map e29 r0_DappleBook.Horses)),.d (.sl 8 (List.map e60 r0_rows)),.map 3]),(0,.var 24 [jI x.Round,.d (.sl 1 (List.map e29 x.Horses))])] 6 0) ?_
       refine hK_13 _ ?_
       refine Ra (sT [pR 1 0,pR 5 4,(6,.d (.sl 1 (List.map e3 l))),(7,.d (.bool true)),(21,jI (shl64 1 (x.Horses.length:Int))),(22,jI (wr (v+1)))] [(3,.mp (List.map m87_4 m1)),(4,.var 53 [jI r0_DappleBook.Round,.d (.sl 1 (List.map e29 r0_DappleBook.Horses)),.d (.sl 8 (List.map e60 r0_rows)),.map 3]),(0,.var 24 [jI x.Round,.d (.sl 1 (List.map e29 x.Horses))])] 6 0) ?_
       obtain rfl:=Option.some.inj h
       have ew:wr (v+1)=v+1:=inext (N:=(shl64 1 (x.Horses.length:Int))) (by omega) (by omega) (by omega)
       rw [ew]
       exact hK_10 _ (Can.kp (by kernel_rfl))
      ·have h:=ifF hb_35 h
       refine AW.skip (hK_13 _ ?_)
       refine Ra (sT [pR 1 0,pR 5 4,(6,.d (.sl 1 (List.map e3 best))),(7,.d (.bool found)),(21,jI (shl64 1 (x.Horses.length:Int))),(22,jI (wr (v+1)))] [(3,.mp (List.map m87_4 m1)),(4,.var 53 [jI r0_DappleBook.Round,.d (.sl 1 (List.map e29 r0_DappleBook.Horses)),.d (.sl 8 (List.map e60 r0_rows)),.map 3]),(0,.var 24 [jI x.Round,.d (.sl 1 (List.map e29 x.Horses))])] 6 0) ?_
       obtain rfl:=Option.some.inj h
       have ew:wr (v+1)=v+1:=inext (N:=(shl64 1 (x.Horses.length:Int))) (by omega) (by omega) (by omega)
       rw [ew]
       exact hK_10 _ (Can.kp (by kernel_rfl))
  ·obtain ⟨best,found,m⟩:=s_10
   subst hout
   refine Sa (sT [pR 1 0,pR 5 4,(6,.d (.sl 1 (List.map e3 best))),(7,.d (.bool found)),(21,jI (shl64 1 (x.Horses.length:Int))),(22,jI v),(23,.d (.bool (decide (v<(shl64 1 (x.Horses.length:Int))))))] [(4,.var 53 [jI r0_DappleBook.Round,.d (.sl 1 (List.map e29 r0_DappleBook.Horses)),.d (.sl 8 (List.map e60 r0_rows)),.map 3]),(3,.mp (List.map m87_4 m)),(0,.var 24 [jI x.Round,.d (.sl 1 (List.map e29 x.Horses))])] 5 0) ?_
   refine AW.seqK (fun K_36 hK_36=>?_)
   refine AW.cond rfl (fun hb_37=>False.elim (by have:=of_decide_eq_true hb_37;omega)) (fun hb_37=>?_)
   refine AW.exit ?_
   refine hK_7 _ ?_
   refine AW.srwK (fun Q_38 hQ_38=>?_)
   refine Au 2 (sT [(6,.d (.sl 1 (List.map e3 best))),(57,.d (.sl 1 (List.map e3 best))),(58,.d (.sl 1 (List.map e3 best)))] [] 5 0) ?_
   refine rL rfl ?_
   refine Au 1 (sT [(57,.d (.sl 1 (List.map e3 best))),(59,jI (best.length:Int)),(60,.d (.sl 1 (List.map e3 best)))] [] 5 0) ?_
   refine rL rfl ?_
   obtain ⟨l2,hv_39,h⟩:=bsome h
   refine RW.one fokW (r_slN trivial rfl rfl rfl DSl.d (slcL_ok hv_39).2.1 (by rw [List.length_map];exact (slcL_ok hv_39).2.2.1) rfl (slz hv_39 e3) (r_end ?_))
   refine Au 2 (sT [(2,.fsl 1 (List.map e3 l2)),(3,jI 0)] [] 5 0) ?_
   refine RW.nil (hQ_38 _ ?_)
   obtain rfl:=Option.some.inj h
   exact AW.ret (hR_0 _ (retX (.cons (.tmp rfl) (.cons (.tmp rfl) .nil)) (Frz.tup_of ⟨.fsl _ _,.refl _,trivial⟩) rfl (by kernel_rfl) (by kernel_rfl)))
def g19_4 (l:(List Int)) (m:(List Int)):(Bool×Int)→Option (Ctl (Bool×Int) (Bool)):=fun  (is2,i)=>(bif is2 then (some (decide (i<(l.length:Int)))) else (some false)).bind fun v=>bif v then ((ixL l i).bind fun p=>(ixL m i).bind fun p1=>some (.next ((decide (p=p1)),(wr (i+1))))) else (some (.brk is2))
def g19 (l:(List Int)) (m:(List Int)):Option Bool:=((whileC (g19_4 l m) 1000 ((decide ((l.length:Int)=(m.length:Int))),0)).bind fun is1=>some is1).bind fun is=>some is
theorem k19 (l:(List Int)) (m:(List Int)) (r:Bool) (h:g19 l m=some r):SCall Tryd.prog Gs 19 [.d (.sl 1 (List.map e3 l)),.d (.sl 1 (List.map e3 m))] [] 0 Fr.emp (.d (.bool r)) [] 0 Fr.emp:=by
 unfold g19 at h
 refine SCall.mkK Tryd.func19 c19 rfl rfl (by kernel_rfl) (fun Q_0 hR_0 hN_0=>?_)
 refine Sa (sT [(0,.d (.sl 1 (List.map e3 l))),(1,.d (.sl 1 (List.map e3 m)))] [] 0 0) ?_
 refine AW.srwK (fun Q_1 hQ_1=>?_)
 refine Au 1 (sT [(0,.d (.sl 1 (List.map e3 l))),(1,.d (.sl 1 (List.map e3 m))),(7,.d (.sl 1 (List.map e3 l)))] [] 0 0) ?_
 refine rL rfl ?_
 refine Au 1 (sT [(0,.d (.sl 1 (List.map e3 l))),(1,.d (.sl 1 (List.map e3 m))),(8,jI (l.length:Int)),(9,.d (.sl 1 (List.map e3 m)))] [] 0 0) ?_
 refine rL rfl ?_
 refine Au 2 (sT [(0,.d (.sl 1 (List.map e3 l))),(1,.d (.sl 1 (List.map e3 m))),(5,.d (.bool (decide ((l.length:Int)=(m.length:Int)))))] [] 0 0) ?_
 refine RW.nil (hQ_1 _ ?_)
 obtain ⟨is,hx_2,h⟩:=bsome h
 refine AW.jnSK (fun (is:Bool)=>(sT [(5,.d (.bool is))] [] 0 0)) (c:=is) (fun K_2 hK_2=>?_) ?_
 ·have h:=hx_2
  refine Sa (sT [(0,.d (.sl 1 (List.map e3 l))),(1,.d (.sl 1 (List.map e3 m))),(5,.d (.bool (decide ((l.length:Int)=(m.length:Int))))),(6,jI 0)] [] 0 0) ?_
  obtain ⟨is1,hx_3,h⟩:=bsome h
  refine AW.jqSK (fun (is1:Bool)=>(sT [(5,.d (.bool is1))] [] 0 0)) (c:=is1) (fun K_3 hK_3=>?_) ?_
  ·have h:=hx_3
   refine AW.block ?_
   refine AW.whK (fun (⟨is2,i⟩:Bool×Int)=>(sT [(0,.d (.sl 1 (List.map e3 l))),(1,.d (.sl 1 (List.map e3 m))),(5,.d (.bool is2)),(6,jI i)] [] 0 0)) (g19_4 l m) h (Can.kp (by kernel_rfl)) (fun s_4 c_4 h hb_4 K_4 hK_4=>?_)
   obtain ⟨is2,i⟩:=s_4
   unfold g19_4 at h
   refine AW.seqK fun K_5 hK_5=>AW.srwK fun Q_6 hQ_6=>?_
   refine Au 2 (sT [(0,.d (.sl 1 (List.map e3 l))),(1,.d (.sl 1 (List.map e3 m))),(5,.d (.bool is2)),(6,jI i),(13,.d (.bool is2))] [] 0 0) ?_
   obtain ⟨v,hx_7,h⟩:=bsome h
   refine RW.cut fokW 5 ((sT [(0,.d (.sl 1 (List.map e3 l))),(1,.d (.sl 1 (List.map e3 m))),(5,.d (.bool is2)),(6,jI i),(18,.d (.bool v))] [] 0 0)) ?_ ?_
   ·refine r_split 13 rfl (fun hb_8=>?_) (fun hb_8=>?_)
    ·have h:=ifT hb_8 hx_7
     refine aX 2 (sT [(0,.d (.sl 1 (List.map e3 l))),(1,.d (.sl 1 (List.map e3 m))),(5,.d (.bool is2)),(6,jI i),(13,.d (.bool true)),(14,jI i),(15,.d (.sl 1 (List.map e3 l)))] [] 0 0) ?_
     refine r_lenX rfl rfl lenm ?_
     refine aX 2 (sT [(0,.d (.sl 1 (List.map e3 l))),(1,.d (.sl 1 (List.map e3 m))),(5,.d (.bool is2)),(6,jI i),(18,.d (.bool (decide (i<(l.length:Int)))))] [] 0 0) ?_
     obtain rfl:=Option.some.inj h
     refine RunC.finJ (Can.kp (by kernel_rfl))
    ·have h:=ifF hb_8 hx_7
     refine aX 5 (sT [(0,.d (.sl 1 (List.map e3 l))),(1,.d (.sl 1 (List.map e3 m))),(5,.d (.bool is2)),(6,jI i),(18,.d (.bool false))] [] 0 0) ?_
     obtain rfl:=Option.some.inj h
     refine RunC.finJ (Can.kp (by kernel_rfl))
   ·refine RW.nil (hQ_6 _ ?_)
    refine AW.cond rfl (fun hb_9=>?_) (fun hb_9=>?_)
    ·have h:=ifT hb_9 h
     refine AW.skip (hK_5 _ ?_)
     refine AW.seqK (fun K_10 hK_10=>?_)
     refine AW.block ?_
     refine AW.drw fokW ?_
     refine aX 2 (sT [(0,.d (.sl 1 (List.map e3 l))),(1,.d (.sl 1 (List.map e3 m))),(6,jI i),(21,.d (.sl 1 (List.map e3 l))),(22,jI i)] [] 0 0) ?_
     obtain ⟨p,hv_12,h⟩:=bsome h
     refine r_iaD trivial rfl rfl (ixL_ok hv_12).1 (row:=e3 p) (mapget (ixL_ok hv_12).2) ?_
     refine aX 3 (sT [(0,.d (.sl 1 (List.map e3 l))),(1,.d (.sl 1 (List.map e3 m))),(6,jI i),(24,jI p),(25,.d (.sl 1 (List.map e3 m))),(26,jI i)] [] 0 0) ?_
     obtain ⟨p1,hv_13,h⟩:=bsome h
     refine r_iaD trivial rfl rfl (ixL_ok hv_13).1 (row:=e3 p1) (mapget (ixL_ok hv_13).2) ?_
     refine aX 3 (sT [(0,.d (.sl 1 (List.map e3 l))),(1,.d (.sl 1 (List.map e3 m))),(5,.d (.bool (decide (p=p1)))),(6,jI i)] [] 0 0) ?_
     refine Fi (sT [(0,.d (.sl 1 (List.map e3 l))),(1,.d (.sl 1 (List.map e3 m))),(5,.d (.bool (decide (p=p1)))),(6,jI i)] [] 0 0) ?_
     refine hK_10 _ ?_
     refine Ra (sT [(0,.d (.sl 1 (List.map e3 l))),(1,.d (.sl 1 (List.map e3 m))),(5,.d (.bool (decide (p=p1)))),(6,jI (wr (i+1)))] [] 0 0) ?_
     obtain rfl:=Option.some.inj h
     exact hK_4 _ _ rfl (Can.kp (by kernel_rfl))
    ·have h:=ifF hb_9 h
     refine AW.exit ?_
     obtain rfl:=Option.some.inj h
     obtain rfl:=hb_4 _ rfl
     exact hK_3 _ (Can.kp (by kernel_rfl))
  ·obtain rfl:=Option.some.inj h
   exact hK_2 _ (Can.kp (by kernel_rfl))
 ·refine Sa (sT [(4,.d (.bool is))] [] 0 0) ?_
  obtain rfl:=Option.some.inj h
  exact rT hR_0 (.cons (.tmp rfl) .nil)
def g5 :Option Bool:=(g16).bind fun r0=>(g15 r0 [0,1,2]).bind fun (r0_6,r1_2)=>(g16).bind fun r0_1=>(g18 r0_1 [0,1,2]).bind fun r0_2=>(g17 r0_2).bind fun (r0_3,r1_4)=>(g16).bind fun r0_4=>(g7 r0_4 0 1).bind fun (r0_2_1,r1_4_1)=>(g16).bind fun r0_5=>(g18 r0_5 ([]:(List Int))).bind fun r0_7=>(g10 r0_7 0 1).bind fun (r0_4_1,r1_3)=>(g16).bind fun r0_8=>(g8 r0_8).bind fun (r0_2_2,r1_1)=>(bif (((((decide (r1_2=0))&&(decide (r1_4=0)))&&(decide (r1_4_1=0)))&&(decide (r1_3=0)))&&(decide (r1_1=0))) then ((g19 r0_6 [0,1,2]).bind fun r0_9=>some r0_9) else (some false)).bind fun v=>(bif v then ((g19 r0_3 [0,2]).bind fun r0_10=>some r0_10) else (some false)).bind fun v1=>(bif v1 then ((g19 r0_2_1 [1]).bind fun r0_11=>some r0_11) else (some false)).bind fun v2=>(bif (v2&&r0_4_1) then ((g19 r0_2_2 [0,1]).bind fun r0_12=>some r0_12) else (some false)).bind fun v3=>some v3
theorem k5  (r:Bool) (h:g5=some r):SCall Tryd.prog Gs 5 [] [] 0 Fr.emp (.d (.bool r)) [] 0 Fr.emp:=by
 unfold g5 at h
 refine SCall.mkK Tryd.func5 c5 rfl rfl (by kernel_rfl) (fun Q_0 hR_0 hN_0=>?_)
 refine Sa (sT [] [] 0 0) ?_
 refine AW.srwK (fun Q_1 hQ_1=>?_)
 obtain ⟨r0,hx_2,h⟩:=bsome h
 refine rC (k16 _ hx_2) ?_
 refine Au 1 (sT [(12,.agg [jI r0.Round,.d (.sl 1 (List.map e29 r0.Horses))]),(13,.own 0 (List.map e3 [0,1,2]).length)] [(0,.row 3 1 (List.map e3 [0,1,2]))] 1 0) ?_
 obtain ⟨⟨r0_6,r1_2⟩,hx_3,h⟩:=bsome h
 refine RW.one fokW (r_callZ (zr:=[(0,.row 3 1 (List.map e3 [0,1,2]))]) trivial rfl (k15 r0 [0,1,2] _ hx_3) ⟨rfl,trivial⟩ ⟨.refl _,(.own rfl rfl),trivial⟩ rfl rfl rfl rfl (r_end ?_))
 refine Au 5 (sT [(1,.d (.sl 1 (List.map e3 r0_6))),(2,jI r1_2)] [] 1 0) ?_
 refine RW.nil (hQ_1 _ ?_)
 refine AW.srwK (fun Q_4 hQ_4=>?_)
 obtain ⟨r0_1,hx_5,h⟩:=bsome h
 refine rC (k16 _ hx_5) ?_
 refine Au 1 (sT [(1,.d (.sl 1 (List.map e3 r0_6))),(2,jI r1_2),(18,.agg [jI r0_1.Round,.d (.sl 1 (List.map e29 r0_1.Horses))]),(19,.own 1 (List.map e3 [0,1,2]).length)] [(1,.row 3 1 (List.map e3 [0,1,2]))] 2 0) ?_
 obtain ⟨r0_2,hx_6,h⟩:=bsome h
 refine RW.one fokW (r_callZ (zr:=[(1,.row 3 1 (List.map e3 [0,1,2]))]) trivial rfl (k18 r0_1 [0,1,2] _ hx_6) ⟨rfl,trivial⟩ ⟨.refl _,(.own rfl rfl),trivial⟩ rfl rfl rfl rfl (r_end ?_))
 obtain ⟨⟨r0_3,r1_4⟩,hx_7,h⟩:=bsome h
 refine rC (k17 r0_2 _ hx_7) ?_
 refine Au 5 (sT [(1,.d (.sl 1 (List.map e3 r0_6))),(2,jI r1_2),(3,.d (.sl 1 (List.map e3 r0_3))),(4,jI r1_4)] [] 2 0) ?_
 refine RW.nil (hQ_4 _ ?_)
 refine AW.srwK (fun Q_8 hQ_8=>?_)
 obtain ⟨r0_4,hx_9,h⟩:=bsome h
 refine rC (k16 _ hx_9) ?_
 obtain ⟨⟨r0_2_1,r1_4_1⟩,hx_10,h⟩:=bsome h
 refine rC (k7 r0_4 0 1 _ hx_10) ?_
 refine Au 5 (sT [(1,.d (.sl 1 (List.map e3 r0_6))),(2,jI r1_2),(3,.d (.sl 1 (List.map e3 r0_3))),(4,jI r1_4),(5,.d (.sl 1 (List.map e3 r0_2_1))),(6,jI r1_4_1)] [] 2 0) ?_
 refine RW.nil (hQ_8 _ ?_)
 refine AW.srwK (fun Q_11 hQ_11=>?_)
 obtain ⟨r0_5,hx_12,h⟩:=bsome h
 refine rC (k16 _ hx_12) ?_
 obtain ⟨r0_7,hx_13,h⟩:=bsome h
 refine RW.one fokW (r_callZ (zr:=[]) trivial rfl (k18 r0_5 ([]:(List Int)) _ hx_13) trivial ⟨.refl _,(.nil 1),trivial⟩ rfl rfl rfl rfl (r_end ?_))
 obtain ⟨⟨r0_4_1,r1_3⟩,hx_14,h⟩:=bsome h
 refine rC (k10 r0_7 0 1 _ hx_14) ?_
 refine Au 5 (sT [(1,.d (.sl 1 (List.map e3 r0_6))),(2,jI r1_2),(3,.d (.sl 1 (List.map e3 r0_3))),(4,jI r1_4),(5,.d (.sl 1 (List.map e3 r0_2_1))),(6,jI r1_4_1),(7,.d (.bool r0_4_1)),(8,jI r1_3)] [] 2 0) ?_
 refine RW.nil (hQ_11 _ ?_)
 refine AW.srwK (fun Q_15 hQ_15=>?_)
 obtain ⟨r0_8,hx_16,h⟩:=bsome h
 refine rC (k16 _ hx_16) ?_
 obtain ⟨⟨r0_2_2,r1_1⟩,hx_17,h⟩:=bsome h
 refine rC (k8 r0_8 _ hx_17) ?_
 refine Au 5 (sT [(1,.d (.sl 1 (List.map e3 r0_6))),(2,jI r1_2),(3,.d (.sl 1 (List.map e3 r0_3))),(4,jI r1_4),(5,.d (.sl 1 (List.map e3 r0_2_1))),(6,jI r1_4_1),(7,.d (.bool r0_4_1)),(8,jI r1_3),(9,.d (.sl 1 (List.map e3 r0_2_2))),(10,jI r1_1)] [] 2 0) ?_
 refine RW.nil (hQ_15 _ ?_)
 refine AW.srwK (fun Q_18 hQ_18=>?_)
 refine RW.au fokW 19 [42,46,50,54] (sT [(1,.d (.sl 1 (List.map e3 r0_6))),(3,.d (.sl 1 (List.map e3 r0_3))),(5,.d (.sl 1 (List.map e3 r0_2_1))),(7,.d (.bool r0_4_1)),(9,.d (.sl 1 (List.map e3 r0_2_2))),(58,.d (.bool (((((decide (r1_2=0))&&(decide (r1_4=0)))&&(decide (r1_4_1=0)))&&(decide (r1_3=0)))&&(decide (r1_1=0)))))] [] 2 0) (by kernel_rfl) ?_
 obtain ⟨v,hx_19,h⟩:=bsome h
 refine RW.cut fokW 4 ((sT [(3,.d (.sl 1 (List.map e3 r0_3))),(5,.d (.sl 1 (List.map e3 r0_2_1))),(7,.d (.bool r0_4_1)),(9,.d (.sl 1 (List.map e3 r0_2_2))),(62,.d (.bool v))] [] 2 0)) ?_ ?_
 ·refine r_split 58 rfl (fun hb_21=>?_) (fun hb_21=>?_)
  ·have h:=ifT hb_21 hx_19
   refine aX 2 (sT [(3,.d (.sl 1 (List.map e3 r0_3))),(5,.d (.sl 1 (List.map e3 r0_2_1))),(7,.d (.bool r0_4_1)),(9,.d (.sl 1 (List.map e3 r0_2_2))),(58,.d (.bool true)),(59,.d (.sl 1 (List.map e3 r0_6))),(60,.own 2 (List.map e3 [0,1,2]).length)] [(2,.row 3 1 (List.map e3 [0,1,2]))] 3 0) ?_
   obtain ⟨r0_9,hx_20,h⟩:=bsome h
   refine r_callF (rs:=[(2,.row 3 1 (List.map e3 [0,1,2]))]) rfl rfl (k19 r0_6 [0,1,2] _ hx_20) ⟨rfl,trivial⟩ ⟨.refl _,(.own rfl rfl),trivial⟩ rfl rfl rfl ?_
   refine aX 1 (sT [(3,.d (.sl 1 (List.map e3 r0_3))),(5,.d (.sl 1 (List.map e3 r0_2_1))),(7,.d (.bool r0_4_1)),(9,.d (.sl 1 (List.map e3 r0_2_2))),(62,.d (.bool r0_9))] [(2,.row 3 1 (List.map e3 [0,1,2]))] 3 0) ?_
   obtain rfl:=Option.some.inj h
   refine RunC.finJ (Can.kp (by kernel_rfl))
  ·have h:=ifF hb_21 hx_19
   refine aX 4 (sT [(3,.d (.sl 1 (List.map e3 r0_3))),(5,.d (.sl 1 (List.map e3 r0_2_1))),(7,.d (.bool r0_4_1)),(9,.d (.sl 1 (List.map e3 r0_2_2))),(62,.d (.bool false))] [] 2 0) ?_
   obtain rfl:=Option.some.inj h
   refine RunC.finJ (Can.kp (by kernel_rfl))
 ·refine Au 1 (sT [(3,.d (.sl 1 (List.map e3 r0_3))),(5,.d (.sl 1 (List.map e3 r0_2_1))),(7,.d (.bool r0_4_1)),(9,.d (.sl 1 (List.map e3 r0_2_2))),(63,.d (.bool v))] [] 2 0) ?_
  obtain ⟨v1,hx_22,h⟩:=bsome h
  refine RW.cut fokW 4 ((sT [(5,.d (.sl 1 (List.map e3 r0_2_1))),(7,.d (.bool r0_4_1)),(9,.d (.sl 1 (List.map e3 r0_2_2))),(67,.d (.bool v1))] [] 2 0)) ?_ ?_
  ·refine r_split 63 rfl (fun hb_24=>?_) (fun hb_24=>?_)
   ·have h:=ifT hb_24 hx_22
    refine aX 2 (sT [(5,.d (.sl 1 (List.map e3 r0_2_1))),(7,.d (.bool r0_4_1)),(9,.d (.sl 1 (List.map e3 r0_2_2))),(63,.d (.bool true)),(64,.d (.sl 1 (List.map e3 r0_3))),(65,.own 2 (List.map e3 [0,2]).length)] [(2,.row 3 1 (List.map e3 [0,2]))] 3 0) ?_
    obtain ⟨r0_10,hx_23,h⟩:=bsome h
    refine r_callF (rs:=[(2,.row 3 1 (List.map e3 [0,2]))]) rfl rfl (k19 r0_3 [0,2] _ hx_23) ⟨rfl,trivial⟩ ⟨.refl _,(.own rfl rfl),trivial⟩ rfl rfl rfl ?_
    refine aX 1 (sT [(5,.d (.sl 1 (List.map e3 r0_2_1))),(7,.d (.bool r0_4_1)),(9,.d (.sl 1 (List.map e3 r0_2_2))),(67,.d (.bool r0_10))] [(2,.row 3 1 (List.map e3 [0,2]))] 3 0) ?_
    obtain rfl:=Option.some.inj h
    refine RunC.finJ (Can.kp (by kernel_rfl))
   ·have h:=ifF hb_24 hx_22
    refine aX 4 (sT [(5,.d (.sl 1 (List.map e3 r0_2_1))),(7,.d (.bool r0_4_1)),(9,.d (.sl 1 (List.map e3 r0_2_2))),(67,.d (.bool false))] [] 2 0) ?_
    obtain rfl:=Option.some.inj h
    refine RunC.finJ (Can.kp (by kernel_rfl))
  ·refine Au 1 (sT [(5,.d (.sl 1 (List.map e3 r0_2_1))),(7,.d (.bool r0_4_1)),(9,.d (.sl 1 (List.map e3 r0_2_2))),(68,.d (.bool v1))] [] 2 0) ?_
   obtain ⟨v2,hx_25,h⟩:=bsome h
   refine RW.cut fokW 4 ((sT [(7,.d (.bool r0_4_1)),(9,.d (.sl 1 (List.map e3 r0_2_2))),(72,.d (.bool v2))] [] 2 0)) ?_ ?_
   ·refine r_split 68 rfl (fun hb_27=>?_) (fun hb_27=>?_)
    ·have h:=ifT hb_27 hx_25
     refine aX 2 (sT [(7,.d (.bool r0_4_1)),(9,.d (.sl 1 (List.map e3 r0_2_2))),(68,.d (.bool true)),(69,.d (.sl 1 (List.map e3 r0_2_1))),(70,.own 2 (List.map e3 [1]).length)] [(2,.row 3 1 (List.map e3 [1]))] 3 0) ?_
     obtain ⟨r0_11,hx_26,h⟩:=bsome h
     refine r_callF (rs:=[(2,.row 3 1 (List.map e3 [1]))]) rfl rfl (k19 r0_2_1 [1] _ hx_26) ⟨rfl,trivial⟩ ⟨.refl _,(.own rfl rfl),trivial⟩ rfl rfl rfl ?_
     refine aX 1 (sT [(7,.d (.bool r0_4_1)),(9,.d (.sl 1 (List.map e3 r0_2_2))),(72,.d (.bool r0_11))] [(2,.row 3 1 (List.map e3 [1]))] 3 0) ?_
     obtain rfl:=Option.some.inj h
     refine RunC.finJ (Can.kp (by kernel_rfl))
    ·have h:=ifF hb_27 hx_25
     refine aX 4 (sT [(7,.d (.bool r0_4_1)),(9,.d (.sl 1 (List.map e3 r0_2_2))),(72,.d (.bool false))] [] 2 0) ?_
     obtain rfl:=Option.some.inj h
     refine RunC.finJ (Can.kp (by kernel_rfl))
   ·refine RW.au fokW 4 [73] (sT [(9,.d (.sl 1 (List.map e3 r0_2_2))),(76,.d (.bool (v2&&r0_4_1)))] [] 2 0) (by kernel_rfl) ?_
    obtain ⟨v3,hx_28,h⟩:=bsome h
    refine RW.cut fokW 4 ((sT [(80,.d (.bool v3))] [] 2 0)) ?_ ?_
    ·refine r_split 76 rfl (fun hb_30=>?_) (fun hb_30=>?_)
     ·have h:=ifT hb_30 hx_28
      refine aX 2 (sT [(76,.d (.bool true)),(77,.d (.sl 1 (List.map e3 r0_2_2))),(78,.own 2 (List.map e3 [0,1]).length)] [(2,.row 3 1 (List.map e3 [0,1]))] 3 0) ?_
      obtain ⟨r0_12,hx_29,h⟩:=bsome h
      refine r_callF (rs:=[(2,.row 3 1 (List.map e3 [0,1]))]) rfl rfl (k19 r0_2_2 [0,1] _ hx_29) ⟨rfl,trivial⟩ ⟨.refl _,(.own rfl rfl),trivial⟩ rfl rfl rfl ?_
      refine aX 1 (sT [(80,.d (.bool r0_12))] [(2,.row 3 1 (List.map e3 [0,1]))] 3 0) ?_
      obtain rfl:=Option.some.inj h
      refine RunC.finJ (Can.kp (by kernel_rfl))
     ·have h:=ifF hb_30 hx_28
      refine aX 4 (sT [(80,.d (.bool false))] [] 2 0) ?_
      obtain rfl:=Option.some.inj h
      refine RunC.finJ (Can.kp (by kernel_rfl))
    ·refine Au 1 (sT [(0,.d (.bool v3))] [] 2 0) ?_
     refine RW.nil (hQ_18 _ ?_)
     obtain rfl:=Option.some.inj h
     exact rT hR_0 (.cons (.tmp rfl) .nil)
def g6 (n:Int) (many:Int):Option Int:=bif (decide (many<1)) then (some 0) else ((must (decide (many≠0))).bind fun _=>bif (decide ((n.tmod many)<0)) then (some (wr ((n.tmod many)+many))) else (some (n.tmod many)))
theorem k6 (n:Int) (many:Int) (r:Int) (h:g6 n many=some r):SCall Tryd.prog Gs 6 [jI n,jI many] [] 0 Fr.emp (jI r) [] 0 Fr.emp:=by
 unfold g6 at h
 refine SCall.mkK Tryd.func6 c6 rfl rfl (by kernel_rfl) (fun Q_0 hR_0 hN_0=>?_)
 refine Sa (sT [(0,jI n),(1,jI many)] [] 0 0) ?_
 refine AW.seqK (fun K_1 hK_1=>?_)
 refine Sa (sT [(0,jI n),(1,jI many),(7,.d (.bool (decide (many<1))))] [] 0 0) ?_
 refine AW.cond rfl (fun hb_2=>?_) (fun hb_2=>?_)
 ·have h:=ifT hb_2 h
  refine Sa (sT [(4,jI 0)] [] 0 0) ?_
  obtain rfl:=Option.some.inj h
  exact rT hR_0 (.cons (.tmp rfl) .nil)
 ·have h:=ifF hb_2 h
  refine AW.skip (hK_1 _ ?_)
  refine AW.srwK (fun Q_3 hQ_3=>?_)
  refine Au 2 (sT [(1,jI many),(8,jI n),(9,jI many)] [] 0 0) ?_
  obtain ⟨_,hv_4,h⟩:=bsome h
  refine RW.one fokW (r_rem trivial rfl rfl (of_decide_eq_true (must_ok hv_4)) (r_end ?_))
  refine Au 1 (sT [(1,jI many),(5,jI (n.tmod many))] [] 0 0) ?_
  refine RW.nil (hQ_3 _ ?_)
  refine AW.seqK (fun K_5 hK_5=>?_)
  refine Sa (sT [(1,jI many),(5,jI (n.tmod many)),(12,.d (.bool (decide ((n.tmod many)<0))))] [] 0 0) ?_
  refine AW.cond rfl (fun hb_6=>?_) (fun hb_6=>?_)
  ·have h:=ifT hb_6 h
   refine Ra (sT [(5,jI (wr ((n.tmod many)+many)))] [] 0 0) ?_
   refine hK_5 _ ?_
   refine Sa (sT [(4,jI (wr ((n.tmod many)+many)))] [] 0 0) ?_
   obtain rfl:=Option.some.inj h
   exact rT hR_0 (.cons (.tmp rfl) .nil)
  ·have h:=ifF hb_6 h
   refine AW.skip (hK_5 _ ?_)
   refine Sa (sT [(4,jI (n.tmod many))] [] 0 0) ?_
   obtain rfl:=Option.some.inj h
   exact rT hR_0 (.cons (.tmp rfl) .nil)
def g9_2 (row:(List Int)) (turn:Int):Int→Int→(List Int)→Option (List Int):=fun p p1 l=>(g6 (wr (p+turn)) (row.length:Int)).bind fun r0_2=>(ixL row r0_2).bind fun p2=>(appL 8 l [p2]).bind fun l1=>some l1
def g9 (row:(List Int)) (turn:Int):Option (List Int):=(eachS (g9_2 row turn) row 0 ([]:List Int)).bind fun l=>some l
theorem k9 (row:(List Int)) (turn:Int) (r:(List Int)) (h:g9 row turn=some r):SCall Tryd.prog Gs 9 [.d (.sl 1 (List.map e3 row)),jI turn] [] 0 Fr.emp (.d (.sl 1 (List.map e3 r))) [] 0 Fr.emp:=by
 unfold g9 at h
 refine SCall.mkK Tryd.func9 c9 rfl rfl (by kernel_rfl) (fun Q_0 hR_0 hN_0=>?_)
 refine Sa (sT [(0,.d (.sl 1 (List.map e3 row))),(1,jI turn)] [] 0 0) ?_
 refine Sa (sT [(0,.d (.sl 1 (List.map e3 row))),(1,jI turn),(5,.own 0 (List.map e3 []).length)] [(0,.row 3 1 (List.map e3 []))] 1 0) ?_
 refine AW.seqK (fun K_1 hK_1=>?_)
 refine Sa (sT [(0,.d (.sl 1 (List.map e3 row))),(1,jI turn),(5,.own 0 (List.map e3 []).length),(6,jI 0)] [(0,.row 3 1 (List.map e3 []))] 1 0) ?_
 refine AW.block ?_
 refine AW.sln (t:=0) rfl (fun hN_2=>?_)
 rw [List.length_map] at hN_2
 obtain ⟨out_2,hx_2,h⟩:=bsome h
 refine AW.evSK (fun (p:Int) (l:List Int)=>(sT [(0,.d (.sl 1 (List.map e3 row))),(1,jI turn),(5,.own 0 (List.map e3 l).length),(6,jI p)] [(0,.row 3 1 (List.map e3 l))] 1 0)) (g9_2 row turn) hx_2 (Can.kp (by kernel_rfl)) (fun p p1 l hi_2 hl_2 hp_2 c_2 h K_2 hK_2=>?_) (fun p l hi_2 hl_2 hout=>?_)
 ·unfold g9_2 at h
  refine AW.seqK fun K_3 hK_3=>AW.srwK fun Q_4 hQ_4=>?_
  refine Au 2 (sT [(0,.d (.sl 1 (List.map e3 row))),(1,jI turn),(5,.own 0 (List.map e3 l).length),(6,jI p),(8,jI p),(9,.d (.sl 1 (List.map e3 row)))] [(0,.row 3 1 (List.map e3 l))] 1 0) ?_
  refine rL rfl ?_
  refine Au 1 (sT [(0,.d (.sl 1 (List.map e3 row))),(1,jI turn),(5,.own 0 (List.map e3 l).length),(6,jI p),(11,.d (.bool (decide (p<(row.length:Int)))))] [(0,.row 3 1 (List.map e3 l))] 1 0) ?_
  refine RW.nil (hQ_4 _ ?_)
  refine AW.cond rfl (fun hb_5=>?_) (fun hb_5=>False.elim (by have:=of_decide_eq_false hb_5;omega))
  refine AW.skip (hK_3 _ ?_)
  refine AW.seqK (fun K_6 hK_6=>?_)
  refine AW.block ?_
  refine AW.rw ?_
  refine Au 6 (sT [(0,.d (.sl 1 (List.map e3 row))),(1,jI turn),(6,jI p),(14,.own 0 (List.map e3 l).length),(15,.d (.sl 1 (List.map e3 row))),(18,jI (wr (p+turn))),(19,.d (.sl 1 (List.map e3 row)))] [(0,.row 3 1 (List.map e3 l))] 1 0) ?_
  refine rL rfl ?_
  obtain ⟨r0_2,hx_8,h⟩:=bsome h
  refine rC (k6 (wr (p+turn)) (row.length:Int) _ hx_8) ?_
  obtain ⟨p2,hv_9,h⟩:=bsome h
  refine RW.one fokW (r_iaD trivial rfl rfl (ixL_ok hv_9).1 (row:=e3 p2) (mapget (ixL_ok hv_9).2) (r_end ?_))
  refine Au 2 (sT [(0,.d (.sl 1 (List.map e3 row))),(1,jI turn),(6,jI p),(14,.own 0 (List.map e3 l).length),(24,.own 1 (List.map e3 [p2]).length)] [(1,.row 3 1 (List.map e3 [p2])),(0,.row 3 1 (List.map e3 l))] 2 0) ?_
  obtain ⟨l1,hv_10,h⟩:=bsome h
  refine RW.one fokW (r_apO trivial rfl rfl rfl rfl rfl rfl (apz hv_10 e3) (apr hv_10 e3) (r_end ?_))
  refine Au 1 (sT [(0,.d (.sl 1 (List.map e3 row))),(1,jI turn),(5,.own 0 (List.map e3 l1).length),(6,jI p)] [(0,.row 3 1 (List.map e3 l1))] 2 0) ?_
  refine RW.nil ?_
  refine hK_6 _ ?_
  refine Ra (sT [(0,.d (.sl 1 (List.map e3 row))),(1,jI turn),(5,.own 0 (List.map e3 l1).length),(6,jI (wr (p+1)))] [(0,.row 3 1 (List.map e3 l1))] 2 0) ?_
  obtain rfl:=Option.some.inj h
  have ew:wr (p+1)=p+1:=inext (N:=(row.length:Int)) (by omega) (by omega) (by omega)
  rw [ew]
  exact hK_2 _ (Can.kp (by kernel_rfl))
 ·subst hout
  refine AW.seqK fun K_11 hK_11=>AW.srwK fun Q_12 hQ_12=>?_
  refine Au 2 (sT [(0,.d (.sl 1 (List.map e3 row))),(1,jI turn),(5,.own 0 (List.map e3 l).length),(6,jI p),(8,jI p),(9,.d (.sl 1 (List.map e3 row)))] [(0,.row 3 1 (List.map e3 l))] 1 0) ?_
  refine rL rfl ?_
  refine Au 1 (sT [(0,.d (.sl 1 (List.map e3 row))),(1,jI turn),(5,.own 0 (List.map e3 l).length),(6,jI p),(11,.d (.bool (decide (p<(row.length:Int)))))] [(0,.row 3 1 (List.map e3 l))] 1 0) ?_
  refine RW.nil (hQ_12 _ ?_)
  refine AW.cond rfl (fun hb_13=>False.elim (by have:=of_decide_eq_true hb_13;omega)) (fun hb_13=>?_)
  refine AW.exit ?_
  refine hK_1 _ ?_
  refine Sa (sT [(4,.own 0 (List.map e3 l).length)] [(0,.row 3 1 (List.map e3 l))] 1 0) ?_
  obtain rfl:=Option.some.inj h
  exact AW.ret (hR_0 _ (retX (.cons (.tmp rfl) .nil) (.own rfl rfl) rfl (by kernel_rfl) (by kernel_rfl)))
def g11_2 (below:Int):Int→Int→Int→Option (Ctl (Int) (Bool)):=fun i p last=>(bif (decide (p≤last)) then (some true) else (some (decide (below≤p)))).bind fun v=>bif v then (some (.brk false)) else (some (.next p))
def g11 (l:(List Int)) (below:Int):Option Bool:=bindC (eachC (g11_2 below) l 0 (-1)) fun last=>some true
theorem k11 (l:(List Int)) (below:Int) (r:Bool) (h:g11 l below=some r):SCall Tryd.prog Gs 11 [.d (.sl 1 (List.map e3 l)),jI below] [] 0 Fr.emp (.d (.bool r)) [] 0 Fr.emp:=by
 unfold g11 at h
 refine SCall.mkK Tryd.func11 c11 rfl rfl (by kernel_rfl) (fun Q_0 hR_0 hN_0=>?_)
 refine Sa (sT [(0,.d (.sl 1 (List.map e3 l))),(1,jI below)] [] 0 0) ?_
 refine Sa (sT [(0,.d (.sl 1 (List.map e3 l))),(1,jI below),(5,jI (-1))] [] 0 0) ?_
 refine AW.seqK (fun K_1 hK_1=>?_)
 refine Sa (sT [(0,.d (.sl 1 (List.map e3 l))),(1,jI below),(5,jI (-1)),(6,jI 0)] [] 0 0) ?_
 refine AW.block ?_
 refine AW.sln (t:=0) rfl (fun hN_2=>?_)
 rw [List.length_map] at hN_2
 obtain ⟨out_2,hx_2,hk_2⟩:=bsomeC h
 refine AW.evCK (fun (i:Int) (last:Int)=>(sT [(0,.d (.sl 1 (List.map e3 l))),(1,jI below),(5,jI last),(6,jI i)] [] 0 0)) (g11_2 below) hx_2 (Can.kp (by kernel_rfl)) (fun i p last hi_2 hl_2 hp_2 c_2 h hb_2 K_2 hK_2=>?_) (fun i last hi_2 hl_2 hout=>?_)
 ·unfold g11_2 at h
  refine AW.seqK fun K_3 hK_3=>AW.srwK fun Q_4 hQ_4=>?_
  refine Au 2 (sT [(0,.d (.sl 1 (List.map e3 l))),(1,jI below),(5,jI last),(6,jI i),(7,jI i),(8,.d (.sl 1 (List.map e3 l)))] [] 0 0) ?_
  refine rL rfl ?_
  refine Au 1 (sT [(0,.d (.sl 1 (List.map e3 l))),(1,jI below),(5,jI last),(6,jI i),(10,.d (.bool (decide (i<(l.length:Int)))))] [] 0 0) ?_
  refine RW.nil (hQ_4 _ ?_)
  refine AW.cond rfl (fun hb_5=>?_) (fun hb_5=>False.elim (by have:=of_decide_eq_false hb_5;omega))
  refine AW.skip (hK_3 _ ?_)
  refine AW.seqK (fun K_6 hK_6=>?_)
  refine AW.block ?_
  refine AW.seqK fun K_7 hK_7=>AW.srwK fun Q_8 hQ_8=>?_
  refine Au 2 (sT [(0,.d (.sl 1 (List.map e3 l))),(1,jI below),(5,jI last),(6,jI i),(13,.d (.sl 1 (List.map e3 l))),(14,jI i)] [] 0 0) ?_
  refine RW.one fokW (r_iaD trivial rfl rfl hi_2 (row:=e3 p) (mapget hp_2) (r_end ?_))
  refine Au 4 (sT [(0,.d (.sl 1 (List.map e3 l))),(1,jI below),(6,jI i),(19,.d (.bool (decide (p≤last))))] [] 0 0) ?_
  obtain ⟨v,hx_9,h⟩:=bsome h
  refine RW.cut fokW 7 ((sT [(0,.d (.sl 1 (List.map e3 l))),(1,jI below),(6,jI i),(26,.d (.bool v))] [] 0 0)) ?_ ?_
  ·refine r_split 19 rfl (fun hb_10=>?_) (fun hb_10=>?_)
   ·have h:=ifT hb_10 hx_9
    refine aX 7 (sT [(0,.d (.sl 1 (List.map e3 l))),(1,jI below),(6,jI i),(26,.d (.bool true))] [] 0 0) ?_
    obtain rfl:=Option.some.inj h
    refine RunC.finJ (Can.kp (by kernel_rfl))
   ·have h:=ifF hb_10 hx_9
    refine aX 2 (sT [(0,.d (.sl 1 (List.map e3 l))),(1,jI below),(6,jI i),(19,.d (.bool false)),(20,.d (.sl 1 (List.map e3 l))),(21,jI i)] [] 0 0) ?_
    refine r_iaD rfl rfl rfl hi_2 (row:=e3 p) (mapget hp_2) ?_
    refine aX 4 (sT [(0,.d (.sl 1 (List.map e3 l))),(1,jI below),(6,jI i),(26,.d (.bool (decide (below≤p))))] [] 0 0) ?_
    obtain rfl:=Option.some.inj h
    refine RunC.finJ (Can.kp (by kernel_rfl))
  ·refine RW.nil (hQ_8 _ ?_)
   refine AW.cond rfl (fun hb_11=>?_) (fun hb_11=>?_)
   ·have h:=ifT hb_11 h
    refine Sa (sT [(4,.d (.bool false))] [] 0 0) ?_
    obtain rfl:=Option.some.inj h
    have e_1:=hb_2 _ rfl
    subst e_1
    obtain rfl:=Aft.bk hk_2
    exact rT hR_0 (.cons (.tmp rfl) .nil)
   ·have h:=ifF hb_11 h
    refine AW.skip (hK_7 _ ?_)
    refine AW.rw ?_
    refine Au 2 (sT [(0,.d (.sl 1 (List.map e3 l))),(1,jI below),(6,jI i),(27,.d (.sl 1 (List.map e3 l))),(28,jI i)] [] 0 0) ?_
    refine RW.one fokW (r_iaD trivial rfl rfl hi_2 (row:=e3 p) (mapget hp_2) (r_end ?_))
    refine Au 2 (sT [(0,.d (.sl 1 (List.map e3 l))),(1,jI below),(5,jI p),(6,jI i)] [] 0 0) ?_
    refine RW.nil ?_
    refine hK_6 _ ?_
    refine Ra (sT [(0,.d (.sl 1 (List.map e3 l))),(1,jI below),(5,jI p),(6,jI (wr (i+1)))] [] 0 0) ?_
    obtain rfl:=Option.some.inj h
    have ew:wr (i+1)=i+1:=inext (N:=(l.length:Int)) (by omega) (by omega) (by omega)
    rw [ew]
    exact hK_2 _ _ rfl (Can.kp (by kernel_rfl))
 ·subst hout
  have h:=Aft.nx hk_2
  refine AW.seqK fun K_13 hK_13=>AW.srwK fun Q_14 hQ_14=>?_
  refine Au 2 (sT [(0,.d (.sl 1 (List.map e3 l))),(1,jI below),(5,jI last),(6,jI i),(7,jI i),(8,.d (.sl 1 (List.map e3 l)))] [] 0 0) ?_
  refine rL rfl ?_
  refine Au 1 (sT [(0,.d (.sl 1 (List.map e3 l))),(1,jI below),(5,jI last),(6,jI i),(10,.d (.bool (decide (i<(l.length:Int)))))] [] 0 0) ?_
  refine RW.nil (hQ_14 _ ?_)
  refine AW.cond rfl (fun hb_15=>False.elim (by have:=of_decide_eq_true hb_15;omega)) (fun hb_15=>?_)
  refine AW.exit ?_
  refine hK_1 _ ?_
  refine Sa (sT [(4,.d (.bool true))] [] 0 0) ?_
  obtain rfl:=Option.some.inj h
  exact rT hR_0 (.cons (.tmp rfl) .nil)
def g12_2 (n:Int):Int→Int→Unit→Option (Ctl (Unit) (Int)):=fun i p _=>bif (decide (p=n)) then (some (.brk i)) else (some (.next ()))
def g12 (l:(List Int)) (n:Int):Option Int:=bindC (eachC (g12_2 n) l 0 ()) fun _=>some (-1)
theorem k12 (l:(List Int)) (n:Int) (r:Int) (h:g12 l n=some r):SCall Tryd.prog Gs 12 [.d (.sl 1 (List.map e3 l)),jI n] [] 0 Fr.emp (jI r) [] 0 Fr.emp:=by
 unfold g12 at h
 refine SCall.mkK Tryd.func12 c12 rfl rfl (by kernel_rfl) (fun Q_0 hR_0 hN_0=>?_)
 refine Sa (sT [(0,.d (.sl 1 (List.map e3 l))),(1,jI n)] [] 0 0) ?_
 refine AW.seqK (fun K_1 hK_1=>?_)
 refine Sa (sT [(0,.d (.sl 1 (List.map e3 l))),(1,jI n),(5,jI 0)] [] 0 0) ?_
 refine AW.block ?_
 refine AW.sln (t:=0) rfl (fun hN_2=>?_)
 rw [List.length_map] at hN_2
 obtain ⟨out_2,hx_2,hk_2⟩:=bsomeC h
 refine AW.evCK (fun (i:Int) (_:Unit)=>(sT [(0,.d (.sl 1 (List.map e3 l))),(1,jI n),(5,jI i)] [] 0 0)) (g12_2 n) hx_2 (Can.kp (by kernel_rfl)) (fun i p s_2 hi_2 hl_2 hp_2 c_2 h hb_2 K_2 hK_2=>?_) (fun i s_2 hi_2 hl_2 hout=>?_)
 ·unfold g12_2 at h
  refine AW.seqK fun K_3 hK_3=>AW.srwK fun Q_4 hQ_4=>?_
  refine Au 2 (sT [(0,.d (.sl 1 (List.map e3 l))),(1,jI n),(5,jI i),(6,jI i),(7,.d (.sl 1 (List.map e3 l)))] [] 0 0) ?_
  refine rL rfl ?_
  refine Au 1 (sT [(0,.d (.sl 1 (List.map e3 l))),(1,jI n),(5,jI i),(9,.d (.bool (decide (i<(l.length:Int)))))] [] 0 0) ?_
  refine RW.nil (hQ_4 _ ?_)
  refine AW.cond rfl (fun hb_5=>?_) (fun hb_5=>False.elim (by have:=of_decide_eq_false hb_5;omega))
  refine AW.skip (hK_3 _ ?_)
  refine AW.seqK (fun K_6 hK_6=>?_)
  refine AW.block ?_
  refine AW.srwK (fun Q_7 hQ_7=>?_)
  refine Au 2 (sT [(0,.d (.sl 1 (List.map e3 l))),(1,jI n),(5,jI i),(12,.d (.sl 1 (List.map e3 l))),(13,jI i)] [] 0 0) ?_
  refine RW.one fokW (r_iaD trivial rfl rfl hi_2 (row:=e3 p) (mapget hp_2) (r_end ?_))
  refine Au 3 (sT [(0,.d (.sl 1 (List.map e3 l))),(1,jI n),(5,jI i),(17,.d (.bool (decide (p=n))))] [] 0 0) ?_
  refine RW.nil (hQ_7 _ ?_)
  refine AW.cond rfl (fun hb_8=>?_) (fun hb_8=>?_)
  ·have h:=ifT hb_8 h
   refine Sa (sT [(4,jI i)] [] 0 0) ?_
   obtain rfl:=Option.some.inj h
   have e_1:=hb_2 _ rfl
   subst e_1
   obtain rfl:=Aft.bk hk_2
   exact rT hR_0 (.cons (.tmp rfl) .nil)
  ·have h:=ifF hb_8 h
   refine AW.skip (hK_6 _ ?_)
   refine Ra (sT [(0,.d (.sl 1 (List.map e3 l))),(1,jI n),(5,jI (wr (i+1)))] [] 0 0) ?_
   obtain rfl:=Option.some.inj h
   have ew:wr (i+1)=i+1:=inext (N:=(l.length:Int)) (by omega) (by omega) (by omega)
   rw [ew]
   exact hK_2 _ _ rfl (Can.kp (by kernel_rfl))
 ·subst hout
  have h:=Aft.nx hk_2
  refine AW.seqK fun K_9 hK_9=>AW.srwK fun Q_10 hQ_10=>?_
  refine Au 2 (sT [(0,.d (.sl 1 (List.map e3 l))),(1,jI n),(5,jI i),(6,jI i),(7,.d (.sl 1 (List.map e3 l)))] [] 0 0) ?_
  refine rL rfl ?_
  refine Au 1 (sT [(0,.d (.sl 1 (List.map e3 l))),(1,jI n),(5,jI i),(9,.d (.bool (decide (i<(l.length:Int)))))] [] 0 0) ?_
  refine RW.nil (hQ_10 _ ?_)
  refine AW.cond rfl (fun hb_11=>False.elim (by have:=of_decide_eq_true hb_11;omega)) (fun hb_11=>?_)
  refine AW.exit ?_
  refine hK_1 _ ?_
  refine Sa (sT [(4,jI (-1))] [] 0 0) ?_
  obtain rfl:=Option.some.inj h
  exact rT hR_0 (.cons (.tmp rfl) .nil)
def g3 (b:DappleBook) (n:(Nat→Int)):Option Bool:=(g4 b).bind fun r0_3=>(bif (!r0_3) then (some true) else (some (decide ((b.Horses.length:Int)<2)))).bind fun v=>bif v then ((g5).bind fun r0_13=>some r0_13) else ((g6 (n 0) (b.Horses.length:Int)).bind fun r0_2=>(g6 (n 1) (wr ((b.Horses.length:Int) - 1))).bind fun r0_2_1=>(g6 (wr ((wr (r0_2+1))+r0_2_1)) (b.Horses.length:Int)).bind fun r0_2_2=>(g6 (n 2) b.Round).bind fun r0_2_3=>(g7 b r0_2 r0_2_2).bind fun (r0_2_4,r1_4)=>(g8 b).bind fun (r0_2_5,r1_1)=>(ixL b.Horses r0_2).bind fun p=>(g9 p r0_2_3).bind fun r0=>(ixL b.Horses r0_2_2).bind fun p1=>(g10 (MakerBook.mk [r0,p1] [] 0 0) 0 1).bind fun (r0_4,r1_3)=>(bif (((decide (r1_4≠0))||(decide (r1_1≠0)))||(decide (r1_3≠0))) then (some true) else ((g11 r0_2_5 (b.Horses.length:Int)).bind fun r0_1=>some (!r0_1))).bind fun v1=>bif v1 then (some false) else ((g12 r0_2_5 r0_2).bind fun r0_1_1=>(bif (decide (r0_1_1<0)) then ((g12 r0_2_5 r0_2_2).bind fun r0_1_2=>some (decide (r0_1_2<0))) else (some false)).bind fun v2=>(g12 r0_2_4 r0_2_3).bind fun r0_1_3=>(bif ((false != (r0_4==(decide (r0_1_3<0))))&&((!v2)||r0_4)) then ((g5).bind fun r0_13_1=>some r0_13_1) else (some false)).bind fun v3=>some v3))
def y38 (n:(Nat→Int)) (b:DappleBook):List (Nat×Blk):=[(1,.var 25 [jI (n 0),jI (n 1),jI (n 2)]),(0,.var 24 [jI b.Round,.d (.sl 1 (List.map e29 b.Horses))])]
theorem k3 (b:DappleBook) (n:(Nat→Int)) (r:Bool) (h:g3 b n=some r):SCall Tryd.prog Gs 3 [.agg [jI b.Round,.d (.sl 1 (List.map e29 b.Horses))],.agg [jI (n 0),jI (n 1),jI (n 2)]] [] 0 Fr.emp (.d (.bool r)) [] 0 Fr.emp:=by
 unfold g3 at h
 refine SCall.mkK Tryd.func3 c3 rfl rfl (by kernel_rfl) (fun Q_0 hR_0 hN_0=>?_)
 refine Sa (sT [pR 2 0,pR 3 1] (y38 n b) 2 0) ?_
 refine AW.seqK fun K_1 hK_1=>AW.srwK fun Q_2 hQ_2=>?_
 refine Au 1 (sT [pR 2 0,pR 3 1,(16,.agg [jI b.Round,.d (.sl 1 (List.map e29 b.Horses))])] (y38 n b) 2 0) ?_
 obtain ⟨r0_3,hx_3,h⟩:=bsome h
 refine rC (k4 b _ hx_3) ?_
 refine Au 2 (sT [pR 2 0,pR 3 1,(19,.d (.bool (!r0_3)))] (y38 n b) 2 0) ?_
 obtain ⟨v,hx_4,h⟩:=bsome h
 refine RW.cut fokW 5 ((sT [pR 2 0,pR 3 1,(24,.d (.bool v))] (y38 n b) 2 0)) ?_ ?_
 ·refine r_split 19 rfl (fun hb_5=>?_) (fun hb_5=>?_)
  ·have h:=ifT hb_5 hx_4
   refine aX 5 (sT [pR 2 0,pR 3 1,(24,.d (.bool true))] (y38 n b) 2 0) ?_
   obtain rfl:=Option.some.inj h
   refine RunC.finJ (Can.kp (by kernel_rfl))
  ·have h:=ifF hb_5 hx_4
   refine aX 2 (sT [pR 2 0,pR 3 1,(19,.d (.bool false)),(21,.d (.sl 1 (List.map e29 b.Horses)))] (y38 n b) 2 0) ?_
   refine r_lenX rfl rfl lenm ?_
   refine aX 2 (sT [pR 2 0,pR 3 1,(24,.d (.bool (decide ((b.Horses.length:Int)<2))))] (y38 n b) 2 0) ?_
   obtain rfl:=Option.some.inj h
   refine RunC.finJ (Can.kp (by kernel_rfl))
 ·refine RW.nil (hQ_2 _ ?_)
  refine AW.cond rfl (fun hb_6=>?_) (fun hb_6=>?_)
  ·have h:=ifT hb_6 h
   refine AW.srwK (fun Q_7 hQ_7=>?_)
   obtain ⟨r0_13,hx_8,h⟩:=bsome h
   refine rC (k5 _ hx_8) ?_
   refine Au 1 (sT [(4,.d (.bool r0_13))] [] 2 0) ?_
   refine RW.nil (hQ_7 _ ?_)
   obtain rfl:=Option.some.inj h
   exact rT hR_0 (.cons (.tmp rfl) .nil)
  ·have h:=ifF hb_6 h
   refine AW.skip (hK_1 _ ?_)
   refine AW.srwK (fun Q_9 hQ_9=>?_)
   refine Au 4 (sT [pR 2 0,pR 3 1,(27,jI (n 0)),(29,.d (.sl 1 (List.map e29 b.Horses)))] (y38 n b) 2 0) ?_
   refine rL rfl ?_
   obtain ⟨r0_2,hx_10,h⟩:=bsome h
   refine rC (k6 (n 0) (b.Horses.length:Int) _ hx_10) ?_
   refine Au 1 (sT [pR 2 0,pR 3 1,(5,jI r0_2)] (y38 n b) 2 0) ?_
   refine RW.nil (hQ_9 _ ?_)
   refine AW.sdrwK fokW (fun Q_11 hQ_11=>?_)
   refine aX 6 (sT [pR 2 0,pR 3 1,(5,jI r0_2),(33,jI (wr (r0_2+1))),(35,jI (n 1)),(37,.d (.sl 1 (List.map e29 b.Horses)))] (y38 n b) 2 0) ?_
   refine r_lenX trivial rfl lenm ?_
   refine aX 1 (sT [pR 2 0,pR 3 1,(5,jI r0_2),(33,jI (wr (r0_2+1))),(35,jI (n 1)),(39,jI (wr ((b.Horses.length:Int) - 1)))] (y38 n b) 2 0) ?_
   obtain ⟨r0_2_1,hx_12,h⟩:=bsome h
   refine r_call trivial rfl (k6 (n 1) (wr ((b.Horses.length:Int) - 1)) _ hx_12) rfl rfl ?_
   refine aX 3 (sT [pR 2 0,pR 3 1,(5,jI r0_2),(41,jI (wr ((wr (r0_2+1))+r0_2_1))),(43,.d (.sl 1 (List.map e29 b.Horses)))] (y38 n b) 2 0) ?_
   refine r_lenX trivial rfl lenm ?_
   obtain ⟨r0_2_2,hx_13,h⟩:=bsome h
   refine r_call trivial rfl (k6 (wr ((wr (r0_2+1))+r0_2_1)) (b.Horses.length:Int) _ hx_13) rfl rfl ?_
   refine aX 1 (sT [pR 2 0,pR 3 1,(5,jI r0_2),(6,jI r0_2_2)] (y38 n b) 2 0) ?_
   refine Fi (sT [pR 2 0,pR 3 1,(5,jI r0_2),(6,jI r0_2_2)] (y38 n b) 2 0) ?_
   refine hQ_11 _ ?_
   refine AW.srwK (fun Q_14 hQ_14=>?_)
   refine Au 4 (sT [pR 2 0,(5,jI r0_2),(6,jI r0_2_2),(47,jI (n 2)),(49,jI b.Round)] [(0,.var 24 [jI b.Round,.d (.sl 1 (List.map e29 b.Horses))])] 2 0) ?_
   obtain ⟨r0_2_3,hx_15,h⟩:=bsome h
   refine rC (k6 (n 2) b.Round _ hx_15) ?_
   refine Au 1 (sT [pR 2 0,(5,jI r0_2),(6,jI r0_2_2),(7,jI r0_2_3)] [(0,.var 24 [jI b.Round,.d (.sl 1 (List.map e29 b.Horses))])] 2 0) ?_
   refine RW.nil (hQ_14 _ ?_)
   refine AW.srwK (fun Q_16 hQ_16=>?_)
   refine Au 3 (sT [pR 2 0,(5,jI r0_2),(6,jI r0_2_2),(7,jI r0_2_3),(52,.agg [jI b.Round,.d (.sl 1 (List.map e29 b.Horses))]),(53,jI r0_2),(54,jI r0_2_2)] [(0,.var 24 [jI b.Round,.d (.sl 1 (List.map e29 b.Horses))])] 2 0) ?_
   obtain ⟨⟨r0_2_4,r1_4⟩,hx_17,h⟩:=bsome h
   refine rC (k7 b r0_2 r0_2_2 _ hx_17) ?_
   refine Au 5 (sT [pR 2 0,(5,jI r0_2),(6,jI r0_2_2),(7,jI r0_2_3),(8,.d (.sl 1 (List.map e3 r0_2_4))),(9,jI r1_4)] [(0,.var 24 [jI b.Round,.d (.sl 1 (List.map e29 b.Horses))])] 2 0) ?_
   refine RW.nil (hQ_16 _ ?_)
   refine AW.srwK (fun Q_18 hQ_18=>?_)
   refine Au 1 (sT [pR 2 0,(5,jI r0_2),(6,jI r0_2_2),(7,jI r0_2_3),(8,.d (.sl 1 (List.map e3 r0_2_4))),(9,jI r1_4),(59,.agg [jI b.Round,.d (.sl 1 (List.map e29 b.Horses))])] [(0,.var 24 [jI b.Round,.d (.sl 1 (List.map e29 b.Horses))])] 2 0) ?_
   obtain ⟨⟨r0_2_5,r1_1⟩,hx_19,h⟩:=bsome h
   refine rC (k8 b _ hx_19) ?_
   refine Au 5 (sT [pR 2 0,(5,jI r0_2),(6,jI r0_2_2),(7,jI r0_2_3),(8,.d (.sl 1 (List.map e3 r0_2_4))),(9,jI r1_4),(10,.d (.sl 1 (List.map e3 r0_2_5))),(11,jI r1_1)] [(0,.var 24 [jI b.Round,.d (.sl 1 (List.map e29 b.Horses))])] 2 0) ?_
   refine RW.nil (hQ_18 _ ?_)
   refine AW.sdrwK fokW (fun Q_20 hQ_20=>?_)
   refine aX 3 (sT [pR 2 0,(5,jI r0_2),(6,jI r0_2_2),(7,jI r0_2_3),(8,.d (.sl 1 (List.map e3 r0_2_4))),(9,jI r1_4),(10,.d (.sl 1 (List.map e3 r0_2_5))),(11,jI r1_1),(64,.d (.sl 1 (List.map e29 b.Horses))),(65,jI r0_2)] [(0,.var 24 [jI b.Round,.d (.sl 1 (List.map e29 b.Horses))])] 2 0) ?_
   obtain ⟨p,hv_21,h⟩:=bsome h
   refine r_iaD trivial rfl rfl (ixL_ok hv_21).1 (row:=e29 p) (mapget (ixL_ok hv_21).2) ?_
   refine aX 2 (sT [pR 2 0,(5,jI r0_2),(6,jI r0_2_2),(7,jI r0_2_3),(8,.d (.sl 1 (List.map e3 r0_2_4))),(9,jI r1_4),(10,.d (.sl 1 (List.map e3 r0_2_5))),(11,jI r1_1),(67,.d (.sl 1 (List.map e3 p))),(68,jI r0_2_3)] [(0,.var 24 [jI b.Round,.d (.sl 1 (List.map e29 b.Horses))])] 2 0) ?_
   obtain ⟨r0,hx_22,h⟩:=bsome h
   refine r_call trivial rfl (k9 p r0_2_3 _ hx_22) rfl rfl ?_
   refine aX 3 (sT [pR 2 0,(5,jI r0_2),(6,jI r0_2_2),(7,jI r0_2_3),(8,.d (.sl 1 (List.map e3 r0_2_4))),(9,jI r1_4),(10,.d (.sl 1 (List.map e3 r0_2_5))),(11,jI r1_1),(69,.d (.sl 1 (List.map e3 r0))),(71,.d (.sl 1 (List.map e29 b.Horses))),(72,jI r0_2_2)] [(0,.var 24 [jI b.Round,.d (.sl 1 (List.map e29 b.Horses))])] 2 0) ?_
   obtain ⟨p1,hv_23,h⟩:=bsome h
   refine r_iaD trivial rfl rfl (ixL_ok hv_23).1 (row:=e29 p1) (mapget (ixL_ok hv_23).2) ?_
   refine aX 5 (sT [pR 2 0,(5,jI r0_2),(6,jI r0_2_2),(7,jI r0_2_3),(8,.d (.sl 1 (List.map e3 r0_2_4))),(9,jI r1_4),(10,.d (.sl 1 (List.map e3 r0_2_5))),(11,jI r1_1),pR 12 3] [(3,.var 37 [.own 2 (List.map e29 [r0,p1]).length,.d (.nilSl),jI 0,jI 0]),(2,.row 29 1 (List.map e29 [r0,p1])),(0,.var 24 [jI b.Round,.d (.sl 1 (List.map e29 b.Horses))])] 4 0) ?_
   refine Fi (sT [pR 2 0,(5,jI r0_2),(6,jI r0_2_2),(7,jI r0_2_3),(8,.d (.sl 1 (List.map e3 r0_2_4))),(9,jI r1_4),(10,.d (.sl 1 (List.map e3 r0_2_5))),(11,jI r1_1),pR 12 3] [(3,.var 37 [.own 2 (List.map e29 [r0,p1]).length,.d (.nilSl),jI 0,jI 0]),(2,.row 29 1 (List.map e29 [r0,p1])),(0,.var 24 [jI b.Round,.d (.sl 1 (List.map e29 b.Horses))])] 4 0) ?_
   refine hQ_20 _ ?_
   refine AW.srwK (fun Q_24 hQ_24=>?_)
   refine Au 1 (sT [pR 2 0,(5,jI r0_2),(6,jI r0_2_2),(7,jI r0_2_3),(8,.d (.sl 1 (List.map e3 r0_2_4))),(9,jI r1_4),(10,.d (.sl 1 (List.map e3 r0_2_5))),(11,jI r1_1),(78,.agg [.own 2 (List.map e29 [r0,p1]).length,.d (.nilSl),jI 0,jI 0])] [(2,.row 29 1 (List.map e29 [r0,p1])),(0,.var 24 [jI b.Round,.d (.sl 1 (List.map e29 b.Horses))])] 4 0) ?_
   obtain ⟨⟨r0_4,r1_3⟩,hx_25,h⟩:=bsome h
   refine RW.one fokW (r_callF (rs:=[(2,.row 29 1 (List.map e29 [r0,p1]))]) trivial rfl (k10 (MakerBook.mk [r0,p1] [] 0 0) 0 1 _ hx_25) ⟨rfl,trivial⟩ ⟨(Frz.agg_of ⟨(.own rfl rfl),(.nil 2),.refl _,.refl _,trivial⟩),.refl _,.refl _,trivial⟩ rfl rfl rfl (r_end ?_))
   refine Au 5 (sT [pR 2 0,(5,jI r0_2),(6,jI r0_2_2),(7,jI r0_2_3),(8,.d (.sl 1 (List.map e3 r0_2_4))),(9,jI r1_4),(10,.d (.sl 1 (List.map e3 r0_2_5))),(11,jI r1_1),(13,.d (.bool r0_4)),(14,jI r1_3)] [(0,.var 24 [jI b.Round,.d (.sl 1 (List.map e29 b.Horses))])] 4 0) ?_
   refine RW.nil (hQ_24 _ ?_)
   refine AW.seqK fun K_26 hK_26=>AW.srwK fun Q_27 hQ_27=>?_
   refine RW.au fokW 11 [84,88] (sT [pR 2 0,(5,jI r0_2),(6,jI r0_2_2),(7,jI r0_2_3),(8,.d (.sl 1 (List.map e3 r0_2_4))),(10,.d (.sl 1 (List.map e3 r0_2_5))),(13,.d (.bool r0_4)),(92,.d (.bool (((decide (r1_4≠0))||(decide (r1_1≠0)))||(decide (r1_3≠0)))))] [(0,.var 24 [jI b.Round,.d (.sl 1 (List.map e29 b.Horses))])] 4 0) (by kernel_rfl) ?_
   obtain ⟨v1,hx_28,h⟩:=bsome h
   refine RW.cut fokW 7 ((sT [(5,jI r0_2),(6,jI r0_2_2),(7,jI r0_2_3),(8,.d (.sl 1 (List.map e3 r0_2_4))),(10,.d (.sl 1 (List.map e3 r0_2_5))),(13,.d (.bool r0_4)),(99,.d (.bool v1))] [] 4 0)) ?_ ?_
   ·refine r_split 92 rfl (fun hb_30=>?_) (fun hb_30=>?_)
    ·have h:=ifT hb_30 hx_28
     refine aX 7 (sT [(5,jI r0_2),(6,jI r0_2_2),(7,jI r0_2_3),(8,.d (.sl 1 (List.map e3 r0_2_4))),(10,.d (.sl 1 (List.map e3 r0_2_5))),(13,.d (.bool r0_4)),(99,.d (.bool true))] [(0,.var 24 [jI b.Round,.d (.sl 1 (List.map e29 b.Horses))])] 4 0) ?_
     obtain rfl:=Option.some.inj h
     refine RunC.finJ (Can.kp (by kernel_rfl))
    ·have h:=ifF hb_30 hx_28
     refine aX 3 (sT [(5,jI r0_2),(6,jI r0_2_2),(7,jI r0_2_3),(8,.d (.sl 1 (List.map e3 r0_2_4))),(10,.d (.sl 1 (List.map e3 r0_2_5))),(13,.d (.bool r0_4)),(92,.d (.bool false)),(93,.d (.sl 1 (List.map e3 r0_2_5))),(95,.d (.sl 1 (List.map e29 b.Horses)))] [(0,.var 24 [jI b.Round,.d (.sl 1 (List.map e29 b.Horses))])] 4 0) ?_
     refine r_lenX rfl rfl lenm ?_
     obtain ⟨r0_1,hx_29,h⟩:=bsome h
     refine r_call rfl rfl (k11 r0_2_5 (b.Horses.length:Int) _ hx_29) rfl rfl ?_
     refine aX 2 (sT [(5,jI r0_2),(6,jI r0_2_2),(7,jI r0_2_3),(8,.d (.sl 1 (List.map e3 r0_2_4))),(10,.d (.sl 1 (List.map e3 r0_2_5))),(13,.d (.bool r0_4)),(99,.d (.bool (!r0_1)))] [(0,.var 24 [jI b.Round,.d (.sl 1 (List.map e29 b.Horses))])] 4 0) ?_
     obtain rfl:=Option.some.inj h
     refine RunC.finJ (Can.kp (by kernel_rfl))
   ·refine RW.nil (hQ_27 _ ?_)
    refine AW.cond rfl (fun hb_31=>?_) (fun hb_31=>?_)
    ·have h:=ifT hb_31 h
     refine Sa (sT [(4,.d (.bool false))] [] 4 0) ?_
     obtain rfl:=Option.some.inj h
     exact rT hR_0 (.cons (.tmp rfl) .nil)
    ·have h:=ifF hb_31 h
     refine AW.skip (hK_26 _ ?_)
     refine AW.srwK (fun Q_32 hQ_32=>?_)
     refine Au 2 (sT [(6,jI r0_2_2),(7,jI r0_2_3),(8,.d (.sl 1 (List.map e3 r0_2_4))),(10,.d (.sl 1 (List.map e3 r0_2_5))),(13,.d (.bool r0_4)),(100,.d (.sl 1 (List.map e3 r0_2_5))),(101,jI r0_2)] [] 4 0) ?_
     obtain ⟨r0_1_1,hx_33,h⟩:=bsome h
     refine rC (k12 r0_2_5 r0_2 _ hx_33) ?_
     refine Au 2 (sT [(6,jI r0_2_2),(7,jI r0_2_3),(8,.d (.sl 1 (List.map e3 r0_2_4))),(10,.d (.sl 1 (List.map e3 r0_2_5))),(13,.d (.bool r0_4)),(104,.d (.bool (decide (r0_1_1<0))))] [] 4 0) ?_
     obtain ⟨v2,hx_34,h⟩:=bsome h
     refine RW.cut fokW 5 ((sT [(7,jI r0_2_3),(8,.d (.sl 1 (List.map e3 r0_2_4))),(13,.d (.bool r0_4)),(109,.d (.bool v2))] [] 4 0)) ?_ ?_
     ·refine r_split 104 rfl (fun hb_36=>?_) (fun hb_36=>?_)
      ·have h:=ifT hb_36 hx_34
       refine aX 2 (sT [(7,jI r0_2_3),(8,.d (.sl 1 (List.map e3 r0_2_4))),(13,.d (.bool r0_4)),(104,.d (.bool true)),(105,.d (.sl 1 (List.map e3 r0_2_5))),(106,jI r0_2_2)] [] 4 0) ?_
       obtain ⟨r0_1_2,hx_35,h⟩:=bsome h
       refine r_call rfl rfl (k12 r0_2_5 r0_2_2 _ hx_35) rfl rfl ?_
       refine aX 2 (sT [(7,jI r0_2_3),(8,.d (.sl 1 (List.map e3 r0_2_4))),(13,.d (.bool r0_4)),(109,.d (.bool (decide (r0_1_2<0))))] [] 4 0) ?_
       obtain rfl:=Option.some.inj h
       refine RunC.finJ (Can.kp (by kernel_rfl))
      ·have h:=ifF hb_36 hx_34
       refine aX 5 (sT [(7,jI r0_2_3),(8,.d (.sl 1 (List.map e3 r0_2_4))),(13,.d (.bool r0_4)),(109,.d (.bool false))] [] 4 0) ?_
       obtain rfl:=Option.some.inj h
       refine RunC.finJ (Can.kp (by kernel_rfl))
     ·refine Au 1 (sT [(7,jI r0_2_3),(8,.d (.sl 1 (List.map e3 r0_2_4))),(13,.d (.bool r0_4)),(15,.d (.bool v2))] [] 4 0) ?_
      refine RW.nil (hQ_32 _ ?_)
      refine AW.srwK (fun Q_37 hQ_37=>?_)
      refine Au 3 (sT [(13,.d (.bool r0_4)),(15,.d (.bool v2)),(110,.d (.bool r0_4)),(111,.d (.sl 1 (List.map e3 r0_2_4))),(112,jI r0_2_3)] [] 4 0) ?_
      obtain ⟨r0_1_3,hx_38,h⟩:=bsome h
      refine rC (k12 r0_2_4 r0_2_3 _ hx_38) ?_
      refine RW.au fokW 10 [119,116] (sT [(123,.d (.bool ((false != (r0_4==(decide (r0_1_3<0))))&&((!v2)||r0_4))))] [] 4 0) (by kernel_rfl) ?_
      obtain ⟨v3,hx_39,h⟩:=bsome h
      refine RW.cut fokW 2 ((sT [(125,.d (.bool v3))] [] 4 0)) ?_ ?_
      ·refine r_split 123 rfl (fun hb_41=>?_) (fun hb_41=>?_)
       ·have h:=ifT hb_41 hx_39
        obtain ⟨r0_13_1,hx_40,h⟩:=bsome h
        refine r_call rfl rfl (k5 _ hx_40) rfl rfl ?_
        refine aX 1 (sT [(125,.d (.bool r0_13_1))] [] 4 0) ?_
        obtain rfl:=Option.some.inj h
        refine RunC.finJ (Can.kp (by kernel_rfl))
       ·have h:=ifF hb_41 hx_39
        refine aX 2 (sT [(125,.d (.bool false))] [] 4 0) ?_
        obtain rfl:=Option.some.inj h
        refine RunC.finJ (Can.kp (by kernel_rfl))
      ·refine Au 1 (sT [(4,.d (.bool v3))] [] 4 0) ?_
       refine RW.nil (hQ_37 _ ?_)
       obtain rfl:=Option.some.inj h
       exact rT hR_0 (.cons (.tmp rfl) .nil)
end Go.Proofs.Ta
