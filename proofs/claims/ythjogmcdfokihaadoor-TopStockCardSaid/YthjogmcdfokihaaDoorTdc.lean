/- Told functions, and that the program does so, part 3. Conditions: none. -/
import Derived.Test.YthjogmcdfokihaaDoorTdb
set_option linter.unusedVariables false
set_option linter.unusedSimpArgs false
namespace Go.Proofs.Tp
open Go Go.Abs Go.Proofs
def g22_4 (l:(List Int)) (m:(List Int)):(Bool×Int)→Option (Ctl (Bool×Int) (Bool)):=fun  (is2,i)=>(bif is2 then (some (decide (i<(l.length:Int)))) else (some false)).bind fun v=>bif v then ((ixL l i).bind fun p=>(ixL m i).bind fun p1=>some (.next ((decide (p=p1)),(wr (i+1))))) else (some (.brk is2))
def g22 (l:(List Int)) (m:(List Int)):Option Bool:=((whileC (g22_4 l m) 1000 ((decide ((l.length:Int)=(m.length:Int))),0)).bind fun is1=>some is1).bind fun is=>some is
theorem k22 (l:(List Int)) (m:(List Int)) (r:Bool) (h:g22 l m=some r):SCall Tryd.prog Gs 22 [.d (q1 l),.d (q1 m)] [] 0 Fr.emp (.d (.bool r)) [] 0 Fr.emp:=by
 unfold g22 at h
 refine SCall.mkK Tryd.func22 c22 rfl rfl (by kernel_rfl) (fun Q_0 hR_0 hN_0=>?_)
 refine Sa (sT [(0,.d (q1 l)),(1,.d (q1 m))] [] 0 0) ?_
 refine AW.srwK (fun Q_1 hQ_1=>?_)
 refine Au 1 (sT [(0,.d (q1 l)),(1,.d (q1 m)),(7,.d (q1 l))] [] 0 0) ?_
 refine rL rfl ?_
 refine Au 1 (sT [(0,.d (q1 l)),(1,.d (q1 m)),(8,jI (l.length:Int)),(9,.d (q1 m))] [] 0 0) ?_
 refine rL rfl ?_
 refine Au 2 (sT [(0,.d (q1 l)),(1,.d (q1 m)),(5,.d (.bool (decide ((l.length:Int)=(m.length:Int)))))] [] 0 0) ?_
 refine RW.nil (hQ_1 _ ?_)
 obtain ⟨is,hx_2,h⟩:=bsome h
 refine AW.jnSK (fun (is:Bool)=>(sT [(5,.d (.bool is))] [] 0 0)) (c:=is) (fun K_2 hK_2=>?_) ?_
 ·have h:=hx_2
  refine Sa (sT [(0,.d (q1 l)),(1,.d (q1 m)),(5,.d (.bool (decide ((l.length:Int)=(m.length:Int))))),(6,jI 0)] [] 0 0) ?_
  obtain ⟨is1,hx_3,h⟩:=bsome h
  refine AW.jqSK (fun (is1:Bool)=>(sT [(5,.d (.bool is1))] [] 0 0)) (c:=is1) (fun K_3 hK_3=>?_) ?_
  ·have h:=hx_3
   refine AW.block ?_
   refine AW.whK (fun (⟨is2,i⟩:Bool×Int)=>(sT [(0,.d (q1 l)),(1,.d (q1 m)),(5,.d (.bool is2)),(6,jI i)] [] 0 0)) (g22_4 l m) h (Can.kp (by kernel_rfl)) (fun s_4 c_4 h hb_4 K_4 hK_4=>?_)
   obtain ⟨is2,i⟩:=s_4
   unfold g22_4 at h
   refine AW.seqK fun K_5 hK_5=>AW.srwK fun Q_6 hQ_6=>?_
   refine Au 2 (sT [(0,.d (q1 l)),(1,.d (q1 m)),(5,.d (.bool is2)),(6,jI i),(13,.d (.bool is2))] [] 0 0) ?_
   obtain ⟨v,hx_7,h⟩:=bsome h
   refine RW.cut fokW 5 ((sT [(0,.d (q1 l)),(1,.d (q1 m)),(5,.d (.bool is2)),(6,jI i),(18,.d (.bool v))] [] 0 0)) ?_ ?_
   ·refine r_split 13 rfl (fun hb_8=>?_) (fun hb_8=>?_)
    ·have h:=ifT hb_8 hx_7
     refine aX 2 (sT [(0,.d (q1 l)),(1,.d (q1 m)),(5,.d (.bool is2)),(6,jI i),(13,.d (.bool true)),(14,jI i),(15,.d (q1 l))] [] 0 0) ?_
     refine r_lenX rfl rfl lenm ?_
     refine aX 2 (sT [(0,.d (q1 l)),(1,.d (q1 m)),(5,.d (.bool is2)),(6,jI i),(18,.d (.bool (decide (i<(l.length:Int)))))] [] 0 0) ?_
     obtain rfl:=Option.some.inj h
     refine RunC.finJ (Can.kp (by kernel_rfl))
    ·have h:=ifF hb_8 hx_7
     refine aX 5 (sT [(0,.d (q1 l)),(1,.d (q1 m)),(5,.d (.bool is2)),(6,jI i),(18,.d (.bool false))] [] 0 0) ?_
     obtain rfl:=Option.some.inj h
     refine RunC.finJ (Can.kp (by kernel_rfl))
   ·refine RW.nil (hQ_6 _ ?_)
    refine AW.cond rfl (fun hb_9=>?_) (fun hb_9=>?_)
    ·have h:=ifT hb_9 h
     refine AW.skip (hK_5 _ ?_)
     refine AW.seqK (fun K_10 hK_10=>?_)
     refine AW.block ?_
     refine AW.drw fokW ?_
     refine aX 2 (sT [(0,.d (q1 l)),(1,.d (q1 m)),(6,jI i),(21,.d (q1 l)),(22,jI i)] [] 0 0) ?_
     obtain ⟨p,hv_12,h⟩:=bsome h
     refine r_iaD trivial rfl rfl (ixL_ok hv_12).1 (row:=e3 p) (mapget (ixL_ok hv_12).2) ?_
     refine aX 3 (sT [(0,.d (q1 l)),(1,.d (q1 m)),(6,jI i),(24,jI p),(25,.d (q1 m)),(26,jI i)] [] 0 0) ?_
     obtain ⟨p1,hv_13,h⟩:=bsome h
     refine r_iaD trivial rfl rfl (ixL_ok hv_13).1 (row:=e3 p1) (mapget (ixL_ok hv_13).2) ?_
     refine aX 3 (sT [(0,.d (q1 l)),(1,.d (q1 m)),(5,.d (.bool (decide (p=p1)))),(6,jI i)] [] 0 0) ?_
     refine Fi (sT [(0,.d (q1 l)),(1,.d (q1 m)),(5,.d (.bool (decide (p=p1)))),(6,jI i)] [] 0 0) ?_
     refine hK_10 _ ?_
     refine Ra (sT [(0,.d (q1 l)),(1,.d (q1 m)),(5,.d (.bool (decide (p=p1)))),(6,jI (wr (i+1)))] [] 0 0) ?_
     obtain rfl:=Option.some.inj h
     exact hK_4 _ _ rfl (Can.kp (by kernel_rfl))
    ·have h:=ifF hb_9 h
     refine AW.exit ?_
     obtain rfl:=Option.some.inj h
     obtain rfl:=hb_4 _ rfl
     exact hK_3 _ (Can.kp (by kernel_rfl))
  ·obtain rfl:=Option.some.inj h
   exact hK_2 _ (Can.kp (by kernel_rfl))
 ·refine Sa (sT [(4,.d (.bool is))] [] 0 0) ?_
  obtain rfl:=Option.some.inj h
  exact rT hR_0 (.cons (.tmp rfl) .nil)
def g6 :Option Bool:=(g20).bind fun r0=>(g10 r0).bind fun (r0_2,r1_3)=>(g20).bind fun r0_1=>(g9 r0_1).bind fun r0_1_1=>(g11 r0_1_1).bind fun (r0_3,r1_3_1)=>(g20).bind fun r0_4=>(g9 r0_4).bind fun r0_1_2=>(g13 r0_1_2 [0,1]).bind fun (r0_2_1,r1_4)=>(g20).bind fun r0_5=>(g9 r0_5).bind fun r0_1_3=>(g16 r0_1_3).bind fun (r0_1_4,r1_1)=>(g20).bind fun r0_6=>(g21 r0_6 1 [0,1]).bind fun (r0_5_1,r1_4_1)=>(bif (decide (r1_3=0)) then (bif (decide (r1_3_1=0)) then (bif (decide (r1_4=0)) then (bif (decide (r1_1=0)) then (bif (decide (r1_4_1=0)) then ((g22 r0_2 [1]).bind fun r0_7=>bif r0_7 then ((g22 r0_3 [1,1]).bind fun r0_8=>bif r0_8 then ((g14 5).bind fun r0_9=>bif (false != ((r0_2_1.Low==r0_9.Low)&&((r0_2_1.High==r0_9.High)&&true))) then (bif r0_1_4 then ((g22 r0_5_1 [0,4]).bind fun r0_10=>some r0_10) else (some false)) else (some false)) else (some false)) else (some false)) else (some false)) else (some false)) else (some false)) else (some false)) else (some false)).bind fun v=>some v
theorem k6  (r:Bool) (h:g6=some r):SCall Tryd.prog Gs 6 [] [] 0 Fr.emp (.d (.bool r)) [] 0 Fr.emp:=by
 unfold g6 at h
 refine SCall.mkK Tryd.func6 c6 rfl rfl (by kernel_rfl) (fun Q_0 hR_0 hN_0=>?_)
 refine Sa (sT [] [] 0 0) ?_
 refine AW.srwK (fun Q_1 hQ_1=>?_)
 obtain ⟨r0,hx_2,h⟩:=bsome h
 refine rC (k20 _ hx_2) ?_
 obtain ⟨⟨r0_2,r1_3⟩,hx_3,h⟩:=bsome h
 refine rC (k10 r0 _ hx_3) ?_
 refine Au 5 (sT [(1,.d (q1 r0_2)),(2,jI r1_3)] [] 0 0) ?_
 refine RW.nil (hQ_1 _ ?_)
 refine AW.srwK (fun Q_4 hQ_4=>?_)
 obtain ⟨r0_1,hx_5,h⟩:=bsome h
 refine rC (k20 _ hx_5) ?_
 obtain ⟨r0_1_1,hx_6,h⟩:=bsome h
 refine rC (k9 r0_1 _ hx_6) ?_
 obtain ⟨⟨r0_3,r1_3_1⟩,hx_7,h⟩:=bsome h
 refine rC (k11 r0_1_1 _ hx_7) ?_
 refine Au 5 (sT [(1,.d (q1 r0_2)),(2,jI r1_3),(3,.d (q1 r0_3)),(4,jI r1_3_1)] [] 0 0) ?_
 refine RW.nil (hQ_4 _ ?_)
 refine AW.srwK (fun Q_8 hQ_8=>?_)
 obtain ⟨r0_4,hx_9,h⟩:=bsome h
 refine rC (k20 _ hx_9) ?_
 obtain ⟨r0_1_2,hx_10,h⟩:=bsome h
 refine rC (k9 r0_4 _ hx_10) ?_
 refine Au 1 (sT [(1,.d (q1 r0_2)),(2,jI r1_3),(3,.d (q1 r0_3)),(4,jI r1_3_1),(24,.agg (cv39 r0_1_2)),(25,.own 0 (List.map e3 [0,1]).length)] [(0,.row 3 1 (List.map e3 [0,1]))] 1 0) ?_
 obtain ⟨⟨r0_2_1,r1_4⟩,hx_11,h⟩:=bsome h
 refine RW.one fokW (r_callF (rs:=[(0,.row 3 1 (List.map e3 [0,1]))]) trivial rfl (k13 r0_1_2 [0,1] _ hx_11) ⟨rfl,trivial⟩ ⟨.refl _,(.own rfl rfl),trivial⟩ rfl rfl rfl (r_end ?_))
 refine Au 6 (sT [(1,.d (q1 r0_2)),(2,jI r1_3),(3,.d (q1 r0_3)),(4,jI r1_3_1),pR 5 1,(6,jI r1_4)] [(1,.var 47 [jI r0_2_1.Low,jI r0_2_1.High])] 2 0) ?_
 refine RW.nil (hQ_8 _ ?_)
 refine AW.srwK (fun Q_12 hQ_12=>?_)
 obtain ⟨r0_5,hx_13,h⟩:=bsome h
 refine rC (k20 _ hx_13) ?_
 obtain ⟨r0_1_3,hx_14,h⟩:=bsome h
 refine rC (k9 r0_5 _ hx_14) ?_
 obtain ⟨⟨r0_1_4,r1_1⟩,hx_15,h⟩:=bsome h
 refine rC (k16 r0_1_3 _ hx_15) ?_
 refine Au 5 (sT [(1,.d (q1 r0_2)),(2,jI r1_3),(3,.d (q1 r0_3)),(4,jI r1_3_1),pR 5 1,(6,jI r1_4),(7,.d (.bool r0_1_4)),(8,jI r1_1)] [(1,.var 47 [jI r0_2_1.Low,jI r0_2_1.High])] 2 0) ?_
 refine RW.nil (hQ_12 _ ?_)
 refine AW.srwK (fun Q_16 hQ_16=>?_)
 obtain ⟨r0_6,hx_17,h⟩:=bsome h
 refine rC (k20 _ hx_17) ?_
 refine Au 1 (sT [(1,.d (q1 r0_2)),(2,jI r1_3),(3,.d (q1 r0_3)),(4,jI r1_3_1),pR 5 1,(6,jI r1_4),(7,.d (.bool r0_1_4)),(8,jI r1_1),(36,.agg (pbv r0_6)),(37,.own 2 (List.map e3 [0,1]).length)] [(2,.row 3 1 (List.map e3 [0,1])),(1,.var 47 [jI r0_2_1.Low,jI r0_2_1.High])] 3 0) ?_
 obtain ⟨⟨r0_5_1,r1_4_1⟩,hx_18,h⟩:=bsome h
 refine RW.one fokW (r_callZ (zr:=[(2,.row 3 1 (List.map e3 [0,1]))]) trivial rfl (k21 r0_6 1 [0,1] _ hx_18) ⟨rfl,trivial⟩ ⟨.refl _,.refl _,(.own rfl rfl),trivial⟩ rfl rfl rfl rfl (r_end ?_))
 refine Au 5 (sT [(1,.d (q1 r0_2)),(2,jI r1_3),(3,.d (q1 r0_3)),(4,jI r1_3_1),pR 5 1,(6,jI r1_4),(7,.d (.bool r0_1_4)),(8,jI r1_1),(9,.d (q1 r0_5_1)),(10,jI r1_4_1)] [(1,.var 47 [jI r0_2_1.Low,jI r0_2_1.High])] 3 0) ?_
 refine RW.nil (hQ_16 _ ?_)
 obtain ⟨v,hx_19,h⟩:=bsome h
 refine AW.jnSK (fun (v:Bool)=>(sT [(0,.d (.bool v))] [] 3 0)) (c:=v) (fun K_19 hK_19=>?_) ?_
 ·have h:=hx_19
  refine AW.drw fokW ?_
  refine aX 3 (sT [(1,.d (q1 r0_2)),(3,.d (q1 r0_3)),(4,jI r1_3_1),pR 5 1,(6,jI r1_4),(7,.d (.bool r0_1_4)),(8,jI r1_1),(9,.d (q1 r0_5_1)),(10,jI r1_4_1),(43,.d (.bool (decide (r1_3=0))))] [(1,.var 47 [jI r0_2_1.Low,jI r0_2_1.High])] 3 0) ?_
  refine r_split 43 rfl (fun hb_21=>?_) (fun hb_21=>?_)
  ·have h:=ifT hb_21 h
   refine aX 4 (sT [(1,.d (q1 r0_2)),(3,.d (q1 r0_3)),pR 5 1,(6,jI r1_4),(7,.d (.bool r0_1_4)),(8,jI r1_1),(9,.d (q1 r0_5_1)),(10,jI r1_4_1),(47,.d (.bool (decide (r1_3_1=0))))] [(1,.var 47 [jI r0_2_1.Low,jI r0_2_1.High])] 3 0) ?_
   refine r_split 47 rfl (fun hb_22=>?_) (fun hb_22=>?_)
   ·have h:=ifT hb_22 h
    refine aX 4 (sT [(1,.d (q1 r0_2)),(3,.d (q1 r0_3)),pR 5 1,(7,.d (.bool r0_1_4)),(8,jI r1_1),(9,.d (q1 r0_5_1)),(10,jI r1_4_1),(51,.d (.bool (decide (r1_4=0))))] [(1,.var 47 [jI r0_2_1.Low,jI r0_2_1.High])] 3 0) ?_
    refine r_split 51 rfl (fun hb_23=>?_) (fun hb_23=>?_)
    ·have h:=ifT hb_23 h
     refine aX 4 (sT [(1,.d (q1 r0_2)),(3,.d (q1 r0_3)),pR 5 1,(7,.d (.bool r0_1_4)),(9,.d (q1 r0_5_1)),(10,jI r1_4_1),(55,.d (.bool (decide (r1_1=0))))] [(1,.var 47 [jI r0_2_1.Low,jI r0_2_1.High])] 3 0) ?_
     refine r_split 55 rfl (fun hb_24=>?_) (fun hb_24=>?_)
     ·have h:=ifT hb_24 h
      refine aX 4 (sT [(1,.d (q1 r0_2)),(3,.d (q1 r0_3)),pR 5 1,(7,.d (.bool r0_1_4)),(9,.d (q1 r0_5_1)),(59,.d (.bool (decide (r1_4_1=0))))] [(1,.var 47 [jI r0_2_1.Low,jI r0_2_1.High])] 3 0) ?_
      refine r_split 59 rfl (fun hb_25=>?_) (fun hb_25=>?_)
      ·have h:=ifT hb_25 h
       refine aX 2 (sT [(3,.d (q1 r0_3)),pR 5 1,(7,.d (.bool r0_1_4)),(9,.d (q1 r0_5_1)),(59,.d (.bool true)),(60,.d (q1 r0_2)),(61,.own 3 (List.map e3 [1]).length)] [(3,.row 3 1 (List.map e3 [1])),(1,.var 47 [jI r0_2_1.Low,jI r0_2_1.High])] 4 0) ?_
       obtain ⟨r0_7,hx_26,h⟩:=bsome h
       refine r_callF (rs:=[(3,.row 3 1 (List.map e3 [1]))]) rfl rfl (k22 r0_2 [1] _ hx_26) ⟨rfl,trivial⟩ ⟨.refl _,(.own rfl rfl),trivial⟩ rfl rfl rfl ?_
       refine aX 2 (sT [(3,.d (q1 r0_3)),pR 5 1,(7,.d (.bool r0_1_4)),(9,.d (q1 r0_5_1)),(64,.d (.bool r0_7))] [(3,.row 3 1 (List.map e3 [1])),(1,.var 47 [jI r0_2_1.Low,jI r0_2_1.High])] 4 0) ?_
       refine r_split 64 rfl (fun hb_27=>?_) (fun hb_27=>?_)
       ·have h:=ifT hb_27 h
        refine aX 2 (sT [pR 5 1,(7,.d (.bool r0_1_4)),(9,.d (q1 r0_5_1)),(64,.d (.bool true)),(65,.d (q1 r0_3)),(66,.own 4 (List.map e3 [1,1]).length)] [(4,.row 3 1 (List.map e3 [1,1])),(3,.row 3 1 (List.map e3 [1])),(1,.var 47 [jI r0_2_1.Low,jI r0_2_1.High])] 5 0) ?_
        obtain ⟨r0_8,hx_28,h⟩:=bsome h
        refine r_callF (rs:=[(4,.row 3 1 (List.map e3 [1,1]))]) rfl rfl (k22 r0_3 [1,1] _ hx_28) ⟨rfl,trivial⟩ ⟨.refl _,(.own rfl rfl),trivial⟩ rfl rfl rfl ?_
        refine aX 2 (sT [pR 5 1,(7,.d (.bool r0_1_4)),(9,.d (q1 r0_5_1)),(69,.d (.bool r0_8))] [(4,.row 3 1 (List.map e3 [1,1])),(3,.row 3 1 (List.map e3 [1])),(1,.var 47 [jI r0_2_1.Low,jI r0_2_1.High])] 5 0) ?_
        refine r_split 69 rfl (fun hb_29=>?_) (fun hb_29=>?_)
        ·have h:=ifT hb_29 h
         refine aX 1 (sT [(7,.d (.bool r0_1_4)),(9,.d (q1 r0_5_1)),(69,.d (.bool true)),(70,.agg [jI r0_2_1.Low,jI r0_2_1.High])] [(4,.row 3 1 (List.map e3 [1,1])),(3,.row 3 1 (List.map e3 [1])),(1,.var 47 [jI r0_2_1.Low,jI r0_2_1.High])] 5 0) ?_
         obtain ⟨r0_9,hx_30,h⟩:=bsome h
         refine r_call rfl rfl (k14 5 _ hx_30) rfl rfl ?_
         refine r_aeq rfl rfl rfl rfl rfl ft47 rfl rfl rfl ?_
         refine aX 2 (sT [(7,.d (.bool r0_1_4)),(9,.d (q1 r0_5_1)),(74,.d (.bool (false != ((r0_2_1.Low==r0_9.Low)&&((r0_2_1.High==r0_9.High)&&true)))))] [(4,.row 3 1 (List.map e3 [1,1])),(3,.row 3 1 (List.map e3 [1])),(1,.var 47 [jI r0_2_1.Low,jI r0_2_1.High])] 5 0) ?_
         refine r_split 74 rfl (fun hb_31=>?_) (fun hb_31=>?_)
         ·have h:=ifT hb_31 h
          refine aX 3 (sT [(9,.d (q1 r0_5_1)),(77,.d (.bool r0_1_4))] [(4,.row 3 1 (List.map e3 [1,1])),(3,.row 3 1 (List.map e3 [1])),(1,.var 47 [jI r0_2_1.Low,jI r0_2_1.High])] 5 0) ?_
          refine r_split 77 rfl (fun hb_32=>?_) (fun hb_32=>?_)
          ·have h:=ifT hb_32 h
           refine aX 2 (sT [(77,.d (.bool true)),(78,.d (q1 r0_5_1)),(79,.own 5 (List.map e3 [0,4]).length)] [(5,.row 3 1 (List.map e3 [0,4])),(4,.row 3 1 (List.map e3 [1,1])),(3,.row 3 1 (List.map e3 [1])),(1,.var 47 [jI r0_2_1.Low,jI r0_2_1.High])] 6 0) ?_
           obtain ⟨r0_10,hx_33,h⟩:=bsome h
           refine r_callF (rs:=[(5,.row 3 1 (List.map e3 [0,4]))]) rfl rfl (k22 r0_5_1 [0,4] _ hx_33) ⟨rfl,trivial⟩ ⟨.refl _,(.own rfl rfl),trivial⟩ rfl rfl rfl ?_
           refine aX 2 (sT [(0,.d (.bool r0_10))] [(5,.row 3 1 (List.map e3 [0,4])),(4,.row 3 1 (List.map e3 [1,1])),(3,.row 3 1 (List.map e3 [1])),(1,.var 47 [jI r0_2_1.Low,jI r0_2_1.High])] 6 0) ?_
           refine Fi (sT [(0,.d (.bool r0_10))] [] 6 0) ?_
           obtain rfl:=Option.some.inj h
           exact hK_19 _ (Can.kp (by kernel_rfl))
          ·have h:=ifF hb_32 h
           refine aX 5 (sT [(0,.d (.bool false))] [(4,.row 3 1 (List.map e3 [1,1])),(3,.row 3 1 (List.map e3 [1])),(1,.var 47 [jI r0_2_1.Low,jI r0_2_1.High])] 5 0) ?_
           refine Fi (sT [(0,.d (.bool false))] [] 5 0) ?_
           obtain rfl:=Option.some.inj h
           exact hK_19 _ (Can.kp (by kernel_rfl))
         ·have h:=ifF hb_31 h
          refine aX 8 (sT [(0,.d (.bool false))] [(4,.row 3 1 (List.map e3 [1,1])),(3,.row 3 1 (List.map e3 [1])),(1,.var 47 [jI r0_2_1.Low,jI r0_2_1.High])] 5 0) ?_
          refine Fi (sT [(0,.d (.bool false))] [] 5 0) ?_
          obtain rfl:=Option.some.inj h
          exact hK_19 _ (Can.kp (by kernel_rfl))
        ·have h:=ifF hb_29 h
         refine aX 13 (sT [(0,.d (.bool false))] [(4,.row 3 1 (List.map e3 [1,1])),(3,.row 3 1 (List.map e3 [1])),(1,.var 47 [jI r0_2_1.Low,jI r0_2_1.High])] 5 0) ?_
         refine Fi (sT [(0,.d (.bool false))] [] 5 0) ?_
         obtain rfl:=Option.some.inj h
         exact hK_19 _ (Can.kp (by kernel_rfl))
       ·have h:=ifF hb_27 h
        refine aX 18 (sT [(0,.d (.bool false))] [(3,.row 3 1 (List.map e3 [1])),(1,.var 47 [jI r0_2_1.Low,jI r0_2_1.High])] 4 0) ?_
        refine Fi (sT [(0,.d (.bool false))] [] 4 0) ?_
        obtain rfl:=Option.some.inj h
        exact hK_19 _ (Can.kp (by kernel_rfl))
      ·have h:=ifF hb_25 h
       refine aX 23 (sT [(0,.d (.bool false))] [(1,.var 47 [jI r0_2_1.Low,jI r0_2_1.High])] 3 0) ?_
       refine Fi (sT [(0,.d (.bool false))] [] 3 0) ?_
       obtain rfl:=Option.some.inj h
       exact hK_19 _ (Can.kp (by kernel_rfl))
     ·have h:=ifF hb_24 h
      refine aX 27 (sT [(0,.d (.bool false))] [(1,.var 47 [jI r0_2_1.Low,jI r0_2_1.High])] 3 0) ?_
      refine Fi (sT [(0,.d (.bool false))] [] 3 0) ?_
      obtain rfl:=Option.some.inj h
      exact hK_19 _ (Can.kp (by kernel_rfl))
    ·have h:=ifF hb_23 h
     refine aX 31 (sT [(0,.d (.bool false))] [(1,.var 47 [jI r0_2_1.Low,jI r0_2_1.High])] 3 0) ?_
     refine Fi (sT [(0,.d (.bool false))] [] 3 0) ?_
     obtain rfl:=Option.some.inj h
     exact hK_19 _ (Can.kp (by kernel_rfl))
   ·have h:=ifF hb_22 h
    refine aX 35 (sT [(0,.d (.bool false))] [(1,.var 47 [jI r0_2_1.Low,jI r0_2_1.High])] 3 0) ?_
    refine Fi (sT [(0,.d (.bool false))] [] 3 0) ?_
    obtain rfl:=Option.some.inj h
    exact hK_19 _ (Can.kp (by kernel_rfl))
  ·have h:=ifF hb_21 h
   refine aX 39 (sT [(0,.d (.bool false))] [(1,.var 47 [jI r0_2_1.Low,jI r0_2_1.High])] 3 0) ?_
   refine Fi (sT [(0,.d (.bool false))] [] 3 0) ?_
   obtain rfl:=Option.some.inj h
   exact hK_19 _ (Can.kp (by kernel_rfl))
 ·obtain rfl:=Option.some.inj h
  exact rT hR_0 (.cons (.tmp rfl) .nil)
def g7_13 (b:PlankBook):Int→(List PlankShape)→Option (List PlankShape):=fun i1 l2=>(ixL b.Parts i1).bind fun p1=>(appL 40 l2 ([(PlankShape.mk p1.Long [] false)])).bind fun l3=>some l3
def g7_2:Int→PlankWood→(List PlankWood)→Option (List PlankWood):=fun i p l=>(appL 32 l ([(PlankWood.mk p.Long [])])).bind fun l1=>some l1
def g7 (b:PlankBook):Option ((List PlankWood)×(List PlankShape)):=(eachS g7_2 b.Planks 0 ([]:List PlankWood)).bind fun l=>(forS (g7_13 b) ((((wr ((wr ((b.Parts.length:Int).tdiv 2))*2)):Int) - 0).toNat) 0 ([]:List PlankShape)).bind fun l2=>some (l,l2)
def g3_21:Int→PlankShape→Int→Option Int:=fun i1 p1 all=>some (wr (all+p1.Long))
def g7a_13 (b:PlankBook):Int→(List PlankShape)→Option (List PlankShape):=fun i1 l2=>(ixL b.Parts i1).bind fun p1=>(appL 40 l2 ([(PlankShape.mk p1.Long [] false)])).bind fun l3=>some l3
def g7a_2:Int→PlankWood→(List PlankWood)→Option (List PlankWood):=fun i p l=>(appL 32 l ([(PlankWood.mk p.Long [])])).bind fun l1=>some l1
def g7a (b:PlankBook):Option PlankBook:=(eachS g7a_2 b.Planks 0 ([]:List PlankWood)).bind fun l=>(forS (g7a_13 b) ((((wr ((wr ((b.Parts.length:Int).tdiv 2))*2)):Int) - 0).toNat) 0 ([]:List PlankShape)).bind fun l2=>some (PlankBook.mk l l2)
def y42 (b:PlankBook):List (Nat×Blk):=[(2,.var 25 [.d (.nilSl),.d (.nilSl)]),(1,.var 25 [.d (.nilSl),.d (.nilSl)]),(0,.var 25 (pbv b))]
def y43 (l:List PlankWood) (b:PlankBook):List (Nat×Blk):=[(2,.var 25 [.own 3 (List.map e32 l).length,.d (.nilSl)]),(3,.row 32 2 (List.map e32 l)),(1,.var 25 [.d (.nilSl),.d (.nilSl)]),(0,.var 25 (pbv b))]
def y44 (l1:List PlankWood) (b:PlankBook):List (Nat×Blk):=[(2,.var 25 [.own 3 (List.map e32 l1).length,.d (.nilSl)]),(3,.row 32 2 (List.map e32 l1)),(1,.var 25 [.d (.nilSl),.d (.nilSl)]),(0,.var 25 (pbv b))]
def y45 (l:List PlankWood) (l2:List PlankShape) (b:PlankBook):List (Nat×Blk):=[(2,.var 25 [.own 3 (List.map e32 l).length,.own 4 (List.map e35 l2).length]),(4,.row 35 3 (List.map e35 l2)),(3,.row 32 2 (List.map e32 l)),(1,.var 25 [.d (.nilSl),.d (.nilSl)]),(0,.var 25 (pbv b))]
def y46 (l:List PlankWood) (l3:List PlankShape) (b:PlankBook):List (Nat×Blk):=[(2,.var 25 [.own 3 (List.map e32 l).length,.own 4 (List.map e35 l3).length]),(4,.row 35 3 (List.map e35 l3)),(3,.row 32 2 (List.map e32 l)),(1,.var 25 [.d (.nilSl),.d (.nilSl)]),(0,.var 25 (pbv b))]
theorem k7a (b:PlankBook) (r:PlankBook) (h:g7a b=some r):SCall Tryd.prog Gs 7 [.agg (pbv b)] [] 0 Fr.emp (.agg (pbv r)) [] 0 Fr.emp:=by
 unfold g7a at h
 refine SCall.mkK Tryd.func7 c7 rfl rfl (by kernel_rfl) (fun Q_0 hR_0 hN_0=>?_)
 refine Sa (sT [pR 1 0,pR 2 1] [(1,.var 25 [.d (.nilSl),.d (.nilSl)]),(0,.var 25 (pbv b))] 2 0) ?_
 refine Sa (sT [pR 1 0,pR 2 1,pR 3 2] (y42 b) 3 0) ?_
 refine AW.seqK (fun K_1 hK_1=>?_)
 refine Sa (sT [pR 1 0,pR 2 1,pR 3 2,(4,jI 0)] (y42 b) 3 0) ?_
 refine AW.block ?_
 refine AW.slh (r:=0) (off:=0) rfl rfl (fun hN_2=>?_)
 rw [List.length_map] at hN_2
 obtain ⟨out_2,hx_2,h⟩:=bsome h
 refine AW.evSK (fun (i:Int) (l:List PlankWood)=>(sT [pR 1 0,pR 2 1,pR 3 2,(4,jI i)] (y43 l b) 4 0)) g7a_2 hx_2 (Can.trans (Can.thawH 2 0 25 32 2 rfl rfl rfl) (Can.kp (by kernel_rfl))) (fun i p l hi_2 hl_2 hp_2 c_2 h K_2 hK_2=>?_) (fun i l hi_2 hl_2 hout=>?_)
 ·unfold g7a_2 at h
  refine AW.seqK fun K_3 hK_3=>AW.srwK fun Q_4 hQ_4=>?_
  refine Au 3 (sT [pR 1 0,pR 2 1,pR 3 2,(4,jI i),(7,jI i),(9,.d (.sl 2 (List.map e32 b.Planks)))] (y43 l b) 4 0) ?_
  refine rL rfl ?_
  refine Au 1 (sT [pR 1 0,pR 2 1,pR 3 2,(4,jI i),(11,.d (.bool (decide (i<(b.Planks.length:Int)))))] (y43 l b) 4 0) ?_
  refine RW.nil (hQ_4 _ ?_)
  refine AW.cond rfl (fun hb_5=>?_) (fun hb_5=>False.elim (by have:=of_decide_eq_false hb_5;omega))
  refine AW.skip (hK_3 _ ?_)
  refine AW.seqK (fun K_6 hK_6=>?_)
  refine AW.block ?_
  refine AW.drw fokW ?_
  refine aX 5 (sT [pR 1 0,pR 2 1,pR 3 2,(4,jI i),(15,.own 3 (List.map e32 l).length),(17,.d (.sl 2 (List.map e32 b.Planks))),(18,jI i)] (y43 l b) 4 0) ?_
  refine r_iaD trivial rfl rfl hi_2 (row:=e32 p) (mapget hp_2) ?_
  refine aX 3 (sT [pR 1 0,pR 2 1,pR 3 2,(4,jI i),(15,.own 3 (List.map e32 l).length),(22,.agg [jI p.Long,.d (.nilSl)])] (y43 l b) 4 0) ?_
  refine r_bslW (ds:=[I p.Long,.sl 2 []]) (ys:=List.map e32 [(PlankWood.mk p.Long [])]) (.eq _ (.wk 2 (.nil))) trivial rfl rfl rfl rfl rfl rfl rfl ?_
  obtain ⟨l1,hv_8,h⟩:=bsome h
  refine r_apO trivial rfl rfl rfl rfl rfl rfl (apz hv_8 e32) (apr hv_8 e32) ?_
  refine aX 2 (sT [pR 1 0,pR 2 1,pR 3 2,(4,jI i)] [(2,.var 25 [.own 3 (List.map e32 l1).length,.d (.nilSl)]),(3,.row 32 2 (List.map e32 l1)),(4,.row 32 2 (List.map e32 ([(PlankWood.mk p.Long [])]))),(1,.var 25 [.d (.nilSl),.d (.nilSl)]),(0,.var 25 (pbv b))] 5 0) ?_
  refine Fi (sT [pR 1 0,pR 2 1,pR 3 2,(4,jI i)] (y44 l1 b) 5 0) ?_
  refine hK_6 _ ?_
  refine Ra (sT [pR 1 0,pR 2 1,pR 3 2,(4,jI (wr (i+1)))] (y44 l1 b) 5 0) ?_
  obtain rfl:=Option.some.inj h
  have ew:wr (i+1)=i+1:=inext (N:=(b.Planks.length:Int)) (by omega) (by omega) (by omega)
  rw [ew]
  exact hK_2 _ (Can.kp (by kernel_rfl))
 ·subst hout
  refine AW.seqK fun K_9 hK_9=>AW.srwK fun Q_10 hQ_10=>?_
  refine Au 3 (sT [pR 1 0,pR 2 1,pR 3 2,(4,jI i),(7,jI i),(9,.d (.sl 2 (List.map e32 b.Planks)))] (y43 l b) 4 0) ?_
  refine rL rfl ?_
  refine Au 1 (sT [pR 1 0,pR 2 1,pR 3 2,(4,jI i),(11,.d (.bool (decide (i<(b.Planks.length:Int)))))] (y43 l b) 4 0) ?_
  refine RW.nil (hQ_10 _ ?_)
  refine AW.cond rfl (fun hb_11=>False.elim (by have:=of_decide_eq_true hb_11;omega)) (fun hb_11=>?_)
  refine AW.exit ?_
  refine hK_1 _ ?_
  refine AW.seqK (fun K_12 hK_12=>?_)
  refine Sa (sT [pR 1 0,pR 2 1,pR 3 2,(5,jI 0)] (y43 l b) 4 0) ?_
  refine AW.block ?_
  have hN_13:(wr ((wr ((b.Parts.length:Int).tdiv 2))*2))≤9223372036854775807:=(wr_range _).2
  obtain ⟨out_13,hx_13,h⟩:=bsome h
  refine AW.lpSK (fun (i1:Int) (l2:List PlankShape)=>(sT [pR 1 0,pR 2 1,pR 3 2,(5,jI i1)] (y45 l l2 b) 5 0)) (g7a_13 b) ((wr ((wr ((b.Parts.length:Int).tdiv 2))*2))) hx_13 (Can.trans (Can.thawH 2 1 25 35 3 rfl rfl rfl) (Can.kp (by kernel_rfl))) (fun i1 l2 hi_13 hl_13 c_13 h K_13 hK_13=>?_) (fun i1 l2 hi_13 hl_13 hout=>?_)
  ·unfold g7a_13 at h
   refine AW.seqK fun K_14 hK_14=>AW.srwK fun Q_15 hQ_15=>?_
   refine Au 3 (sT [pR 1 0,pR 2 1,pR 3 2,(5,jI i1),(26,jI i1),(28,.d (.sl 3 (List.map e35 b.Parts)))] (y45 l l2 b) 5 0) ?_
   refine rL rfl ?_
   refine Au 3 (sT [pR 1 0,pR 2 1,pR 3 2,(5,jI i1),(32,.d (.bool (decide (i1<(wr ((wr ((b.Parts.length:Int).tdiv 2))*2))))))] (y45 l l2 b) 5 0) ?_
   refine RW.nil (hQ_15 _ ?_)
   refine AW.cond rfl (fun hb_16=>?_) (fun hb_16=>False.elim (by have:=of_decide_eq_false hb_16;omega))
   refine AW.skip (hK_14 _ ?_)
   refine AW.seqK (fun K_17 hK_17=>?_)
   refine AW.block ?_
   refine AW.drw fokW ?_
   refine aX 5 (sT [pR 1 0,pR 2 1,pR 3 2,(5,jI i1),(36,.own 4 (List.map e35 l2).length),(38,.d (.sl 3 (List.map e35 b.Parts))),(39,jI i1)] (y45 l l2 b) 5 0) ?_
   obtain ⟨p1,hv_19,h⟩:=bsome h
   refine r_iaD trivial rfl rfl (ixL_ok hv_19).1 (row:=e35 p1) (mapget (ixL_ok hv_19).2) ?_
   refine aX 3 (sT [pR 1 0,pR 2 1,pR 3 2,(5,jI i1),(36,.own 4 (List.map e35 l2).length),(43,.agg [jI p1.Long,.d (.nilSl),.d (.bool false)])] (y45 l l2 b) 5 0) ?_
   refine r_bslW (ds:=[I p1.Long,.sl 1 [],.bool false]) (ys:=List.map e35 [(PlankShape.mk p1.Long [] false)]) (.eq _ (.wk 1 (.eq _ (.nil)))) trivial rfl rfl rfl rfl rfl rfl rfl ?_
   obtain ⟨l3,hv_20,h⟩:=bsome h
   refine r_apO trivial rfl rfl rfl rfl rfl rfl (apz hv_20 e35) (apr hv_20 e35) ?_
   refine aX 2 (sT [pR 1 0,pR 2 1,pR 3 2,(5,jI i1)] [(2,.var 25 [.own 3 (List.map e32 l).length,.own 4 (List.map e35 l3).length]),(4,.row 35 3 (List.map e35 l3)),(5,.row 35 3 (List.map e35 ([(PlankShape.mk p1.Long [] false)]))),(3,.row 32 2 (List.map e32 l)),(1,.var 25 [.d (.nilSl),.d (.nilSl)]),(0,.var 25 (pbv b))] 6 0) ?_
   refine Fi (sT [pR 1 0,pR 2 1,pR 3 2,(5,jI i1)] (y46 l l3 b) 6 0) ?_
   refine hK_17 _ ?_
   refine Ra (sT [pR 1 0,pR 2 1,pR 3 2,(5,jI (wr (i1+1)))] (y46 l l3 b) 6 0) ?_
   obtain rfl:=Option.some.inj h
   have ew:wr (i1+1)=i1+1:=inext (N:=(wr ((wr ((b.Parts.length:Int).tdiv 2))*2))) (by omega) (by omega) (by omega)
   rw [ew]
   exact hK_13 _ (Can.kp (by kernel_rfl))
  ·subst hout
   refine AW.seqK fun K_21 hK_21=>AW.srwK fun Q_22 hQ_22=>?_
   refine Au 3 (sT [pR 1 0,pR 2 1,pR 3 2,(5,jI i1),(26,jI i1),(28,.d (.sl 3 (List.map e35 b.Parts)))] (y45 l l2 b) 5 0) ?_
   refine rL rfl ?_
   refine Au 3 (sT [pR 1 0,pR 2 1,pR 3 2,(5,jI i1),(32,.d (.bool (decide (i1<(wr ((wr ((b.Parts.length:Int).tdiv 2))*2))))))] (y45 l l2 b) 5 0) ?_
   refine RW.nil (hQ_22 _ ?_)
   refine AW.cond rfl (fun hb_23=>False.elim (by have:=of_decide_eq_true hb_23;omega)) (fun hb_23=>?_)
   refine AW.exit ?_
   refine hK_12 _ ?_
   refine Sa (sT [pR 2 1] [(1,.var 25 [.own 3 (List.map e32 l).length,.own 4 (List.map e35 l2).length]),(4,.row 35 3 (List.map e35 l2)),(3,.row 32 2 (List.map e32 l))] 5 0) ?_
   obtain rfl:=Option.some.inj h
   exact AW.ret (hR_0 _ (retX (.cons (.agg rfl rfl (Nat.le_of_ble_eq_true rfl)) .nil) (Frz.agg_of ⟨(.own rfl rfl),(.own rfl rfl),trivial⟩) rfl (by kernel_rfl) (by kernel_rfl)))
def g42_r5:((List Int)×(Nat→Int))→(Unit)→Option (Ctl (Unit) (Unit)):=fun (a,a1) _=>some (.brk ())
def g42 (b_B:HairBook) (mf:List (Hair_dye×Span)):Option Bool:=(g39).bind fun _=>(g44 b_B mf b_B mf).bind fun (o0_B,mf1)=>(g63 (fun a a1 s=>rndC g42_r5 (a,a1) s) o0_B mf1 b_B mf (.next ())).bind fun out_5=>match out_5 with | .next _=>some false | .brk _=>some true
theorem k42 (b_B:HairBook) (mf:List (Hair_dye×Span)) (r:Bool) (h:g42 b_B mf=some r):SCall Tryd.prog Gs 42 [.agg (hbm b_B mf)] [] 0 Fr.emp (.d (.bool r)) [] 0 Fr.emp:=by
 unfold g42 at h
 refine SCall.mkK Tryd.func42 c42 rfl rfl (by kernel_rfl) (fun Q_0 hR_0 hN_0=>?_)
 refine Sa (sT [pR 1 0,pR 2 1] [(1,.var 4 [.d (.bool false)]),(0,.var 81 (hbm b_B mf))] 2 0) ?_
 refine AW.seqK (fun K_1 hK_1=>?_)
 refine AW.sdrwK fokW (fun Q_2 hQ_2=>?_)
 refine aX 1 (sT [pR 1 0,pR 2 1,(3,.agg (hbm b_B mf))] [(1,.var 4 [.d (.bool false)]),(0,.var 81 (hbm b_B mf))] 2 0) ?_
 obtain ⟨⟨⟩,hx_3,h⟩:=bsome h
 refine r_call trivial rfl (k39 _ hx_3) rfl rfl ?_
 refine aX 2 (sT [pR 2 1,(3,.agg (hbm b_B mf)),(4,.agg [.d (.fn 60)]),(6,.clo 45 [.agg (hbm b_B mf)] [])] [(1,.var 4 [.d (.bool false)]),(0,.var 81 (hbm b_B mf))] 2 0) ?_
 obtain ⟨⟨o0_B,mf1⟩,hx_4,h⟩:=bsome h
 refine r_callS (zr:=[]) [] trivial rfl (k44 b_B mf b_B mf _ hx_4) trivial rfl rfl ⟨.refl _,.refl _,.refl _,trivial⟩ rfl rfl rfl ?_
 refine Fi (sT [pR 2 1,(7,.clo 63 [] [.ptr 2 0,.ptr 3 0,.ptr 4 0])] [(2,.var 81 (hbm o0_B mf1)),(3,.var 94 [.d (.fn 60)]),(4,.var 57 [.clo 45 [.agg (hbm b_B mf)] []]),(1,.var 4 [.d (.bool false)])] 5 0) ?_
 refine hQ_2 _ ?_
 refine AW.block ?_
 obtain ⟨out_5,hx_5,h⟩:=bsome h
 refine AW.rfX (fun (_:Unit)=>[(5,.dm),(1,.var 4 [.d (.bool false)])]) (fun (_:Unit)=>[(5,.dm),(1,.var 4 [.d (.bool true)])]) (fun _=>some .ret) g42_r5 (fun (⟨a,a1⟩:(List Int)×(Nat→Int))=>[.d (q1 a),.agg (cfv a1)]) (s0:=()) (out:=out_5) [pR 2 1] [(1,.var 4 [.d (.bool false)])] [2,3,4] rfl (.clo _ _ _) (by kernel_rfl) (by kernel_rfl) (fun fr_ hY_5=>k63 fr_ _ (fun a a1 s s2 b h=>hY_5 (a,a1) s s2 b h) o0_B mf1 b_B mf (.next ()) _ hx_5) (by kernel_rfl) ⟨rfl,rfl,rfl,trivial⟩ rfl ⟨rfl,rfl⟩ rfl rfl (fun _=>rfl) (fun _=>rfl) (fun a_5 s_5 c_5 h l_5=>?_) (fun _=>rfl) ?_
 ·obtain ⟨a,a1⟩:=a_5
  unfold g42_r5 at h
  refine AW.skip ?_
  refine AW.block ?_
  refine AW.sa (fokR l_5) [] (sT [pR 2 1] [(1,.var 4 [.d (.bool true)]),(5,.dm)] 6 6) (by kernel_rfl) ?_
  refine AW.ret ?_
  obtain rfl:=Option.some.inj h
  exact ⟨(sT [] [(5,.dm),(1,.var 4 [.d (.bool true)])] 6 6),Can.kp (by kernel_rfl),rdX trivial rfl (by kernel_rfl) (by kernel_rfl)⟩
 ·rcases out_5 with _ | _
  ·refine hK_1 _ ?_
   refine Sa ⟨[pR 2 1],[(1,.var 4 [.d (.bool false)]),(5,.dm)],6,Fr.emp,[5],0⟩ ?_
   obtain rfl:=Option.some.inj h
   exact rT hR_0 (.cons (.one rfl rfl rfl) .nil)
  ·obtain rfl:=Option.some.inj h
   exact hR_0 _ (retX (.cons (.one rfl rfl rfl) .nil) (.refl _) rfl (by kernel_rfl) (by kernel_rfl))
def g15_14 (v1:Int):Int→HairHorse→((List Int)×(List HairHorse))→Option ((List Int)×(List HairHorse)):=fun v2 p (l,l1)=>(must (decide (0≤v2))).bind fun _=>bif (decide ((bAnd (shr64 v1 v2) 1)=1)) then ((appL 8 l [v2]).bind fun l2=>some (l2,l1)) else ((appL 24 l1 [p]).bind fun l3=>some (l,l3))
def g15_8 (x:HairBook):Int→((List Int)×Bool)→Option ((List Int)×Bool):=fun v1 (best1,found1)=>(eachS (g15_14 v1) x.Horses 0 (([],[]):(List Int)×(List HairHorse))).bind fun (l,l1)=>(bif found1 then (bif (decide ((best1.length:Int)<(l.length:Int))) then (some true) else (bif (decide ((l.length:Int)=(best1.length:Int))) then ((g41 l best1).bind fun r0_3=>some (decide (0≤r0_3))) else (some false))) else (some false)).bind fun v3=>bif v3 then (some (best1,found1)) else ((g31 (HairBook.mk x.Hanks l1 x.Dark x.Near x.Match)).bind fun (r0_B,mf)=>(g42 r0_B mf).bind fun r0_1=>bif r0_1 then (some (l,true)) else (some (best1,found1)))
def g15 (x:HairBook):Option ((List Int)×Int):=(g30 x).bind fun r0_9=>bif (decide (r0_9≠0)) then (some ([],r0_9)) else ((must (decide (0≤(x.Horses.length:Int)))).bind fun _=>(must (decide ((shl64 1 (x.Horses.length:Int))≤9223372036854775807))).bind fun _=>(forS (g15_8 x) ((((shl64 1 (x.Horses.length:Int)):Int) - 0).toNat) 0 (([],false):(List Int)×Bool)).bind fun (best1,found1)=>(slcL best1 0 (best1.length:Int)).bind fun l4=>some (l4,0))
def y47 (x:HairBook):List (Nat×Blk):=[(1,.var 39 [.d (.sl 4 (List.map e62 x.Hanks)),.d (.nilSl),jI x.Dark,jI x.Near,jI x.Match]),(0,.var 39 (cv39 x))]
def y48 (x:HairBook) (l1:List HairHorse) (l:List Int):List (Nat×Blk):=[(1,.var 39 [.d (.sl 4 (List.map e62 x.Hanks)),.own 3 (List.map e64 l1).length,jI x.Dark,jI x.Near,jI x.Match]),(3,.row 64 3 (List.map e64 l1)),(2,.row 3 1 (List.map e3 l)),(0,.var 39 (cv39 x))]
def y49 (l2:List Int) (x:HairBook) (l1:List HairHorse):List (Nat×Blk):=[(2,.row 3 1 (List.map e3 l2)),(1,.var 39 [.d (.sl 4 (List.map e62 x.Hanks)),.own 3 (List.map e64 l1).length,jI x.Dark,jI x.Near,jI x.Match]),(3,.row 64 3 (List.map e64 l1)),(0,.var 39 (cv39 x))]
def y50 (x:HairBook) (l3:List HairHorse) (l:List Int):List (Nat×Blk):=[(1,.var 39 [.d (.sl 4 (List.map e62 x.Hanks)),.own 3 (List.map e64 l3).length,jI x.Dark,jI x.Near,jI x.Match]),(3,.row 64 3 (List.map e64 l3)),(2,.row 3 1 (List.map e3 l)),(0,.var 39 (cv39 x))]
theorem k15 (x:HairBook) (r:(List Int)×Int) (h:g15 x=some r):SCall Tryd.prog Gs 15 [.agg (cv39 x)] [] 0 Fr.emp (match r with | (r0_2,r1_1)=>.tup [.d (q1 r0_2),jI r1_1]) [] 0 Fr.emp:=by
 unfold g15 at h
 refine SCall.mkK Tryd.func15 c15 rfl rfl (by kernel_rfl) (fun Q_0 hR_0 hN_0=>?_)
 refine Sa (sT [pR 1 0] [(0,.var 39 (cv39 x))] 1 0) ?_
 refine AW.seqK fun K_1 hK_1=>AW.srwK fun Q_2 hQ_2=>?_
 refine Au 1 (sT [pR 1 0,(12,.agg (cv39 x))] [(0,.var 39 (cv39 x))] 1 0) ?_
 obtain ⟨r0_9,hx_3,h⟩:=bsome h
 refine rC (k30 x _ hx_3) ?_
 refine Au 1 (sT [pR 1 0,(4,jI r0_9)] [(0,.var 39 (cv39 x))] 1 0) ?_
 refine RW.nil (hQ_2 _ ?_)
 refine Sa (sT [pR 1 0,(4,jI r0_9),(15,.d (.bool (decide (r0_9≠0))))] [(0,.var 39 (cv39 x))] 1 0) ?_
 refine AW.cond rfl (fun hb_4=>?_) (fun hb_4=>?_)
 ·have h:=ifT hb_4 h
  refine Sa (sT [(2,.d (.nilSl)),(3,jI r0_9)] [] 1 0) ?_
  obtain rfl:=Option.some.inj h
  exact AW.ret (hR_0 _ (retX (.cons (.tmp rfl) (.cons (.tmp rfl) .nil)) (Frz.tup_of ⟨.nil 1,.refl _,trivial⟩) rfl (by kernel_rfl) (by kernel_rfl)))
 ·have h:=ifF hb_4 h
  refine AW.skip (hK_1 _ ?_)
  refine Sa (sT [pR 1 0,(5,.d (.nilSl))] [(0,.var 39 (cv39 x))] 1 0) ?_
  refine Sa (sT [pR 1 0,(5,.d (.nilSl)),(6,.d (.bool false))] [(0,.var 39 (cv39 x))] 1 0) ?_
  refine AW.seqK fun K_5 hK_5=>AW.srwK fun Q_6 hQ_6=>?_
  refine Au 2 (sT [pR 1 0,(5,.d (.nilSl)),(6,.d (.bool false)),(18,.d (.sl 3 (List.map e64 x.Horses)))] [(0,.var 39 (cv39 x))] 1 0) ?_
  refine rL rfl ?_
  obtain ⟨_,hv_7,h⟩:=bsome h
  refine RW.one fokW (r_sh trivial rfl rfl (shl64_ok (of_decide_eq_true (must_ok hv_7))) (r_end ?_))
  refine Au 1 (sT [pR 1 0,(5,.d (.nilSl)),(6,.d (.bool false)),(20,jI (shl64 1 (x.Horses.length:Int))),(21,jI 0)] [(0,.var 39 (cv39 x))] 1 0) ?_
  refine RW.nil (hQ_6 _ ?_)
  refine AW.block ?_
  obtain ⟨_,hN_8,h⟩:=bsome h
  have hN_8:=of_decide_eq_true (must_ok hN_8)
  obtain ⟨out_8,hx_8,h⟩:=bsome h
  refine AW.lpSK (fun (v1:Int) (⟨best1,found1⟩:(List Int)×Bool)=>(sT [pR 1 0,(5,.d (q1 best1)),(6,.d (.bool found1)),(20,jI (shl64 1 (x.Horses.length:Int))),(21,jI v1)] [(0,.var 39 (cv39 x))] 1 0)) (g15_8 x) ((shl64 1 (x.Horses.length:Int))) hx_8 (Can.trans (Can.wkE 5 1 rfl) (Can.kp (by kernel_rfl))) (fun v1 s_8 hi_8 hl_8 c_8 h K_8 hK_8=>?_) (fun v1 s_8 hi_8 hl_8 hout=>?_)
  ·obtain ⟨best1,found1⟩:=s_8
   unfold g15_8 at h
   refine Sa (sT [pR 1 0,(5,.d (q1 best1)),(6,.d (.bool found1)),(20,jI (shl64 1 (x.Horses.length:Int))),(21,jI v1),(22,.d (.bool (decide (v1<(shl64 1 (x.Horses.length:Int))))))] [(0,.var 39 (cv39 x))] 1 0) ?_
   refine AW.seqK (fun K_9 hK_9=>?_)
   refine AW.cond rfl (fun hb_10=>?_) (fun hb_10=>False.elim (by have:=of_decide_eq_false hb_10;omega))
   refine AW.skip (hK_9 _ ?_)
   refine AW.seqK (fun K_11 hK_11=>?_)
   refine AW.block ?_
   refine Sa (sT [pR 1 0,(5,.d (q1 best1)),(6,.d (.bool found1)),(7,jI v1),(20,jI (shl64 1 (x.Horses.length:Int))),(21,jI v1)] [(0,.var 39 (cv39 x))] 1 0) ?_
   refine Sa (sT [pR 1 0,(5,.d (q1 best1)),(6,.d (.bool found1)),(7,jI v1),pR 8 1,(20,jI (shl64 1 (x.Horses.length:Int))),(21,jI v1)] [(1,.var 39 (cv39 x)),(0,.var 39 (cv39 x))] 2 0) ?_
   refine Sa (sT [pR 1 0,(5,.d (q1 best1)),(6,.d (.bool found1)),(7,jI v1),pR 8 1,(20,jI (shl64 1 (x.Horses.length:Int))),(21,jI v1)] (y47 x) 2 0) ?_
   refine Sa (sT [pR 1 0,(5,.d (q1 best1)),(6,.d (.bool found1)),(7,jI v1),pR 8 1,(9,.d (.nilSl)),(20,jI (shl64 1 (x.Horses.length:Int))),(21,jI v1)] (y47 x) 2 0) ?_
   refine AW.seqK fun K_12 hK_12=>AW.srwK fun Q_13 hQ_13=>?_
   refine Au 2 (sT [pR 1 0,(5,.d (q1 best1)),(6,.d (.bool found1)),(7,jI v1),pR 8 1,(9,.d (.nilSl)),(20,jI (shl64 1 (x.Horses.length:Int))),(21,jI v1),(27,.d (.sl 3 (List.map e64 x.Horses)))] (y47 x) 2 0) ?_
   refine rL rfl ?_
   refine Au 1 (sT [pR 1 0,(5,.d (q1 best1)),(6,.d (.bool found1)),(7,jI v1),pR 8 1,(9,.d (.nilSl)),(20,jI (shl64 1 (x.Horses.length:Int))),(21,jI v1),(27,.d (.sl 3 (List.map e64 x.Horses))),(28,jI (x.Horses.length:Int)),(29,jI 0)] (y47 x) 2 0) ?_
   refine RW.nil (hQ_13 _ ?_)
   refine AW.block ?_
   refine AW.sln (t:=27) rfl (fun hN_14=>?_)
   rw [List.length_map] at hN_14
   obtain ⟨out_14,hx_14,h⟩:=bsome h
   refine AW.evSK (fun (v2:Int) (⟨l,l1⟩:(List Int)×(List HairHorse))=>(sT [pR 1 0,(5,.d (q1 best1)),(6,.d (.bool found1)),(7,jI v1),pR 8 1,(9,.own 2 (List.map e3 l).length),(20,jI (shl64 1 (x.Horses.length:Int))),(21,jI v1),(27,.d (.sl 3 (List.map e64 x.Horses))),(28,jI (x.Horses.length:Int)),(29,jI v2)] (y48 x l1 l) 4 0)) (g15_14 v1) hx_14 (Can.trans (Can.thawT 9 3 1 rfl rfl) (Can.trans (Can.thawH 1 1 39 64 3 rfl rfl rfl) (Can.kp (by kernel_rfl)))) (fun v2 p s_14 hi_14 hl_14 hp_14 c_14 h K_14 hK_14=>?_) (fun v2 s_14 hi_14 hl_14 hout=>?_)
   ·obtain ⟨l,l1⟩:=s_14
    unfold g15_14 at h
    refine Sa (sT [pR 1 0,(5,.d (q1 best1)),(6,.d (.bool found1)),(7,jI v1),pR 8 1,(9,.own 2 (List.map e3 l).length),(20,jI (shl64 1 (x.Horses.length:Int))),(21,jI v1),(27,.d (.sl 3 (List.map e64 x.Horses))),(28,jI (x.Horses.length:Int)),(29,jI v2),(30,.d (.bool (decide (v2<(x.Horses.length:Int)))))] (y48 x l1 l) 4 0) ?_
    refine AW.seqK (fun K_15 hK_15=>?_)
    refine AW.cond rfl (fun hb_16=>?_) (fun hb_16=>False.elim (by have:=of_decide_eq_false hb_16;omega))
    refine AW.skip (hK_15 _ ?_)
    refine AW.seqK (fun K_17 hK_17=>?_)
    refine AW.block ?_
    refine AW.srwK (fun Q_18 hQ_18=>?_)
    refine Au 1 (sT [pR 1 0,(5,.d (q1 best1)),(6,.d (.bool found1)),(7,jI v1),pR 8 1,(9,.own 2 (List.map e3 l).length),(20,jI (shl64 1 (x.Horses.length:Int))),(21,jI v1),(27,.d (.sl 3 (List.map e64 x.Horses))),(28,jI (x.Horses.length:Int)),(29,jI v2),(31,jI v2)] (y48 x l1 l) 4 0) ?_
    refine RW.one fokW (r_iaD trivial rfl rfl hi_14 (row:=e64 p) (mapget hp_14) (r_end ?_))
    refine Au 4 (sT [pR 1 0,(5,.d (q1 best1)),(6,.d (.bool found1)),(7,jI v1),pR 8 1,(9,.own 2 (List.map e3 l).length),(10,jI v2),pR 11 4,(20,jI (shl64 1 (x.Horses.length:Int))),(21,jI v1),(27,.d (.sl 3 (List.map e64 x.Horses))),(28,jI (x.Horses.length:Int)),(29,jI v2)] [(4,.var 64 [jI p.Mane,jI p.Tail,jI p.Shade]),(1,.var 39 [.d (.sl 4 (List.map e62 x.Hanks)),.own 3 (List.map e64 l1).length,jI x.Dark,jI x.Near,jI x.Match]),(3,.row 64 3 (List.map e64 l1)),(2,.row 3 1 (List.map e3 l)),(0,.var 39 (cv39 x))] 5 0) ?_
    refine RW.nil (hQ_18 _ ?_)
    refine AW.srwK (fun Q_19 hQ_19=>?_)
    refine Au 2 (sT [pR 1 0,(5,.d (q1 best1)),(6,.d (.bool found1)),(7,jI v1),pR 8 1,(9,.own 2 (List.map e3 l).length),(10,jI v2),pR 11 4,(20,jI (shl64 1 (x.Horses.length:Int))),(21,jI v1),(27,.d (.sl 3 (List.map e64 x.Horses))),(28,jI (x.Horses.length:Int)),(29,jI v2),(34,jI v1),(35,jI v2)] [(4,.var 64 [jI p.Mane,jI p.Tail,jI p.Shade]),(1,.var 39 [.d (.sl 4 (List.map e62 x.Hanks)),.own 3 (List.map e64 l1).length,jI x.Dark,jI x.Near,jI x.Match]),(3,.row 64 3 (List.map e64 l1)),(2,.row 3 1 (List.map e3 l)),(0,.var 39 (cv39 x))] 5 0) ?_
    obtain ⟨_,hv_20,h⟩:=bsome h
    refine RW.one fokW (r_sh trivial rfl rfl (shr64_ok (of_decide_eq_true (must_ok hv_20))) (r_end ?_))
    refine Au 2 (sT [pR 1 0,(5,.d (q1 best1)),(6,.d (.bool found1)),(7,jI v1),pR 8 1,(9,.own 2 (List.map e3 l).length),(10,jI v2),pR 11 4,(20,jI (shl64 1 (x.Horses.length:Int))),(21,jI v1),(27,.d (.sl 3 (List.map e64 x.Horses))),(28,jI (x.Horses.length:Int)),(29,jI v2),(38,.d (.bool (decide ((bAnd (shr64 v1 v2) 1)=1))))] [(4,.var 64 [jI p.Mane,jI p.Tail,jI p.Shade]),(1,.var 39 [.d (.sl 4 (List.map e62 x.Hanks)),.own 3 (List.map e64 l1).length,jI x.Dark,jI x.Near,jI x.Match]),(3,.row 64 3 (List.map e64 l1)),(2,.row 3 1 (List.map e3 l)),(0,.var 39 (cv39 x))] 5 0) ?_
    refine RW.nil (hQ_19 _ ?_)
    refine AW.cond rfl (fun hb_21=>?_) (fun hb_21=>?_)
    ·have h:=ifT hb_21 h
     refine AW.rw ?_
     refine Au 3 (sT [pR 1 0,(5,.d (q1 best1)),(6,.d (.bool found1)),(7,jI v1),pR 8 1,(20,jI (shl64 1 (x.Horses.length:Int))),(21,jI v1),(27,.d (.sl 3 (List.map e64 x.Horses))),(28,jI (x.Horses.length:Int)),(29,jI v2),(39,.own 2 (List.map e3 l).length),(41,.own 5 (List.map e3 [v2]).length)] [(5,.row 3 1 (List.map e3 [v2])),(1,.var 39 [.d (.sl 4 (List.map e62 x.Hanks)),.own 3 (List.map e64 l1).length,jI x.Dark,jI x.Near,jI x.Match]),(3,.row 64 3 (List.map e64 l1)),(2,.row 3 1 (List.map e3 l)),(0,.var 39 (cv39 x))] 6 0) ?_
     obtain ⟨l2,hv_23,h⟩:=bsome h
     refine RW.one fokW (r_apO trivial rfl rfl rfl rfl rfl rfl (apz hv_23 e3) (apr hv_23 e3) (r_end ?_))
     refine Au 1 (sT [pR 1 0,(5,.d (q1 best1)),(6,.d (.bool found1)),(7,jI v1),pR 8 1,(9,.own 2 (List.map e3 l2).length),(20,jI (shl64 1 (x.Horses.length:Int))),(21,jI v1),(27,.d (.sl 3 (List.map e64 x.Horses))),(28,jI (x.Horses.length:Int)),(29,jI v2)] (y49 l2 x l1) 6 0) ?_
     refine RW.nil ?_
     refine hK_17 _ ?_
     refine Ra (sT [pR 1 0,(5,.d (q1 best1)),(6,.d (.bool found1)),(7,jI v1),pR 8 1,(9,.own 2 (List.map e3 l2).length),(20,jI (shl64 1 (x.Horses.length:Int))),(21,jI v1),(27,.d (.sl 3 (List.map e64 x.Horses))),(28,jI (x.Horses.length:Int)),(29,jI (wr (v2+1)))] (y49 l2 x l1) 6 0) ?_
     obtain rfl:=Option.some.inj h
     have ew:wr (v2+1)=v2+1:=inext (N:=(x.Horses.length:Int)) (by omega) (by omega) (by omega)
     rw [ew]
     exact hK_14 _ (Can.kp (by kernel_rfl))
    ·have h:=ifF hb_21 h
     refine AW.rw ?_
     refine Au 4 (sT [pR 1 0,(5,.d (q1 best1)),(6,.d (.bool found1)),(7,jI v1),pR 8 1,(9,.own 2 (List.map e3 l).length),(20,jI (shl64 1 (x.Horses.length:Int))),(21,jI v1),(27,.d (.sl 3 (List.map e64 x.Horses))),(28,jI (x.Horses.length:Int)),(29,jI v2),(44,.own 3 (List.map e64 l1).length),(46,.own 5 (List.map e64 [p]).length)] [(5,.row 64 3 (List.map e64 [p])),(1,.var 39 [.d (.sl 4 (List.map e62 x.Hanks)),.own 3 (List.map e64 l1).length,jI x.Dark,jI x.Near,jI x.Match]),(3,.row 64 3 (List.map e64 l1)),(2,.row 3 1 (List.map e3 l)),(0,.var 39 (cv39 x))] 6 0) ?_
     obtain ⟨l3,hv_25,h⟩:=bsome h
     refine RW.one fokW (r_apO trivial rfl rfl rfl rfl rfl rfl (apz hv_25 e64) (apr hv_25 e64) (r_end ?_))
     refine Au 2 (sT [pR 1 0,(5,.d (q1 best1)),(6,.d (.bool found1)),(7,jI v1),pR 8 1,(9,.own 2 (List.map e3 l).length),(20,jI (shl64 1 (x.Horses.length:Int))),(21,jI v1),(27,.d (.sl 3 (List.map e64 x.Horses))),(28,jI (x.Horses.length:Int)),(29,jI v2)] (y50 x l3 l) 6 0) ?_
     refine RW.nil ?_
     refine hK_17 _ ?_
     refine Ra (sT [pR 1 0,(5,.d (q1 best1)),(6,.d (.bool found1)),(7,jI v1),pR 8 1,(9,.own 2 (List.map e3 l).length),(20,jI (shl64 1 (x.Horses.length:Int))),(21,jI v1),(27,.d (.sl 3 (List.map e64 x.Horses))),(28,jI (x.Horses.length:Int)),(29,jI (wr (v2+1)))] (y50 x l3 l) 6 0) ?_
     obtain rfl:=Option.some.inj h
     have ew:wr (v2+1)=v2+1:=inext (N:=(x.Horses.length:Int)) (by omega) (by omega) (by omega)
     rw [ew]
     exact hK_14 _ (Can.kp (by kernel_rfl))
   ·obtain ⟨l,l1⟩:=s_14
    subst hout
    refine Sa (sT [pR 1 0,(5,.d (q1 best1)),(6,.d (.bool found1)),(7,jI v1),pR 8 1,(9,.own 2 (List.map e3 l).length),(20,jI (shl64 1 (x.Horses.length:Int))),(21,jI v1),(27,.d (.sl 3 (List.map e64 x.Horses))),(28,jI (x.Horses.length:Int)),(29,jI v2),(30,.d (.bool (decide (v2<(x.Horses.length:Int)))))] (y48 x l1 l) 4 0) ?_
    refine AW.seqK (fun K_26 hK_26=>?_)
    refine AW.cond rfl (fun hb_27=>False.elim (by have:=of_decide_eq_true hb_27;omega)) (fun hb_27=>?_)
    refine AW.exit ?_
    refine hK_12 _ ?_
    refine AW.seqK fun K_28 hK_28=>AW.srwK fun Q_29 hQ_29=>?_
    refine Au 2 (sT [pR 1 0,(5,.d (q1 best1)),(6,.d (.bool found1)),pR 8 1,(9,.own 2 (List.map e3 l).length),(20,jI (shl64 1 (x.Horses.length:Int))),(21,jI v1),(51,.d (.bool found1))] (y48 x l1 l) 4 0) ?_
    obtain ⟨v3,hx_30,h⟩:=bsome h
    refine RW.cut fokW 19 ((sT [pR 1 0,(5,.d (q1 best1)),(6,.d (.bool found1)),pR 8 1,(9,.own 2 (List.map e3 l).length),(20,jI (shl64 1 (x.Horses.length:Int))),(21,jI v1),(70,.d (.bool v3))] (y48 x l1 l) 4 0)) ?_ ?_
    ·refine r_split 51 rfl (fun hb_34=>?_) (fun hb_34=>?_)
     ·have h:=ifT hb_34 hx_30
      refine aX 1 (sT [pR 1 0,(5,.d (q1 best1)),(6,.d (.bool found1)),pR 8 1,(9,.own 2 (List.map e3 l).length),(20,jI (shl64 1 (x.Horses.length:Int))),(21,jI v1),(51,.d (.bool true)),(52,.own 2 (List.map e3 l).length)] (y48 x l1 l) 4 0) ?_
      refine r_lenY rfl rfl lenm ?_
      refine aX 1 (sT [pR 1 0,(5,.d (q1 best1)),(6,.d (.bool found1)),pR 8 1,(9,.own 2 (List.map e3 l).length),(20,jI (shl64 1 (x.Horses.length:Int))),(21,jI v1),(51,.d (.bool true)),(53,jI (l.length:Int)),(54,.d (q1 best1))] (y48 x l1 l) 4 0) ?_
      refine r_lenX rfl rfl lenm ?_
      refine aX 2 (sT [pR 1 0,(5,.d (q1 best1)),(6,.d (.bool found1)),pR 8 1,(9,.own 2 (List.map e3 l).length),(20,jI (shl64 1 (x.Horses.length:Int))),(21,jI v1),(51,.d (.bool true)),(57,.d (.bool (decide ((best1.length:Int)<(l.length:Int)))))] (y48 x l1 l) 4 0) ?_
      refine r_split 57 rfl (fun hb_31=>?_) (fun hb_31=>?_)
      ·have h:=ifT hb_31 h
       refine aX 13 (sT [pR 1 0,(5,.d (q1 best1)),(6,.d (.bool found1)),pR 8 1,(9,.own 2 (List.map e3 l).length),(20,jI (shl64 1 (x.Horses.length:Int))),(21,jI v1),(70,.d (.bool true))] (y48 x l1 l) 4 0) ?_
       obtain rfl:=Option.some.inj h
       refine RunC.finJ (Can.kp (by kernel_rfl))
      ·have h:=ifF hb_31 h
       refine aX 1 (sT [pR 1 0,(5,.d (q1 best1)),(6,.d (.bool found1)),pR 8 1,(9,.own 2 (List.map e3 l).length),(20,jI (shl64 1 (x.Horses.length:Int))),(21,jI v1),(51,.d (.bool true)),(57,.d (.bool false)),(58,.own 2 (List.map e3 l).length)] (y48 x l1 l) 4 0) ?_
       refine r_lenY rfl rfl lenm ?_
       refine aX 1 (sT [pR 1 0,(5,.d (q1 best1)),(6,.d (.bool found1)),pR 8 1,(9,.own 2 (List.map e3 l).length),(20,jI (shl64 1 (x.Horses.length:Int))),(21,jI v1),(51,.d (.bool true)),(57,.d (.bool false)),(59,jI (l.length:Int)),(60,.d (q1 best1))] (y48 x l1 l) 4 0) ?_
       refine r_lenX rfl rfl lenm ?_
       refine aX 2 (sT [pR 1 0,(5,.d (q1 best1)),(6,.d (.bool found1)),pR 8 1,(9,.own 2 (List.map e3 l).length),(20,jI (shl64 1 (x.Horses.length:Int))),(21,jI v1),(51,.d (.bool true)),(57,.d (.bool false)),(63,.d (.bool (decide ((l.length:Int)=(best1.length:Int)))))] (y48 x l1 l) 4 0) ?_
       refine r_split 63 rfl (fun hb_32=>?_) (fun hb_32=>?_)
       ·have h:=ifT hb_32 h
        refine aX 2 (sT [pR 1 0,(5,.d (q1 best1)),(6,.d (.bool found1)),pR 8 1,(9,.own 2 (List.map e3 l).length),(20,jI (shl64 1 (x.Horses.length:Int))),(21,jI v1),(51,.d (.bool true)),(57,.d (.bool false)),(63,.d (.bool true)),(64,.own 2 (List.map e3 l).length),(65,.d (q1 best1))] (y48 x l1 l) 4 0) ?_
        obtain ⟨r0_3,hx_33,h⟩:=bsome h
        refine r_callF (rs:=[(2,.row 3 1 (List.map e3 l))]) rfl rfl (k41 l best1 _ hx_33) ⟨rfl,trivial⟩ ⟨(.own rfl rfl),.refl _,trivial⟩ rfl rfl rfl ?_
        refine aX 4 (sT [pR 1 0,(5,.d (q1 best1)),(6,.d (.bool found1)),pR 8 1,(9,.own 2 (List.map e3 l).length),(20,jI (shl64 1 (x.Horses.length:Int))),(21,jI v1),(70,.d (.bool (decide (0≤r0_3))))] (y48 x l1 l) 4 0) ?_
        obtain rfl:=Option.some.inj h
        refine RunC.finJ (Can.kp (by kernel_rfl))
       ·have h:=ifF hb_32 h
        refine aX 7 (sT [pR 1 0,(5,.d (q1 best1)),(6,.d (.bool found1)),pR 8 1,(9,.own 2 (List.map e3 l).length),(20,jI (shl64 1 (x.Horses.length:Int))),(21,jI v1),(70,.d (.bool false))] (y48 x l1 l) 4 0) ?_
        obtain rfl:=Option.some.inj h
        refine RunC.finJ (Can.kp (by kernel_rfl))
     ·have h:=ifF hb_34 hx_30
      refine aX 19 (sT [pR 1 0,(5,.d (q1 best1)),(6,.d (.bool found1)),pR 8 1,(9,.own 2 (List.map e3 l).length),(20,jI (shl64 1 (x.Horses.length:Int))),(21,jI v1),(70,.d (.bool false))] (y48 x l1 l) 4 0) ?_
      obtain rfl:=Option.some.inj h
      refine RunC.finJ (Can.kp (by kernel_rfl))
    ·refine RW.nil (hQ_29 _ ?_)
     refine AW.cond rfl (fun hb_35=>?_) (fun hb_35=>?_)
     ·have h:=ifT hb_35 h
      refine AW.exit ?_
      refine hK_11 _ ?_
      refine Ra (sT [pR 1 0,(5,.d (q1 best1)),(6,.d (.bool found1)),(20,jI (shl64 1 (x.Horses.length:Int))),(21,jI (wr (v1+1)))] [(0,.var 39 (cv39 x))] 4 0) ?_
      obtain rfl:=Option.some.inj h
      have ew:wr (v1+1)=v1+1:=inext (N:=(shl64 1 (x.Horses.length:Int))) (by omega) (by omega) (by omega)
      rw [ew]
      exact hK_8 _ (Can.kp (by kernel_rfl))
     ·have h:=ifF hb_35 h
      refine AW.skip (hK_28 _ ?_)
      refine AW.can (Can.fzH 1 1 3 rfl rfl rfl rfl) ?_
      refine AW.kp (sT [pR 1 0,(5,.d (q1 best1)),(6,.d (.bool found1)),pR 8 1,(9,.own 2 (List.map e3 l).length),(20,jI (shl64 1 (x.Horses.length:Int))),(21,jI v1),(70,.d (.bool v3))] [(1,.var 39 [.d (.sl 4 (List.map e62 x.Hanks)),.d (.sl 3 (List.map e64 l1)),jI x.Dark,jI x.Near,jI x.Match]),(2,.row 3 1 (List.map e3 l)),(0,.var 39 (cv39 x))] 4 0) (by kernel_rfl) ?_
      refine AW.srwK (fun Q_36 hQ_36=>?_)
      refine Au 1 (sT [pR 1 0,(5,.d (q1 best1)),(6,.d (.bool found1)),(9,.own 2 (List.map e3 l).length),(20,jI (shl64 1 (x.Horses.length:Int))),(21,jI v1),(71,.agg [.d (.sl 4 (List.map e62 x.Hanks)),.d (.sl 3 (List.map e64 l1)),jI x.Dark,jI x.Near,jI x.Match])] [(2,.row 3 1 (List.map e3 l)),(0,.var 39 (cv39 x))] 4 0) ?_
      obtain ⟨⟨r0_B,mf⟩,hx_37,h⟩:=bsome h
      refine rC (k31 (HairBook.mk x.Hanks l1 x.Dark x.Near x.Match) _ hx_37) ?_
      obtain ⟨r0_1,hx_38,h⟩:=bsome h
      refine rC (k42 r0_B mf _ hx_38) ?_
      refine RW.nil (hQ_36 _ ?_)
      refine AW.cond rfl (fun hb_39=>?_) (fun hb_39=>?_)
      ·have h:=ifT hb_39 h
       refine Ra (sT [pR 1 0,(5,.own 2 (List.map e3 l).length),(6,.d (.bool true)),(20,jI (shl64 1 (x.Horses.length:Int))),(21,jI v1)] [(2,.row 3 1 (List.map e3 l)),(0,.var 39 (cv39 x))] 4 0) ?_
       refine hK_11 _ ?_
       refine Ra (sT [pR 1 0,(5,.own 2 (List.map e3 l).length),(6,.d (.bool true)),(20,jI (shl64 1 (x.Horses.length:Int))),(21,jI (wr (v1+1)))] [(2,.row 3 1 (List.map e3 l)),(0,.var 39 (cv39 x))] 4 0) ?_
       obtain rfl:=Option.some.inj h
       have ew:wr (v1+1)=v1+1:=inext (N:=(shl64 1 (x.Horses.length:Int))) (by omega) (by omega) (by omega)
       rw [ew]
       exact hK_8 _ (Can.trans (Can.fzE 5 2 rfl rfl rfl) (Can.kp (by kernel_rfl)))
      ·have h:=ifF hb_39 h
       refine AW.skip (hK_11 _ ?_)
       refine Ra (sT [pR 1 0,(5,.d (q1 best1)),(6,.d (.bool found1)),(20,jI (shl64 1 (x.Horses.length:Int))),(21,jI (wr (v1+1)))] [(0,.var 39 (cv39 x))] 4 0) ?_
       obtain rfl:=Option.some.inj h
       have ew:wr (v1+1)=v1+1:=inext (N:=(shl64 1 (x.Horses.length:Int))) (by omega) (by omega) (by omega)
       rw [ew]
       exact hK_8 _ (Can.kp (by kernel_rfl))
  ·obtain ⟨best1,found1⟩:=s_8
   subst hout
   refine Sa (sT [pR 1 0,(5,.d (q1 best1)),(6,.d (.bool found1)),(20,jI (shl64 1 (x.Horses.length:Int))),(21,jI v1),(22,.d (.bool (decide (v1<(shl64 1 (x.Horses.length:Int))))))] [(0,.var 39 (cv39 x))] 1 0) ?_
   refine AW.seqK (fun K_40 hK_40=>?_)
   refine AW.cond rfl (fun hb_41=>False.elim (by have:=of_decide_eq_true hb_41;omega)) (fun hb_41=>?_)
   refine AW.exit ?_
   refine hK_5 _ ?_
   refine AW.srwK (fun Q_42 hQ_42=>?_)
   refine Au 2 (sT [(5,.d (q1 best1)),(76,.d (q1 best1)),(77,.d (q1 best1))] [] 1 0) ?_
   refine rL rfl ?_
   refine Au 1 (sT [(76,.d (q1 best1)),(78,jI (best1.length:Int)),(79,.d (q1 best1))] [] 1 0) ?_
   refine rL rfl ?_
   obtain ⟨l4,hv_43,h⟩:=bsome h
   refine RW.one fokW (r_slN trivial rfl rfl rfl DSl.d (slcL_ok hv_43).2.1 (by rw [List.length_map];exact (slcL_ok hv_43).2.2.1) rfl (slz hv_43 e3) (r_end ?_))
   refine Au 2 (sT [(2,.fsl 1 (List.map e3 l4)),(3,jI 0)] [] 1 0) ?_
   refine RW.nil (hQ_42 _ ?_)
   obtain rfl:=Option.some.inj h
   exact AW.ret (hR_0 _ (retX (.cons (.tmp rfl) (.cons (.tmp rfl) .nil)) (Frz.tup_of ⟨.fsl _ _,.refl _,trivial⟩) rfl (by kernel_rfl) (by kernel_rfl)))
def g46 (_B:HairBook) (mf:List (Hair_dye×Span)) (o0:Int):Option Bool:=(g47 o0 0 20).bind fun r0=>some r0
theorem k46 (_B:HairBook) (mf:List (Hair_dye×Span)) (o0:Int) (r:Bool) (h:g46 _B mf o0=some r):SCall Tryd.prog Gs 46 [.agg (hbm _B mf),.ptr 0 0] [(0,.var 3 [jI o0])] 1 Fr.emp (.d (.bool r)) [(0,.var 3 [jI o0])] 1 Fr.emp:=by
 unfold g46 at h
 refine SCall.mkK Tryd.func46 c46 rfl rfl (by kernel_rfl) (fun Q_0 hR_0 hN_0=>?_)
 refine Sa (sT [pR 1 0] [(0,.var 3 [jI o0])] 2 1) ?_
 refine AW.srwK (fun Q_1 hQ_1=>?_)
 refine Au 1 (sT [(4,jI o0)] [(0,.var 3 [jI o0])] 2 1) ?_
 obtain ⟨r0,hx_2,h⟩:=bsome h
 refine rC (k47 o0 0 20 _ hx_2) ?_
 refine Au 1 (sT [(3,.d (.bool r0))] [(0,.var 3 [jI o0])] 2 1) ?_
 refine RW.nil (hQ_1 _ ?_)
 obtain rfl:=Option.some.inj h
 exact rT hR_0 (.cons (.tmp rfl) .nil)
def g33a (x:HairBook) (o0:Int):Option (Ctl (HairBook×Int) (HairBook×(List (Hair_dye×Span))×Int)):=(g30 x).bind fun r0_9=>bif (decide (r0_9≠0)) then (some (.next ((HairBook.mk [] [] 0 0 0),r0_9))) else ((g31 x).bind fun (r0_B,mf)=>(g46 r0_B mf o0).bind fun r0_1=>bif (!r0_1) then (some (.brk (r0_B,mf,61))) else (some (.brk (r0_B,mf,0))))
def y51 (x:HairBook) (o0:Int):List (Nat×Blk):=[(2,.var 81 [.d (.nilSl),.d (.nilSl),jI 0,jI 0,jI 0,.d (.nilMap)]),(1,.var 39 (cv39 x)),(0,.var 3 [jI o0])]
def y52 (o0:Int):List (Nat×Blk):=[(2,.var 81 [.d (.nilSl),.d (.nilSl),jI 0,jI 0,jI 0,.d (.nilMap)]),(0,.var 3 [jI o0])]
theorem k33a (x:HairBook) (o0:Int) (r:Ctl (HairBook×Int) (HairBook×(List (Hair_dye×Span))×Int)) (h:g33a x o0=some r):SCall Tryd.prog Gs 33 [.agg (cv39 x),.clo 46 [] [.ptr 0 0]] [(0,.var 3 [jI o0])] 1 Fr.emp (match r with | .next (r0_B4,r1_1)=>.tup [.agg [.d (.sl 4 (List.map e62 r0_B4.Hanks)),.d (.sl 3 (List.map e64 r0_B4.Horses)),jI r0_B4.Dark,jI r0_B4.Near,jI r0_B4.Match,.d (.nilMap)],jI r1_1] | .brk (r0_B5,mf2,r1_2)=>.tup [.agg (hbm r0_B5 mf2),jI r1_2]) (match r with | .next (r0_B4,r1_1)=>[(0,.var 3 [jI o0])] | .brk (r0_B5,mf2,r1_2)=>[(0,.var 3 [jI o0])]) 1 Fr.emp:=by
 unfold g33a at h
 refine SCall.mkK Tryd.func33 c33 rfl (by rcases r with _ | _<;>rfl) (by rcases r with _ | _<;>kernel_rfl) (fun Q_0 hR_0 hN_0=>?_)
 refine Sa (sT [(1,.clo 46 [] [.ptr 0 0]),pR 2 1,pR 4 2] (y51 x o0) 3 1) ?_
 refine AW.seqK fun K_1 hK_1=>AW.srwK fun Q_2 hQ_2=>?_
 refine Au 1 (sT [(1,.clo 46 [] [.ptr 0 0]),pR 2 1,pR 4 2,(8,.agg (cv39 x))] (y51 x o0) 3 1) ?_
 obtain ⟨r0_9,hx_3,h⟩:=bsome h
 refine rC (k30 x _ hx_3) ?_
 refine Au 1 (sT [(1,.clo 46 [] [.ptr 0 0]),pR 2 1,pR 4 2,(6,jI r0_9)] (y51 x o0) 3 1) ?_
 refine RW.nil (hQ_2 _ ?_)
 refine Sa (sT [(1,.clo 46 [] [.ptr 0 0]),pR 2 1,pR 4 2,(6,jI r0_9),(11,.d (.bool (decide (r0_9≠0))))] (y51 x o0) 3 1) ?_
 refine AW.cond rfl (fun hb_4=>?_) (fun hb_4=>?_)
 ·have h:=ifT hb_4 h
  refine Sa (sT [pR 4 2,(5,jI r0_9)] (y52 o0) 3 1) ?_
  obtain rfl:=Option.some.inj h
  exact AW.ret (hR_0 _ (retX (.cons (.agg rfl rfl (Nat.le_of_ble_eq_true rfl)) (.cons (.tmp rfl) .nil)) (Frz.tup_of ⟨Frz.agg_of ⟨(.nil 4),(.nil 3),.refl _,.refl _,.refl _,.refl _,trivial⟩,.refl _,trivial⟩) rfl (by kernel_rfl) (by kernel_rfl)))
 ·have h:=ifF hb_4 h
  refine AW.skip (hK_1 _ ?_)
  refine AW.srwK (fun Q_5 hQ_5=>?_)
  refine Au 1 (sT [(1,.clo 46 [] [.ptr 0 0]),pR 4 2,(14,.agg (cv39 x))] (y52 o0) 3 1) ?_
  obtain ⟨⟨r0_B,mf⟩,hx_6,h⟩:=bsome h
  refine rC (k31 x _ hx_6) ?_
  refine Au 2 (sT [(1,.clo 46 [] [.ptr 0 0]),pR 4 2,pR 7 3] [(3,.var 81 (hbm r0_B mf)),(2,.var 81 [.d (.nilSl),.d (.nilSl),jI 0,jI 0,jI 0,.d (.nilMap)]),(0,.var 3 [jI o0])] 4 1) ?_
  refine RW.nil (hQ_5 _ ?_)
  refine AW.seqK fun K_7 hK_7=>AW.srwK fun Q_8 hQ_8=>?_
  refine Au 2 (sT [pR 4 2,pR 7 3,(16,.clo 46 [] [.ptr 0 0]),(17,.agg (hbm r0_B mf))] [(3,.var 81 (hbm r0_B mf)),(2,.var 81 [.d (.nilSl),.d (.nilSl),jI 0,jI 0,jI 0,.d (.nilMap)]),(0,.var 3 [jI o0])] 4 1) ?_
  obtain ⟨r0_1,hx_9,h⟩:=bsome h
  refine RW.one fokW (r_callvE (zr:=[]) [0] trivial rfl (.clo _ _ _) (by kernel_rfl) rfl (k46 r0_B mf o0 _ hx_9) ⟨rfl,trivial⟩ rfl rfl ⟨.refl _,.refl _,trivial⟩ rfl rfl rfl (r_end ?_))
  refine Au 1 (sT [pR 4 2,pR 7 3,(19,.d (.bool (!r0_1)))] [(0,.var 3 [jI o0]),(3,.var 81 (hbm r0_B mf)),(2,.var 81 [.d (.nilSl),.d (.nilSl),jI 0,jI 0,jI 0,.d (.nilMap)])] 4 1) ?_
  refine RW.nil (hQ_8 _ ?_)
  refine AW.cond rfl (fun hb_10=>?_) (fun hb_10=>?_)
  ·have h:=ifT hb_10 h
   refine Sa (sT [pR 4 2,(5,jI 61)] [(2,.var 81 (hbm r0_B mf)),(0,.var 3 [jI o0])] 4 1) ?_
   obtain rfl:=Option.some.inj h
   exact rT hR_0 (.cons (.agg rfl rfl (Nat.le_of_ble_eq_true rfl)) (.cons (.tmp rfl) .nil))
  ·have h:=ifF hb_10 h
   refine AW.skip (hK_7 _ ?_)
   refine Sa (sT [pR 4 2,(5,jI 0)] [(2,.var 81 (hbm r0_B mf)),(0,.var 3 [jI o0])] 4 1) ?_
   obtain rfl:=Option.some.inj h
   exact rT hR_0 (.cons (.agg rfl rfl (Nat.le_of_ble_eq_true rfl)) (.cons (.tmp rfl) .nil))
end Go.Proofs.Tp
namespace Go.Proofs.Tp
open Go Go.Abs Go.Proofs
def g17_r22 (l1:List HairHank):((List Int)×(Nat→Int))→(Int)→Option (Ctl (Int) (Unit)):=fun (a,a1) v=>(ixN 5 (wr ((l1.length:Int) - 1))).bind fun j=>some (.next (min v (a1 j)))
def g17 (x:HairBook) (shade:Int):Option (Int×Int):=(g33a x shade).bind fun r_26=>match r_26 with | .next (r0_B4,r1_1)=>(must (decide (r1_1≠0))).bind fun _=>some (0,r1_1) | .brk (r0_B5,mf2,r1_2)=>bif (decide (r1_2≠0)) then (some (0,r1_2)) else ((g42 r0_B5 mf2).bind fun r0_1=>bif r0_1 then (some (0,0)) else ((slcL x.Hanks 0 (x.Hanks.length:Int)).bind fun l=>(appL 32 l [(HairHank.mk (Span.mk 60 60) (Span.mk shade shade))]).bind fun l1=>(g31 (HairBook.mk l1 x.Horses x.Dark x.Near x.Match)).bind fun (r0_B,mf)=>(g39).bind fun _=>(g44 r0_B mf r0_B mf).bind fun (o0_B,mf1)=>(g63 (fun a a1 s=>rndC (g17_r22 l1) (a,a1) s) o0_B mf1 r0_B mf (.next 61)).bind fun out_22=>match out_22 with | .next v=>bif (decide (60<v)) then (some (0,4)) else (some (v,0)) | .brk _=>none))
def y53 (shade:Int) (x:HairBook):List (Nat×Blk):=[(4,.var 47 [jI shade,jI shade]),(3,.var 47 [jI 60,jI 60]),(0,.var 39 (cv39 x))]
def y54 (l1:List HairHank) (x:HairBook):List (Nat×Blk):=[(0,.var 39 [.d (.sl 4 (List.map e62 l1)),.d (.sl 3 (List.map e64 x.Horses)),jI x.Dark,jI x.Near,jI x.Match])]
theorem k17 (x:HairBook) (shade:Int) (r:Int×Int) (h:g17 x shade=some r):SCall Tryd.prog Gs 17 [.agg (cv39 x),jI shade] [] 0 Fr.emp (match r with | (r0_5,r1_6)=>.tup [jI r0_5,jI r1_6]) [] 0 Fr.emp:=by
 unfold g17 at h
 refine SCall.mkK Tryd.func17 c17 rfl rfl (by kernel_rfl) (fun Q_0 hR_0 hN_0=>?_)
 refine Sa (sT [pR 2 0,pR 3 1] [(1,.var 3 [jI shade]),(0,.var 39 (cv39 x))] 2 0) ?_
 refine AW.srwK (fun Q_1 hQ_1=>?_)
 refine Au 2 (sT [pR 2 0,pR 3 1,(15,.agg (cv39 x)),(16,.clo 46 [] [.ptr 1 0])] [(1,.var 3 [jI shade]),(0,.var 39 (cv39 x))] 2 0) ?_
 obtain ⟨r_26,hx_2,h⟩:=bsome h
 rcases r_26 with (⟨r0_B4,r1_1⟩ | (⟨r0_B5,mf2,r1_2⟩))
 ·refine RW.one fokW (r_callS (zr:=[]) [1] trivial rfl (k33a x shade _ hx_2) ⟨rfl,trivial⟩ rfl rfl ⟨.refl _,.refl _,trivial⟩ rfl rfl rfl (r_end ?_))
  obtain ⟨_,hv_3,h⟩:=bsome h
  have hf_4:=must_ok hv_3
  refine Au 6 (sT [pR 2 0,pR 3 1,pR 6 2,(7,jI r1_1)] [(2,.var 81 (catV (cv39 r0_B4) [.d (.nilMap)])),(1,.var 3 [jI shade]),(0,.var 39 (cv39 x))] 3 0) ?_
  refine RW.nil (hQ_1 _ ?_)
  refine AW.seqK (fun K_5 hK_5=>?_)
  refine Sa (sT [pR 2 0,pR 3 1,pR 6 2,(7,jI r1_1),(21,.d (.bool (decide (r1_1≠0))))] [(2,.var 81 (catV (cv39 r0_B4) [.d (.nilMap)])),(1,.var 3 [jI shade]),(0,.var 39 (cv39 x))] 3 0) ?_
  refine AW.cond rfl (fun hb_6=>?_) (fun hb_6=>False.elim (by rw [hf_4] at hb_6;cases hb_6))
  refine Sa (sT [(4,jI 0),(5,jI r1_1)] [] 3 0) ?_
  obtain rfl:=Option.some.inj h
  exact rT hR_0 (.cons (.tmp rfl) (.cons (.tmp rfl) .nil))
 ·refine RW.one fokW (r_callS (zr:=[]) [1] trivial rfl (k33a x shade _ hx_2) ⟨rfl,trivial⟩ rfl rfl ⟨.refl _,.refl _,trivial⟩ rfl rfl rfl (r_end ?_))
  refine Au 6 (sT [pR 2 0,pR 3 1,pR 6 2,(7,jI r1_2)] [(2,.var 81 (hbm r0_B5 mf2)),(1,.var 3 [jI shade]),(0,.var 39 (cv39 x))] 3 0) ?_
  refine RW.nil (hQ_1 _ ?_)
  refine AW.seqK (fun K_7 hK_7=>?_)
  refine Sa (sT [pR 2 0,pR 3 1,pR 6 2,(7,jI r1_2),(21,.d (.bool (decide (r1_2≠0))))] [(2,.var 81 (hbm r0_B5 mf2)),(1,.var 3 [jI shade]),(0,.var 39 (cv39 x))] 3 0) ?_
  refine AW.cond rfl (fun hb_8=>?_) (fun hb_8=>?_)
  ·have h:=ifT hb_8 h
   refine Sa (sT [(4,jI 0),(5,jI r1_2)] [] 3 0) ?_
   obtain rfl:=Option.some.inj h
   exact rT hR_0 (.cons (.tmp rfl) (.cons (.tmp rfl) .nil))
  ·have h:=ifF hb_8 h
   refine AW.skip (hK_7 _ ?_)
   refine AW.seqK fun K_9 hK_9=>AW.srwK fun Q_10 hQ_10=>?_
   refine Au 1 (sT [pR 2 0,pR 3 1,(23,.agg (hbm r0_B5 mf2))] [(1,.var 3 [jI shade]),(0,.var 39 (cv39 x))] 3 0) ?_
   obtain ⟨r0_1,hx_11,h⟩:=bsome h
   refine rC (k42 r0_B5 mf2 _ hx_11) ?_
   refine RW.nil (hQ_10 _ ?_)
   refine AW.cond rfl (fun hb_12=>?_) (fun hb_12=>?_)
   ·have h:=ifT hb_12 h
    refine Sa (sT [(4,jI 0),(5,jI 0)] [] 3 0) ?_
    obtain rfl:=Option.some.inj h
    exact rT hR_0 (.cons (.tmp rfl) (.cons (.tmp rfl) .nil))
   ·have h:=ifF hb_12 h
    refine AW.skip (hK_9 _ ?_)
    refine Sa (sT [pR 2 0,pR 8 3,pR 9 4] (y53 shade x) 5 0) ?_
    refine AW.sdrwK fokW (fun Q_13 hQ_13=>?_)
    refine aX 4 (sT [pR 2 0,pR 8 3,pR 9 4,(30,.d (.sl 4 (List.map e62 x.Hanks))),(32,.d (.sl 4 (List.map e62 x.Hanks)))] (y53 shade x) 5 0) ?_
    refine r_lenX trivial rfl lenm ?_
    refine aX 2 (sT [pR 2 0,pR 8 3,pR 9 4,(30,.d (.sl 4 (List.map e62 x.Hanks))),(33,jI (x.Hanks.length:Int)),(35,.d (.sl 4 (List.map e62 x.Hanks)))] (y53 shade x) 5 0) ?_
    refine r_lenX trivial rfl lenm ?_
    obtain ⟨l,hv_14,h⟩:=bsome h
    refine r_slN trivial rfl rfl rfl DSl.d (slcL_ok hv_14).2.1 (by rw [List.length_map];exact (slcL_ok hv_14).2.2.1) rfl (slz hv_14 e62) ?_
    refine aX 4 (sT [pR 2 0,(37,.fsl 4 (List.map e62 l)),(41,.own 5 (List.map e62 [(HairHank.mk (Span.mk 60 60) (Span.mk shade shade))]).length)] [(5,.row 62 4 (List.map e62 [(HairHank.mk (Span.mk 60 60) (Span.mk shade shade))])),(4,.var 47 [jI shade,jI shade]),(3,.var 47 [jI 60,jI 60]),(0,.var 39 (cv39 x))] 6 0) ?_
    obtain ⟨l1,hv_15,h⟩:=bsome h
    refine r_apF trivial rfl rfl rfl rfl (by simp) (zs:=List.map e62 l1) (apz hv_15 e62) (apr hv_15 e62) ?_
    refine aX 2 (sT [pR 2 0] [(0,.var 39 [.own 6 (List.map e62 l1).length,.d (.sl 3 (List.map e64 x.Horses)),jI x.Dark,jI x.Near,jI x.Match]),(6,.row 62 4 (List.map e62 l1)),(5,.row 62 4 (List.map e62 [(HairHank.mk (Span.mk 60 60) (Span.mk shade shade))])),(4,.var 47 [jI shade,jI shade]),(3,.var 47 [jI 60,jI 60])] 7 0) ?_
    refine Fi (sT [pR 2 0] [(0,.var 39 [.own 6 (List.map e62 l1).length,.d (.sl 3 (List.map e64 x.Horses)),jI x.Dark,jI x.Near,jI x.Match]),(6,.row 62 4 (List.map e62 l1))] 7 0) ?_
    refine hQ_13 _ ?_
    refine AW.can (Can.fzH 0 0 6 rfl rfl rfl rfl) ?_
    refine AW.kp (sT [pR 2 0] (y54 l1 x) 7 0) (by kernel_rfl) ?_
    refine AW.srwK (fun Q_16 hQ_16=>?_)
    refine Au 1 (sT [pR 2 0,(44,.agg [.d (.sl 4 (List.map e62 l1)),.d (.sl 3 (List.map e64 x.Horses)),jI x.Dark,jI x.Near,jI x.Match])] (y54 l1 x) 7 0) ?_
    obtain ⟨⟨r0_B,mf⟩,hx_17,h⟩:=bsome h
    refine rC (k31 (HairBook.mk l1 x.Horses x.Dark x.Near x.Match) _ hx_17) ?_
    refine Au 4 (sT [pR 2 0,pR 10 7,pR 11 8] [(8,.var 3 [jI 61]),(7,.var 81 (hbm r0_B mf)),(0,.var 39 [.d (.sl 4 (List.map e62 l1)),.d (.sl 3 (List.map e64 x.Horses)),jI x.Dark,jI x.Near,jI x.Match])] 9 0) ?_
    refine RW.nil (hQ_16 _ ?_)
    refine AW.seqK (fun K_18 hK_18=>?_)
    refine AW.sdrwK fokW (fun Q_19 hQ_19=>?_)
    refine aX 1 (sT [pR 2 0,pR 10 7,pR 11 8,(46,.agg (hbm r0_B mf))] [(8,.var 3 [jI 61]),(7,.var 81 (hbm r0_B mf)),(0,.var 39 [.d (.sl 4 (List.map e62 l1)),.d (.sl 3 (List.map e64 x.Horses)),jI x.Dark,jI x.Near,jI x.Match])] 9 0) ?_
    obtain ⟨⟨⟩,hx_20,h⟩:=bsome h
    refine r_call trivial rfl (k39 _ hx_20) rfl rfl ?_
    refine aX 2 (sT [pR 2 0,pR 11 8,(46,.agg (hbm r0_B mf)),(47,.agg [.d (.fn 60)]),(49,.clo 45 [.agg (hbm r0_B mf)] [])] [(8,.var 3 [jI 61]),(7,.var 81 (hbm r0_B mf)),(0,.var 39 [.d (.sl 4 (List.map e62 l1)),.d (.sl 3 (List.map e64 x.Horses)),jI x.Dark,jI x.Near,jI x.Match])] 9 0) ?_
    obtain ⟨⟨o0_B,mf1⟩,hx_21,h⟩:=bsome h
    refine r_callS (zr:=[]) [] trivial rfl (k44 r0_B mf r0_B mf _ hx_21) trivial rfl rfl ⟨.refl _,.refl _,.refl _,trivial⟩ rfl rfl rfl ?_
    refine Fi (sT [pR 2 0,pR 11 8,(50,.clo 63 [] [.ptr 9 0,.ptr 10 0,.ptr 11 0])] [(9,.var 81 (hbm o0_B mf1)),(10,.var 94 [.d (.fn 60)]),(11,.var 57 [.clo 45 [.agg (hbm r0_B mf)] []]),(8,.var 3 [jI 61]),(0,.var 39 [.d (.sl 4 (List.map e62 l1)),.d (.sl 3 (List.map e64 x.Horses)),jI x.Dark,jI x.Near,jI x.Match])] 12 0) ?_
    refine hQ_19 _ ?_
    refine AW.block ?_
    obtain ⟨out_22,hx_22,h⟩:=bsome h
    refine AW.rfX (fun (v:Int)=>[(12,.dm),(8,.var 3 [jI v]),(0,.var 39 [.d (.sl 4 (List.map e62 l1)),.d (.sl 3 (List.map e64 x.Horses)),jI x.Dark,jI x.Near,jI x.Match])]) (fun (_:Unit)=>[]) (fun _=>some .ret) (g17_r22 l1) (fun (⟨a,a1⟩:(List Int)×(Nat→Int))=>[.d (q1 a),.agg (cfv a1)]) (s0:=61) (out:=out_22) [pR 2 0,pR 11 8] [(8,.var 3 [jI 61]),(0,.var 39 [.d (.sl 4 (List.map e62 l1)),.d (.sl 3 (List.map e64 x.Horses)),jI x.Dark,jI x.Near,jI x.Match])] [9,10,11] rfl (.clo _ _ _) (by kernel_rfl) (by kernel_rfl) (fun fr_ hY_22=>k63 fr_ _ (fun a a1 s s2 b h=>hY_22 (a,a1) s s2 b h) o0_B mf1 r0_B mf (.next 61) _ hx_22) (by kernel_rfl) ⟨rfl,rfl,rfl,trivial⟩ rfl ⟨rfl,rfl⟩ rfl rfl (fun _=>rfl) (fun _=>rfl) (fun a_22 s_22 c_22 h l_22=>?_) (fun _=>rfl) ?_
    ·obtain ⟨a,a1⟩:=a_22
     have ⟨v,e_22⟩:∃ x,x=s_22:=⟨_,rfl⟩
     subst e_22
     unfold g17_r22 at h
     refine AW.ra (fokR l_22) [] (sT [pR 2 0,pR 11 8,pR 13 13] [(13,.var 89 (cfv a1)),(12,.dm),(8,.var 3 [jI v]),(0,.var 39 [.d (.sl 4 (List.map e62 l1)),.d (.sl 3 (List.map e64 x.Horses)),jI x.Dark,jI x.Near,jI x.Match])] 14 13) (by kernel_rfl) ?_
     refine AW.block ?_
     refine AW.drw (fokR l_22) ?_
     refine aX 3 (sT [pR 11 8,pR 13 13,(53,jI v),(55,.d (.sl 4 (List.map e62 l1)))] [(13,.var 89 (cfv a1)),(12,.dm),(8,.var 3 [jI v]),(0,.var 39 [.d (.sl 4 (List.map e62 l1)),.d (.sl 3 (List.map e64 x.Horses)),jI x.Dark,jI x.Near,jI x.Match])] 14 13) ?_
     refine r_lenX trivial rfl lenm ?_
     refine aX 1 (sT [pR 11 8,pR 13 13,(53,jI v),(57,jI (wr ((l1.length:Int) - 1)))] [(13,.var 89 (cfv a1)),(12,.dm),(8,.var 3 [jI v]),(0,.var 39 [.d (.sl 4 (List.map e62 l1)),.d (.sl 3 (List.map e64 x.Horses)),jI x.Dark,jI x.Near,jI x.Match])] 14 13) ?_
     obtain ⟨j,hv_24,h⟩:=bsome h
     refine r_iaV trivial rfl rfl rfl (ixN_ok hv_24).1 (ixN_ok hv_24).2.1 ?_
     refine r_loadV trivial rfl rfl (u:=jI (a1 j)) (agt (f:=fun k=>jI (a1 k)) hv_24) ?_
     refine aX 2 (sT [] [(8,.var 3 [jI (min v (a1 j))]),(13,.var 89 (cfv a1)),(12,.dm),(0,.var 39 [.d (.sl 4 (List.map e62 l1)),.d (.sl 3 (List.map e64 x.Horses)),jI x.Dark,jI x.Near,jI x.Match])] 14 13) ?_
     refine Fi (sT [] [(8,.var 3 [jI (min v (a1 j))]),(12,.dm),(0,.var 39 [.d (.sl 4 (List.map e62 l1)),.d (.sl 3 (List.map e64 x.Horses)),jI x.Dark,jI x.Near,jI x.Match])] 14 13) ?_
     obtain rfl:=Option.some.inj h
     exact ⟨(sT [] [(12,.dm),(8,.var 3 [jI (min v (a1 j))]),(0,.var 39 [.d (.sl 4 (List.map e62 l1)),.d (.sl 3 (List.map e64 x.Horses)),jI x.Dark,jI x.Near,jI x.Match])] 13 13),Can.kp (by kernel_rfl),rdX trivial rfl (by kernel_rfl) (by kernel_rfl)⟩
    ·rcases out_22 with v | _
     ·refine hK_18 _ ?_
      refine AW.seqK (fun K_25 hK_25=>?_)
      refine Sa ⟨[pR 11 8,(62,.d (.bool (decide (60<v))))],[(12,.dm),(8,.var 3 [jI v])],13,Fr.emp,[12],0⟩ ?_
      refine AW.cond rfl (fun hb_26=>?_) (fun hb_26=>?_)
      ·have h:=ifT hb_26 h
       refine Sa ⟨[(4,jI 0),(5,jI 4)],[(12,.dm)],13,Fr.emp,[12],0⟩ ?_
       obtain rfl:=Option.some.inj h
       exact rT hR_0 (.cons (.tmp rfl) (.cons (.tmp rfl) .nil))
      ·have h:=ifF hb_26 h
       refine AW.skip (hK_25 _ ?_)
       refine Sa ⟨[(4,jI v),(5,jI 0)],[(12,.dm)],13,Fr.emp,[12],0⟩ ?_
       obtain rfl:=Option.some.inj h
       exact rT hR_0 (.cons (.tmp rfl) (.cons (.tmp rfl) .nil))
     ·cases h
def g4_33 (r0:PlankBook) (r0_5_1:Int):Int→Unit→Option (Ctl (Unit) (Bool)):=fun v3 _=>(bif ((decide ((wr (r0_5_1 - v3))<1))||(decide (16<r0_5_1))) then (some true) else (some (decide ((r0.Planks.length:Int)=3)))).bind fun v4=>bif v4 then (some (.next ())) else ((appL 32 ([]:List PlankWood) r0.Planks).bind fun l=>(appL 32 l ([(PlankWood.mk (wr (r0_5_1 - v3)) [])])).bind fun l1=>(g10 (PlankBook.mk l1 r0.Parts)).bind fun (r0_2_2,r1_3_2)=>bif (true != ((decide (r1_3_2=0))==(decide (v3=0)))) then (some (.brk false)) else (some (.next ())))
def g4 (t:PlankBook):Option Bool:=(g5 t).bind fun r0_5=>bif (!r0_5) then ((g6).bind fun r0_11=>some r0_11) else ((g7a t).bind fun r0=>(g9 r0).bind fun r0_1=>(g10 r0).bind fun (r0_2,r1_3)=>(g11 r0_1).bind fun (r0_3,r1_3_1)=>(g15 r0_1).bind fun (r0_2_1,r1_1)=>(g16 r0_1).bind fun (r0_1_1,r1_1_1)=>(bif (((((decide (r1_1≠0))||(decide (r1_1_1≠0)))||(decide (r1_3≠r1_3_1)))||((decide (r1_3≠0))&&(decide (r1_3≠4))))||(true != ((decide (r1_3=0))==r0_1_1))) then (some true) else (some (true != (r0_1_1==(decide ((r0_2_1.length:Int)=0)))))).bind fun v=>(bif v then (some true) else (some (decide ((t.Planks.length:Int)<(r0_2.length:Int))))).bind fun v1=>(bif v1 then (some true) else (some (decide ((r0.Parts.length:Int)<(r0_3.length:Int))))).bind fun v2=>bif v2 then (some false) else ((g17 r0_1 0).bind fun (r0_5_1,r1_6)=>bif (((decide (r1_6≠0))||(true != (r0_1_1==(decide (r0_5_1=0)))))||(decide (r0_5_1<0))) then (some false) else (bindC (forC (g4_33 r0 r0_5_1) (((2:Int) - 0).toNat) 0 ()) fun _=>(g6).bind fun r0_11_1=>some r0_11_1)))
theorem k4 (t:PlankBook) (r:Bool) (h:g4 t=some r):SCall Tryd.prog Gs 4 [.agg (pbv t)] [] 0 Fr.emp (.d (.bool r)) [] 0 Fr.emp:=by
 unfold g4 at h
 refine SCall.mkK Tryd.func4 c4 rfl rfl (by kernel_rfl) (fun Q_0 hR_0 hN_0=>?_)
 refine Sa (sT [pR 1 0] [(0,.var 25 (pbv t))] 1 0) ?_
 refine AW.seqK fun K_1 hK_1=>AW.srwK fun Q_2 hQ_2=>?_
 refine Au 1 (sT [pR 1 0,(19,.agg (pbv t))] [(0,.var 25 (pbv t))] 1 0) ?_
 obtain ⟨r0_5,hx_3,h⟩:=bsome h
 refine rC (k5 t _ hx_3) ?_
 refine Au 1 (sT [pR 1 0,(21,.d (.bool (!r0_5)))] [(0,.var 25 (pbv t))] 1 0) ?_
 refine RW.nil (hQ_2 _ ?_)
 refine AW.cond rfl (fun hb_4=>?_) (fun hb_4=>?_)
 ·have h:=ifT hb_4 h
  refine AW.srwK (fun Q_5 hQ_5=>?_)
  obtain ⟨r0_11,hx_6,h⟩:=bsome h
  refine rC (k6 _ hx_6) ?_
  refine Au 1 (sT [(2,.d (.bool r0_11))] [] 1 0) ?_
  refine RW.nil (hQ_5 _ ?_)
  obtain rfl:=Option.some.inj h
  exact rT hR_0 (.cons (.tmp rfl) .nil)
 ·have h:=ifF hb_4 h
  refine AW.skip (hK_1 _ ?_)
  refine AW.srwK (fun Q_7 hQ_7=>?_)
  refine Au 1 (sT [pR 1 0,(23,.agg (pbv t))] [(0,.var 25 (pbv t))] 1 0) ?_
  obtain ⟨r0,hx_8,h⟩:=bsome h
  refine rC (k7a t _ hx_8) ?_
  refine Au 2 (sT [pR 1 0,pR 3 1] [(1,.var 25 (pbv r0)),(0,.var 25 (pbv t))] 2 0) ?_
  refine RW.nil (hQ_7 _ ?_)
  refine AW.srwK (fun Q_9 hQ_9=>?_)
  refine Au 1 (sT [pR 1 0,pR 3 1,(25,.agg (pbv r0))] [(1,.var 25 (pbv r0)),(0,.var 25 (pbv t))] 2 0) ?_
  obtain ⟨r0_1,hx_10,h⟩:=bsome h
  refine rC (k9 r0 _ hx_10) ?_
  refine Au 2 (sT [pR 1 0,pR 3 1,pR 4 2] [(2,.var 39 (cv39 r0_1)),(1,.var 25 (pbv r0)),(0,.var 25 (pbv t))] 3 0) ?_
  refine RW.nil (hQ_9 _ ?_)
  refine AW.srwK (fun Q_11 hQ_11=>?_)
  refine Au 1 (sT [pR 1 0,pR 3 1,pR 4 2,(28,.agg (pbv r0))] [(2,.var 39 (cv39 r0_1)),(1,.var 25 (pbv r0)),(0,.var 25 (pbv t))] 3 0) ?_
  obtain ⟨⟨r0_2,r1_3⟩,hx_12,h⟩:=bsome h
  refine rC (k10 r0 _ hx_12) ?_
  refine Au 5 (sT [pR 1 0,pR 3 1,pR 4 2,(5,.d (q1 r0_2)),(6,jI r1_3)] [(2,.var 39 (cv39 r0_1)),(1,.var 25 (pbv r0)),(0,.var 25 (pbv t))] 3 0) ?_
  refine RW.nil (hQ_11 _ ?_)
  refine AW.srwK (fun Q_13 hQ_13=>?_)
  refine Au 1 (sT [pR 1 0,pR 3 1,pR 4 2,(5,.d (q1 r0_2)),(6,jI r1_3),(33,.agg (cv39 r0_1))] [(2,.var 39 (cv39 r0_1)),(1,.var 25 (pbv r0)),(0,.var 25 (pbv t))] 3 0) ?_
  obtain ⟨⟨r0_3,r1_3_1⟩,hx_14,h⟩:=bsome h
  refine rC (k11 r0_1 _ hx_14) ?_
  refine Au 5 (sT [pR 1 0,pR 3 1,pR 4 2,(5,.d (q1 r0_2)),(6,jI r1_3),(7,.d (q1 r0_3)),(8,jI r1_3_1)] [(2,.var 39 (cv39 r0_1)),(1,.var 25 (pbv r0)),(0,.var 25 (pbv t))] 3 0) ?_
  refine RW.nil (hQ_13 _ ?_)
  refine AW.srwK (fun Q_15 hQ_15=>?_)
  refine Au 1 (sT [pR 1 0,pR 3 1,pR 4 2,(5,.d (q1 r0_2)),(6,jI r1_3),(7,.d (q1 r0_3)),(8,jI r1_3_1),(38,.agg (cv39 r0_1))] [(2,.var 39 (cv39 r0_1)),(1,.var 25 (pbv r0)),(0,.var 25 (pbv t))] 3 0) ?_
  obtain ⟨⟨r0_2_1,r1_1⟩,hx_16,h⟩:=bsome h
  refine rC (k15 r0_1 _ hx_16) ?_
  refine Au 5 (sT [pR 1 0,pR 3 1,pR 4 2,(5,.d (q1 r0_2)),(6,jI r1_3),(7,.d (q1 r0_3)),(8,jI r1_3_1),(9,.d (q1 r0_2_1)),(10,jI r1_1)] [(2,.var 39 (cv39 r0_1)),(1,.var 25 (pbv r0)),(0,.var 25 (pbv t))] 3 0) ?_
  refine RW.nil (hQ_15 _ ?_)
  refine AW.srwK (fun Q_17 hQ_17=>?_)
  refine Au 1 (sT [pR 1 0,pR 3 1,pR 4 2,(5,.d (q1 r0_2)),(6,jI r1_3),(7,.d (q1 r0_3)),(8,jI r1_3_1),(9,.d (q1 r0_2_1)),(10,jI r1_1),(43,.agg (cv39 r0_1))] [(2,.var 39 (cv39 r0_1)),(1,.var 25 (pbv r0)),(0,.var 25 (pbv t))] 3 0) ?_
  obtain ⟨⟨r0_1_1,r1_1_1⟩,hx_18,h⟩:=bsome h
  refine rC (k16 r0_1 _ hx_18) ?_
  refine Au 5 (sT [pR 1 0,pR 3 1,pR 4 2,(5,.d (q1 r0_2)),(6,jI r1_3),(7,.d (q1 r0_3)),(8,jI r1_3_1),(9,.d (q1 r0_2_1)),(10,jI r1_1),(11,.d (.bool r0_1_1)),(12,jI r1_1_1)] [(2,.var 39 (cv39 r0_1)),(1,.var 25 (pbv r0)),(0,.var 25 (pbv t))] 3 0) ?_
  refine RW.nil (hQ_17 _ ?_)
  refine AW.seqK fun K_19 hK_19=>AW.srwK fun Q_20 hQ_20=>?_
  refine RW.au fokW 26 [49,53,61,58,66] (sT [pR 1 0,pR 3 1,pR 4 2,(5,.d (q1 r0_2)),(7,.d (q1 r0_3)),(9,.d (q1 r0_2_1)),(11,.d (.bool r0_1_1)),(72,.d (.bool (((((decide (r1_1≠0))||(decide (r1_1_1≠0)))||(decide (r1_3≠r1_3_1)))||((decide (r1_3≠0))&&(decide (r1_3≠4))))||(true != ((decide (r1_3=0))==r0_1_1)))))] [(2,.var 39 (cv39 r0_1)),(1,.var 25 (pbv r0)),(0,.var 25 (pbv t))] 3 0) (by kernel_rfl) ?_
  obtain ⟨v,hx_21,h⟩:=bsome h
  refine RW.cut fokW 6 ((sT [pR 1 0,pR 3 1,pR 4 2,(5,.d (q1 r0_2)),(7,.d (q1 r0_3)),(11,.d (.bool r0_1_1)),(78,.d (.bool v))] [(2,.var 39 (cv39 r0_1)),(1,.var 25 (pbv r0)),(0,.var 25 (pbv t))] 3 0)) ?_ ?_
  ·refine r_split 72 rfl (fun hb_22=>?_) (fun hb_22=>?_)
   ·have h:=ifT hb_22 hx_21
    refine aX 6 (sT [pR 1 0,pR 3 1,pR 4 2,(5,.d (q1 r0_2)),(7,.d (q1 r0_3)),(11,.d (.bool r0_1_1)),(78,.d (.bool true))] [(2,.var 39 (cv39 r0_1)),(1,.var 25 (pbv r0)),(0,.var 25 (pbv t))] 3 0) ?_
    obtain rfl:=Option.some.inj h
    refine RunC.finJ (Can.kp (by kernel_rfl))
   ·have h:=ifF hb_22 hx_21
    refine aX 2 (sT [pR 1 0,pR 3 1,pR 4 2,(5,.d (q1 r0_2)),(7,.d (q1 r0_3)),(11,.d (.bool r0_1_1)),(72,.d (.bool false)),(73,.d (.bool r0_1_1)),(74,.d (q1 r0_2_1))] [(2,.var 39 (cv39 r0_1)),(1,.var 25 (pbv r0)),(0,.var 25 (pbv t))] 3 0) ?_
    refine r_lenX rfl rfl lenm ?_
    refine aX 3 (sT [pR 1 0,pR 3 1,pR 4 2,(5,.d (q1 r0_2)),(7,.d (q1 r0_3)),(11,.d (.bool r0_1_1)),(78,.d (.bool (true != (r0_1_1==(decide ((r0_2_1.length:Int)=0))))))] [(2,.var 39 (cv39 r0_1)),(1,.var 25 (pbv r0)),(0,.var 25 (pbv t))] 3 0) ?_
    obtain rfl:=Option.some.inj h
    refine RunC.finJ (Can.kp (by kernel_rfl))
  ·refine Au 1 (sT [pR 1 0,pR 3 1,pR 4 2,(5,.d (q1 r0_2)),(7,.d (q1 r0_3)),(11,.d (.bool r0_1_1)),(79,.d (.bool v))] [(2,.var 39 (cv39 r0_1)),(1,.var 25 (pbv r0)),(0,.var 25 (pbv t))] 3 0) ?_
   obtain ⟨v1,hx_23,h⟩:=bsome h
   refine RW.cut fokW 7 ((sT [pR 3 1,pR 4 2,(7,.d (q1 r0_3)),(11,.d (.bool r0_1_1)),(86,.d (.bool v1))] [(2,.var 39 (cv39 r0_1)),(1,.var 25 (pbv r0))] 3 0)) ?_ ?_
   ·refine r_split 79 rfl (fun hb_24=>?_) (fun hb_24=>?_)
    ·have h:=ifT hb_24 hx_23
     refine aX 7 (sT [pR 3 1,pR 4 2,(7,.d (q1 r0_3)),(11,.d (.bool r0_1_1)),(86,.d (.bool true))] [(2,.var 39 (cv39 r0_1)),(1,.var 25 (pbv r0)),(0,.var 25 (pbv t))] 3 0) ?_
     obtain rfl:=Option.some.inj h
     refine RunC.finJ (Can.kp (by kernel_rfl))
    ·have h:=ifF hb_24 hx_23
     refine aX 1 (sT [pR 1 0,pR 3 1,pR 4 2,(7,.d (q1 r0_3)),(11,.d (.bool r0_1_1)),(79,.d (.bool false)),(80,.d (q1 r0_2))] [(2,.var 39 (cv39 r0_1)),(1,.var 25 (pbv r0)),(0,.var 25 (pbv t))] 3 0) ?_
     refine r_lenX rfl rfl lenm ?_
     refine aX 2 (sT [pR 3 1,pR 4 2,(7,.d (q1 r0_3)),(11,.d (.bool r0_1_1)),(79,.d (.bool false)),(81,jI (r0_2.length:Int)),(83,.d (.sl 2 (List.map e32 t.Planks)))] [(2,.var 39 (cv39 r0_1)),(1,.var 25 (pbv r0)),(0,.var 25 (pbv t))] 3 0) ?_
     refine r_lenX rfl rfl lenm ?_
     refine aX 2 (sT [pR 3 1,pR 4 2,(7,.d (q1 r0_3)),(11,.d (.bool r0_1_1)),(86,.d (.bool (decide ((t.Planks.length:Int)<(r0_2.length:Int)))))] [(2,.var 39 (cv39 r0_1)),(1,.var 25 (pbv r0)),(0,.var 25 (pbv t))] 3 0) ?_
     obtain rfl:=Option.some.inj h
     refine RunC.finJ (Can.kp (by kernel_rfl))
   ·refine Au 1 (sT [pR 3 1,pR 4 2,(7,.d (q1 r0_3)),(11,.d (.bool r0_1_1)),(87,.d (.bool v1))] [(2,.var 39 (cv39 r0_1)),(1,.var 25 (pbv r0))] 3 0) ?_
    obtain ⟨v2,hx_25,h⟩:=bsome h
    refine RW.cut fokW 7 ((sT [pR 3 1,pR 4 2,(11,.d (.bool r0_1_1)),(94,.d (.bool v2))] [(2,.var 39 (cv39 r0_1)),(1,.var 25 (pbv r0))] 3 0)) ?_ ?_
    ·refine r_split 87 rfl (fun hb_26=>?_) (fun hb_26=>?_)
     ·have h:=ifT hb_26 hx_25
      refine aX 7 (sT [pR 3 1,pR 4 2,(11,.d (.bool r0_1_1)),(94,.d (.bool true))] [(2,.var 39 (cv39 r0_1)),(1,.var 25 (pbv r0))] 3 0) ?_
      obtain rfl:=Option.some.inj h
      refine RunC.finJ (Can.kp (by kernel_rfl))
     ·have h:=ifF hb_26 hx_25
      refine aX 1 (sT [pR 3 1,pR 4 2,(11,.d (.bool r0_1_1)),(87,.d (.bool false)),(88,.d (q1 r0_3))] [(2,.var 39 (cv39 r0_1)),(1,.var 25 (pbv r0))] 3 0) ?_
      refine r_lenX rfl rfl lenm ?_
      refine aX 2 (sT [pR 3 1,pR 4 2,(11,.d (.bool r0_1_1)),(87,.d (.bool false)),(89,jI (r0_3.length:Int)),(91,.d (.sl 3 (List.map e35 r0.Parts)))] [(2,.var 39 (cv39 r0_1)),(1,.var 25 (pbv r0))] 3 0) ?_
      refine r_lenX rfl rfl lenm ?_
      refine aX 2 (sT [pR 3 1,pR 4 2,(11,.d (.bool r0_1_1)),(94,.d (.bool (decide ((r0.Parts.length:Int)<(r0_3.length:Int)))))] [(2,.var 39 (cv39 r0_1)),(1,.var 25 (pbv r0))] 3 0) ?_
      obtain rfl:=Option.some.inj h
      refine RunC.finJ (Can.kp (by kernel_rfl))
    ·refine RW.nil (hQ_20 _ ?_)
     refine AW.cond rfl (fun hb_27=>?_) (fun hb_27=>?_)
     ·have h:=ifT hb_27 h
      refine Sa (sT [(2,.d (.bool false))] [] 3 0) ?_
      obtain rfl:=Option.some.inj h
      exact rT hR_0 (.cons (.tmp rfl) .nil)
     ·have h:=ifF hb_27 h
      refine AW.skip (hK_19 _ ?_)
      refine AW.srwK (fun Q_28 hQ_28=>?_)
      refine Au 1 (sT [pR 3 1,(11,.d (.bool r0_1_1)),(96,.agg (cv39 r0_1))] [(1,.var 25 (pbv r0))] 3 0) ?_
      obtain ⟨⟨r0_5_1,r1_6⟩,hx_29,h⟩:=bsome h
      refine rC (k17 r0_1 0 _ hx_29) ?_
      refine Au 5 (sT [pR 3 1,(11,.d (.bool r0_1_1)),(13,jI r0_5_1),(14,jI r1_6)] [(1,.var 25 (pbv r0))] 3 0) ?_
      refine RW.nil (hQ_28 _ ?_)
      refine AW.seqK (fun K_30 hK_30=>?_)
      refine AW.sa fokW [102,108] (sT [pR 3 1,(13,jI r0_5_1),(111,.d (.bool (((decide (r1_6≠0))||(true != (r0_1_1==(decide (r0_5_1=0)))))||(decide (r0_5_1<0)))))] [(1,.var 25 (pbv r0))] 3 0) (by kernel_rfl) ?_
      refine AW.cond rfl (fun hb_31=>?_) (fun hb_31=>?_)
      ·have h:=ifT hb_31 h
       refine Sa (sT [(2,.d (.bool false))] [] 3 0) ?_
       obtain rfl:=Option.some.inj h
       exact rT hR_0 (.cons (.tmp rfl) .nil)
      ·have h:=ifF hb_31 h
       refine AW.skip (hK_30 _ ?_)
       refine AW.seqK (fun K_32 hK_32=>?_)
       refine Sa (sT [pR 3 1,(13,jI r0_5_1),(15,jI 0)] [(1,.var 25 (pbv r0))] 3 0) ?_
       refine AW.block ?_
       have hN_33:(2:Int)≤9223372036854775807:=by decide
       obtain ⟨out_33,hx_33,hk_33⟩:=bsomeC h
       refine AW.lpCK (fun (v3:Int) (_:Unit)=>(sT [pR 3 1,(13,jI r0_5_1),(15,jI v3)] [(1,.var 25 (pbv r0))] 3 0)) (g4_33 r0 r0_5_1) (2) hx_33 (Can.kp (by kernel_rfl)) (fun v3 s_33 hi_33 hl_33 c_33 h hb_33 K_33 hK_33=>?_) (fun v3 s_33 hi_33 hl_33 hout=>?_)
       ·unfold g4_33 at h
        refine AW.seqK (fun K_34 hK_34=>?_)
        refine Sa (sT [pR 3 1,(13,jI r0_5_1),(15,jI v3),(113,.d (.bool (decide (v3<2))))] [(1,.var 25 (pbv r0))] 3 0) ?_
        refine AW.cond rfl (fun hb_35=>?_) (fun hb_35=>False.elim (by have:=of_decide_eq_false hb_35;omega))
        refine AW.skip (hK_34 _ ?_)
        refine AW.seqK (fun K_36 hK_36=>?_)
        refine AW.block ?_
        refine AW.seqK fun K_37 hK_37=>AW.srwK fun Q_38 hQ_38=>?_
        refine RW.au fokW 9 [120] (sT [pR 3 1,(13,jI r0_5_1),(15,jI v3),(124,.d (.bool ((decide ((wr (r0_5_1 - v3))<1))||(decide (16<r0_5_1)))))] [(1,.var 25 (pbv r0))] 3 0) (by kernel_rfl) ?_
        obtain ⟨v4,hx_39,h⟩:=bsome h
        refine RW.cut fokW 5 ((sT [pR 3 1,(13,jI r0_5_1),(15,jI v3),(129,.d (.bool v4))] [(1,.var 25 (pbv r0))] 3 0)) ?_ ?_
        ·refine r_split 124 rfl (fun hb_40=>?_) (fun hb_40=>?_)
         ·have h:=ifT hb_40 hx_39
          refine aX 5 (sT [pR 3 1,(13,jI r0_5_1),(15,jI v3),(129,.d (.bool true))] [(1,.var 25 (pbv r0))] 3 0) ?_
          obtain rfl:=Option.some.inj h
          refine RunC.finJ (Can.kp (by kernel_rfl))
         ·have h:=ifF hb_40 hx_39
          refine aX 2 (sT [pR 3 1,(13,jI r0_5_1),(15,jI v3),(124,.d (.bool false)),(126,.d (.sl 2 (List.map e32 r0.Planks)))] [(1,.var 25 (pbv r0))] 3 0) ?_
          refine r_lenX rfl rfl lenm ?_
          refine aX 2 (sT [pR 3 1,(13,jI r0_5_1),(15,jI v3),(129,.d (.bool (decide ((r0.Planks.length:Int)=3))))] [(1,.var 25 (pbv r0))] 3 0) ?_
          obtain rfl:=Option.some.inj h
          refine RunC.finJ (Can.kp (by kernel_rfl))
        ·refine RW.nil (hQ_38 _ ?_)
         refine AW.cond rfl (fun hb_41=>?_) (fun hb_41=>?_)
         ·have h:=ifT hb_41 h
          refine AW.exit ?_
          refine hK_36 _ ?_
          refine Ra (sT [pR 3 1,(13,jI r0_5_1),(15,jI (wr (v3+1)))] [(1,.var 25 (pbv r0))] 3 0) ?_
          obtain rfl:=Option.some.inj h
          have ew:wr (v3+1)=v3+1:=inext (N:=2) (by omega) (by omega) (by omega)
          rw [ew]
          exact hK_33 _ _ rfl (Can.kp (by kernel_rfl))
         ·have h:=ifF hb_41 h
          refine AW.skip (hK_37 _ ?_)
          refine Sa (sT [pR 3 1,(13,jI r0_5_1),(15,jI v3),pR 16 3] [(3,.var 25 (pbv r0)),(1,.var 25 (pbv r0))] 4 0) ?_
          refine AW.srwK (fun Q_42 hQ_42=>?_)
          refine Au 3 (sT [pR 3 1,(13,jI r0_5_1),(15,jI v3),pR 16 3,(131,.own 4 (List.map e32 []).length),(133,.d (.sl 2 (List.map e32 r0.Planks)))] [(4,.row 32 2 (List.map e32 [])),(3,.var 25 (pbv r0)),(1,.var 25 (pbv r0))] 5 0) ?_
          obtain ⟨l,hv_43,h⟩:=bsome h
          refine RW.one fokW (r_apD trivial rfl rfl rfl rfl (apz hv_43 e32) (apr hv_43 e32) (r_end ?_))
          refine Au 4 (sT [pR 3 1,(13,jI r0_5_1),(15,jI v3),pR 16 3,(134,.own 4 (List.map e32 l).length),(138,.agg [jI (wr (r0_5_1 - v3)),.d (.nilSl)])] [(4,.row 32 2 (List.map e32 l)),(3,.var 25 (pbv r0)),(1,.var 25 (pbv r0))] 5 0) ?_
          refine RW.one fokW (r_bslW (ds:=[I (wr (r0_5_1 - v3)),.sl 2 []]) (ys:=List.map e32 [(PlankWood.mk (wr (r0_5_1 - v3)) [])]) (.eq _ (.wk 2 (.nil))) trivial rfl rfl rfl rfl rfl rfl rfl (r_end ?_))
          obtain ⟨l1,hv_44,h⟩:=bsome h
          refine RW.one fokW (r_apO trivial rfl rfl rfl rfl rfl rfl (apz hv_44 e32) (apr hv_44 e32) (r_end ?_))
          refine Au 2 (sT [pR 3 1,(13,jI r0_5_1),(15,jI v3),pR 16 3] [(3,.var 25 [.own 4 (List.map e32 l1).length,.d (.sl 3 (List.map e35 r0.Parts))]),(4,.row 32 2 (List.map e32 l1)),(1,.var 25 (pbv r0))] 6 0) ?_
          refine RW.nil (hQ_42 _ ?_)
          refine AW.can (Can.fzH 3 0 4 rfl rfl rfl rfl) ?_
          refine AW.kp (sT [pR 3 1,(13,jI r0_5_1),(15,jI v3),pR 16 3] [(3,.var 25 [.d (.sl 2 (List.map e32 l1)),.d (.sl 3 (List.map e35 r0.Parts))]),(1,.var 25 (pbv r0))] 6 0) (by kernel_rfl) ?_
          refine AW.srwK (fun Q_45 hQ_45=>?_)
          refine Au 1 (sT [pR 3 1,(13,jI r0_5_1),(15,jI v3),(143,.agg [.d (.sl 2 (List.map e32 l1)),.d (.sl 3 (List.map e35 r0.Parts))])] [(1,.var 25 (pbv r0))] 6 0) ?_
          obtain ⟨⟨r0_2_2,r1_3_2⟩,hx_46,h⟩:=bsome h
          refine rC (k10 (PlankBook.mk l1 r0.Parts) _ hx_46) ?_
          refine Au 5 (sT [pR 3 1,(13,jI r0_5_1),(15,jI v3),(18,jI r1_3_2)] [(1,.var 25 (pbv r0))] 6 0) ?_
          refine RW.nil (hQ_45 _ ?_)
          refine Sa (sT [pR 3 1,(13,jI r0_5_1),(15,jI v3),(151,.d (.bool (true != ((decide (r1_3_2=0))==(decide (v3=0))))))] [(1,.var 25 (pbv r0))] 6 0) ?_
          refine AW.cond rfl (fun hb_47=>?_) (fun hb_47=>?_)
          ·have h:=ifT hb_47 h
           refine Sa (sT [(2,.d (.bool false))] [] 6 0) ?_
           obtain rfl:=Option.some.inj h
           have e_1:=hb_33 _ rfl
           subst e_1
           obtain rfl:=Aft.bk hk_33
           exact rT hR_0 (.cons (.tmp rfl) .nil)
          ·have h:=ifF hb_47 h
           refine AW.skip (hK_36 _ ?_)
           refine Ra (sT [pR 3 1,(13,jI r0_5_1),(15,jI (wr (v3+1)))] [(1,.var 25 (pbv r0))] 6 0) ?_
           obtain rfl:=Option.some.inj h
           have ew:wr (v3+1)=v3+1:=inext (N:=2) (by omega) (by omega) (by omega)
           rw [ew]
           exact hK_33 _ _ rfl (Can.kp (by kernel_rfl))
       ·subst hout
        have h:=Aft.nx hk_33
        refine AW.seqK (fun K_48 hK_48=>?_)
        refine Sa (sT [pR 3 1,(13,jI r0_5_1),(15,jI v3),(113,.d (.bool (decide (v3<2))))] [(1,.var 25 (pbv r0))] 3 0) ?_
        refine AW.cond rfl (fun hb_49=>False.elim (by have:=of_decide_eq_true hb_49;omega)) (fun hb_49=>?_)
        refine AW.exit ?_
        refine hK_32 _ ?_
        refine AW.srwK (fun Q_50 hQ_50=>?_)
        obtain ⟨r0_11_1,hx_51,h⟩:=bsome h
        refine rC (k6 _ hx_51) ?_
        refine Au 1 (sT [(2,.d (.bool r0_11_1))] [] 3 0) ?_
        refine RW.nil (hQ_50 _ ?_)
        obtain rfl:=Option.some.inj h
        exact rT hR_0 (.cons (.tmp rfl) .nil)
end Go.Proofs.Tp
