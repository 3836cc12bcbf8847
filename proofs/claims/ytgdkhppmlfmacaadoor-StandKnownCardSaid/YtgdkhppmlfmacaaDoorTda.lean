/- Told functions, and that the program does so, part 1. Conditions: none. -/
import Derived.Test.YtgdkhppmlfmacaaDoorDa
set_option linter.unusedVariables false
set_option linter.unusedSimpArgs false
namespace Go.Proofs.Tk
open Go Go.Abs Go.Proofs
def g10 (low:Int) (high:Int):Option Span:=some (Span.mk low high)
theorem k10 (low:Int) (high:Int) (r:Span) (h:g10 low high=some r):SCall Tryd.prog Gs 10 [jI low,jI high] [] 0 Fr.emp (.agg [jI r.Low,jI r.High]) [] 0 Fr.emp:=by
 unfold g10 at h
 refine SCall.mkK Tryd.func10 c10 rfl rfl (by kernel_rfl) (fun Q_0 hR_0 hN_0=>?_)
 refine Sa (sT [(0,jI low),(1,jI high),pR 4 0] [(0,.var 33 [jI 0,jI 0])] 1 0) ?_
 refine Sa (sT [pR 4 0] [(0,.var 33 [jI low,jI high])] 1 0) ?_
 obtain rfl:=Option.some.inj h
 exact rT hR_0 (.cons (.agg rfl rfl (Nat.le_of_ble_eq_true rfl)) .nil)
def g8 (l:(List StandTrial)):Option StandBook:=(g10 20 22).bind fun r0=>(g10 4 5).bind fun r0_1=>some (StandBook.mk 0 10 4 0 [(StandPart.mk r0 0 30),(StandPart.mk r0_1 15 40)] (-4) 36 8 30 l)
def y1:List (Nat×Blk):=[(0,.var 25 [jI 0,jI 0,jI 0,jI 0,.d (.nilSl),jI 0,jI 0,jI 0,jI 0,.d (.nilSl)])]
theorem k8 (l:(List StandTrial)) (r:StandBook) (h:g8 l=some r):SCall Tryd.prog Gs 8 [.d (.sl 3 (List.map e29 l))] [] 0 Fr.emp (.agg [jI r.Kind,jI r.Front,jI r.Back,jI r.Radius,.d (.sl 4 (List.map e36 r.Parts)),jI r.Along,jI r.High,jI r.Lean_,jI r.Limit,.d (.sl 3 (List.map e29 r.Trials))]) [] 0 Fr.emp:=by
 unfold g8 at h
 refine SCall.mkK Tryd.func8 c8 rfl rfl (by kernel_rfl) (fun Q_0 hR_0 hN_0=>?_)
 refine Sa (sT [(0,.d (.sl 3 (List.map e29 l))),pR 2 0] y1 1 0) ?_
 refine AW.srwK (fun Q_1 hQ_1=>?_)
 obtain ⟨r0,hx_2,h⟩:=bsome h
 refine rC (k10 20 22 _ hx_2) ?_
 refine Au 1 (sT [(0,.d (.sl 3 (List.map e29 l))),pR 2 0,(4,.agg [jI r0.Low,jI r0.High,jI 0,jI 30])] y1 1 0) ?_
 obtain ⟨r0_1,hx_3,h⟩:=bsome h
 refine rC (k10 4 5 _ hx_3) ?_
 refine Au 5 (sT [pR 2 0] [(0,.var 25 [jI 0,jI 10,jI 4,jI 0,.own 1 (List.map e36 [(StandPart.mk r0 0 30),(StandPart.mk r0_1 15 40)]).length,jI (-4),jI 36,jI 8,jI 30,.d (.sl 3 (List.map e29 l))]),(1,.row 36 4 (List.map e36 [(StandPart.mk r0 0 30),(StandPart.mk r0_1 15 40)]))] 2 0) ?_
 refine RW.nil (hQ_1 _ ?_)
 obtain rfl:=Option.some.inj h
 exact AW.ret (hR_0 _ (retX (.cons (.agg rfl rfl (Nat.le_of_ble_eq_true rfl)) .nil) (Frz.agg_of ⟨.refl _,.refl _,.refl _,.refl _,(.own rfl rfl),.refl _,.refl _,.refl _,.refl _,.refl _,trivial⟩) rfl (by kernel_rfl) (by kernel_rfl)))
def g6 :Option StandBook:=(g8 ([]:(List StandTrial))).bind fun r0_2=>some r0_2
theorem k6  (r:StandBook) (h:g6=some r):SCall Tryd.prog Gs 6 [] [] 0 Fr.emp (.agg [jI r.Kind,jI r.Front,jI r.Back,jI r.Radius,.d (.sl 4 (List.map e36 r.Parts)),jI r.Along,jI r.High,jI r.Lean_,jI r.Limit,.d (.sl 3 (List.map e29 r.Trials))]) [] 0 Fr.emp:=by
 unfold g6 at h
 refine SCall.mkK Tryd.func6 c6 rfl rfl (by kernel_rfl) (fun Q_0 hR_0 hN_0=>?_)
 refine Sa (sT [pR 0 0] [(0,.var 25 [jI 0,jI 0,jI 0,jI 0,.d (.nilSl),jI 0,jI 0,jI 0,jI 0,.d (.nilSl)])] 1 0) ?_
 refine AW.srwK (fun Q_1 hQ_1=>?_)
 obtain ⟨r0_2,hx_2,h⟩:=bsome h
 refine RW.one fokW (r_callZ (zr:=[]) trivial rfl (k8 ([]:(List StandTrial)) _ hx_2) trivial ⟨(.nil 3),trivial⟩ rfl rfl rfl rfl (r_end ?_))
 refine Au 1 (sT [pR 0 0] [(0,.var 25 (cv25 r0_2))] 1 0) ?_
 refine RW.nil (hQ_1 _ ?_)
 obtain rfl:=Option.some.inj h
 exact rT hR_0 (.cons (.agg rfl rfl (Nat.le_of_ble_eq_true rfl)) .nil)
def g8a (l:(List StandTrial)):Option (Int×Int×Int×Int×(List StandPart)×Int×Int×Int×Int×(List StandTrial)):=(g10 20 22).bind fun r0=>(g10 4 5).bind fun r0_1=>some (0,10,4,0,[(StandPart.mk r0 0 30),(StandPart.mk r0_1 15 40)],(-4),36,8,30,l)
def y2:List (Nat×Blk):=[(0,.var 25 [jI 0,jI 0,jI 0,jI 0,.d (.nilSl),jI 0,jI 0,jI 0,jI 0,.d (.nilSl)])]
theorem k8a (l:(List StandTrial)) (r:Int×Int×Int×Int×(List StandPart)×Int×Int×Int×Int×(List StandTrial)) (h:g8a l=some r):SCall Tryd.prog Gs 8 [.d (.sl 3 (List.map e29 l))] [] 0 Fr.emp (match r with | (r0_Kind,r0_Front,r0_Back,r0_Radius,r0_Parts,r0_Along,r0_High,r0_Lean_,r0_Limit,r0_Trials)=>.agg [jI r0_Kind,jI r0_Front,jI r0_Back,jI r0_Radius,.own 1 (List.map e36 r0_Parts).length,jI r0_Along,jI r0_High,jI r0_Lean_,jI r0_Limit,.d (.sl 3 (List.map e29 r0_Trials))]) (match r with | (r0_Kind,r0_Front,r0_Back,r0_Radius,r0_Parts,r0_Along,r0_High,r0_Lean_,r0_Limit,r0_Trials)=>[(1,.row 36 4 (List.map e36 r0_Parts))]) 2 Fr.emp:=by
 unfold g8a at h
 refine SCall.mkK Tryd.func8 c8 rfl rfl (by kernel_rfl) (fun Q_0 hR_0 hN_0=>?_)
 refine Sa (sT [(0,.d (.sl 3 (List.map e29 l))),pR 2 0] y2 1 0) ?_
 refine AW.srwK (fun Q_1 hQ_1=>?_)
 obtain ⟨r0,hx_2,h⟩:=bsome h
 refine rC (k10 20 22 _ hx_2) ?_
 refine Au 1 (sT [(0,.d (.sl 3 (List.map e29 l))),pR 2 0,(4,.agg [jI r0.Low,jI r0.High,jI 0,jI 30])] y2 1 0) ?_
 obtain ⟨r0_1,hx_3,h⟩:=bsome h
 refine rC (k10 4 5 _ hx_3) ?_
 refine Au 5 (sT [pR 2 0] [(0,.var 25 [jI 0,jI 10,jI 4,jI 0,.own 1 (List.map e36 [(StandPart.mk r0 0 30),(StandPart.mk r0_1 15 40)]).length,jI (-4),jI 36,jI 8,jI 30,.d (.sl 3 (List.map e29 l))]),(1,.row 36 4 (List.map e36 [(StandPart.mk r0 0 30),(StandPart.mk r0_1 15 40)]))] 2 0) ?_
 refine RW.nil (hQ_1 _ ?_)
 obtain rfl:=Option.some.inj h
 exact rT hR_0 (.cons (.agg rfl rfl (Nat.le_of_ble_eq_true rfl)) .nil)
def g6a :Option (Int×Int×Int×Int×(List StandPart)×Int×Int×Int×Int×(List StandTrial)):=(g8a ([]:(List StandTrial))).bind fun (r0_Kind,r0_Front,r0_Back,r0_Radius,r0_Parts,r0_Along,r0_High,r0_Lean_,r0_Limit,r0_Trials)=>some (r0_Kind,r0_Front,r0_Back,r0_Radius,r0_Parts,r0_Along,r0_High,r0_Lean_,r0_Limit,r0_Trials)
theorem k6a  (r:Int×Int×Int×Int×(List StandPart)×Int×Int×Int×Int×(List StandTrial)) (h:g6a=some r):SCall Tryd.prog Gs 6 [] [] 0 Fr.emp (match r with | (r0_Kind1,r0_Front1,r0_Back1,r0_Radius1,r0_Parts1,r0_Along1,r0_High1,r0_Lean_1,r0_Limit1,r0_Trials1)=>.agg [jI r0_Kind1,jI r0_Front1,jI r0_Back1,jI r0_Radius1,.own 2 (List.map e36 r0_Parts1).length,jI r0_Along1,jI r0_High1,jI r0_Lean_1,jI r0_Limit1,.d (.sl 3 (List.map e29 r0_Trials1))]) (match r with | (r0_Kind1,r0_Front1,r0_Back1,r0_Radius1,r0_Parts1,r0_Along1,r0_High1,r0_Lean_1,r0_Limit1,r0_Trials1)=>[(2,.row 36 4 (List.map e36 r0_Parts1))]) 3 Fr.emp:=by
 unfold g6a at h
 refine SCall.mkK Tryd.func6 c6 rfl rfl (by kernel_rfl) (fun Q_0 hR_0 hN_0=>?_)
 refine Sa (sT [pR 0 0] [(0,.var 25 [jI 0,jI 0,jI 0,jI 0,.d (.nilSl),jI 0,jI 0,jI 0,jI 0,.d (.nilSl)])] 1 0) ?_
 refine AW.srwK (fun Q_1 hQ_1=>?_)
 obtain ⟨⟨r0_Kind,r0_Front,r0_Back,r0_Radius,r0_Parts,r0_Along,r0_High,r0_Lean_,r0_Limit,r0_Trials⟩,hx_2,h⟩:=bsome h
 refine RW.one fokW (r_callS (zr:=[]) [] trivial rfl (k8a ([]:(List StandTrial)) _ hx_2) trivial rfl rfl ⟨(.nil 3),trivial⟩ rfl rfl rfl (r_end ?_))
 refine Au 1 (sT [pR 0 0] [(0,.var 25 [jI r0_Kind,jI r0_Front,jI r0_Back,jI r0_Radius,.own 2 (List.map e36 r0_Parts).length,jI r0_Along,jI r0_High,jI r0_Lean_,jI r0_Limit,.d (.sl 3 (List.map e29 r0_Trials))]),(2,.row 36 4 (List.map e36 r0_Parts))] 3 0) ?_
 refine RW.nil (hQ_1 _ ?_)
 obtain rfl:=Option.some.inj h
 exact rT hR_0 (.cons (.agg rfl rfl (Nat.le_of_ble_eq_true rfl)) .nil)
def g7 :Option StandBook:=(g6).bind fun r0=>some (StandBook.mk 1 12 12 60 r0.Parts r0.Along r0.High r0.Lean_ r0.Limit r0.Trials)
theorem k7  (r:StandBook) (h:g7=some r):SCall Tryd.prog Gs 7 [] [] 0 Fr.emp (.agg [jI r.Kind,jI r.Front,jI r.Back,jI r.Radius,.d (.sl 4 (List.map e36 r.Parts)),jI r.Along,jI r.High,jI r.Lean_,jI r.Limit,.d (.sl 3 (List.map e29 r.Trials))]) [] 0 Fr.emp:=by
 unfold g7 at h
 refine SCall.mkK Tryd.func7 c7 rfl rfl (by kernel_rfl) (fun Q_0 hR_0 hN_0=>?_)
 refine Sa (sT [pR 0 0] [(0,.var 25 [jI 0,jI 0,jI 0,jI 0,.d (.nilSl),jI 0,jI 0,jI 0,jI 0,.d (.nilSl)])] 1 0) ?_
 refine AW.srwK (fun Q_1 hQ_1=>?_)
 obtain ⟨r0,hx_2,h⟩:=bsome h
 refine rC (k6 _ hx_2) ?_
 refine Au 2 (sT [pR 0 0,pR 1 1] [(1,.var 25 (cv25 r0)),(0,.var 25 [jI 0,jI 0,jI 0,jI 0,.d (.nilSl),jI 0,jI 0,jI 0,jI 0,.d (.nilSl)])] 2 0) ?_
 refine RW.nil (hQ_1 _ ?_)
 refine Sa (sT [pR 0 0,pR 1 1] [(1,.var 25 [jI 1,jI 12,jI 12,jI 60,.d (.sl 4 (List.map e36 r0.Parts)),jI r0.Along,jI r0.High,jI r0.Lean_,jI r0.Limit,.d (.sl 3 (List.map e29 r0.Trials))]),(0,.var 25 [jI 0,jI 0,jI 0,jI 0,.d (.nilSl),jI 0,jI 0,jI 0,jI 0,.d (.nilSl)])] 2 0) ?_
 refine Sa (sT [pR 0 0] [(0,.var 25 [jI 1,jI 12,jI 12,jI 60,.d (.sl 4 (List.map e36 r0.Parts)),jI r0.Along,jI r0.High,jI r0.Lean_,jI r0.Limit,.d (.sl 3 (List.map e29 r0.Trials))])] 2 0) ?_
 obtain rfl:=Option.some.inj h
 exact rT hR_0 (.cons (.agg rfl rfl (Nat.le_of_ble_eq_true rfl)) .nil)
def g9 (weight:Int) (lean:Int) (tipped:Bool):Option StandTrial:=some (StandTrial.mk weight lean tipped)
theorem k9 (weight:Int) (lean:Int) (tipped:Bool) (r:StandTrial) (h:g9 weight lean tipped=some r):SCall Tryd.prog Gs 9 [jI weight,jI lean,.d (.bool tipped)] [] 0 Fr.emp (.agg [jI r.Weight,jI r.Lean_,.d (.bool r.Tipped)]) [] 0 Fr.emp:=by
 unfold g9 at h
 refine SCall.mkK Tryd.func9 c9 rfl rfl (by kernel_rfl) (fun Q_0 hR_0 hN_0=>?_)
 refine Sa (sT [(0,jI weight),(1,jI lean),(2,.d (.bool tipped)),pR 6 0] [(0,.var 29 [jI 0,jI 0,.d (.bool false)])] 1 0) ?_
 refine Sa (sT [pR 6 0] [(0,.var 29 [jI weight,jI lean,.d (.bool tipped)])] 1 0) ?_
 obtain rfl:=Option.some.inj h
 exact rT hR_0 (.cons (.agg rfl rfl (Nat.le_of_ble_eq_true rfl)) .nil)
def g59 (n:Int) (low:Int) (high:Int):Option Bool:=some ((decide (low≤n))&&(decide (n≤high)))
theorem k59 (n:Int) (low:Int) (high:Int) (r:Bool) (h:g59 n low high=some r):SCall Tryd.prog Gs 59 [jI n,jI low,jI high] [] 0 Fr.emp (.d (.bool r)) [] 0 Fr.emp:=by
 unfold g59 at h
 refine SCall.mkK Tryd.func59 c59 rfl rfl (by kernel_rfl) (fun Q_0 hR_0 hN_0=>?_)
 refine Sa (sT [(0,jI n),(1,jI low),(2,jI high)] [] 0 0) ?_
 refine AW.sa fokW [10] (sT [(6,.d (.bool ((decide (low≤n))&&(decide (n≤high)))))] [] 0 0) (by kernel_rfl) ?_
 obtain rfl:=Option.some.inj h
 exact rT hR_0 (.cons (.tmp rfl) .nil)
def g20_56 (t:StandBook):Int→StandTrial→Bool→Option Bool:=fun v13 p1 r_2=>(bif r_2 then ((g59 p1.Weight 1 t.Limit).bind fun r0_12=>some r0_12) else (some false)).bind fun v14=>(bif v14 then ((g59 p1.Lean_ (wr (-t.Lean_)) t.Lean_).bind fun r0_13=>some r0_13) else (some false)).bind fun v15=>some v15
def g20_36:Int→StandPart→Bool→Option Bool:=fun v9 p r_1=>(bif r_1 then ((g59 p.Weight.Low 1 p.Weight.High).bind fun r0_9=>some r0_9) else (some false)).bind fun v10=>(bif ((v10&&(decide (p.Weight.High≤99)))&&(decide ((wr (p.Weight.High - p.Weight.Low))≤4))) then ((g59 p.Along (-60) 60).bind fun r0_10=>some r0_10) else (some false)).bind fun v11=>(bif v11 then ((g59 p.High 0 60).bind fun r0_11=>some r0_11) else (some false)).bind fun v12=>some v12
def g20 (t:StandBook):Option Int:=(g59 t.Kind 0 1).bind fun r0=>(bif r0 then ((g59 t.Front 1 60).bind fun r0_1=>some r0_1) else (some false)).bind fun v=>(bif v then ((g59 t.Back 1 60).bind fun r0_2=>some r0_2) else (some false)).bind fun v1=>(bif (decide (t.Kind=1)) then ((bif v1 then ((g59 t.Radius 1 120).bind fun r0_3=>some r0_3) else (some false)).bind fun v2=>some v2) else (some (v1&&(decide (t.Radius=0))))).bind fun r_=>(bif r_ then ((g59 (t.Parts.length:Int) 1 4).bind fun r0_4=>some r0_4) else (some false)).bind fun v3=>(bif v3 then ((g59 t.Along (-60) 60).bind fun r0_5=>some r0_5) else (some false)).bind fun v4=>(bif v4 then ((g59 t.High 0 60).bind fun r0_6=>some r0_6) else (some false)).bind fun v5=>(bif v5 then ((g59 t.Lean_ 0 12).bind fun r0_7=>some r0_7) else (some false)).bind fun v6=>(bif v6 then ((g59 t.Limit 1 60).bind fun r0_8=>some r0_8) else (some false)).bind fun v7=>(bif v7 then (some (decide ((t.Trials.length:Int)≤5))) else (some false)).bind fun v8=>(eachS g20_36 t.Parts 0 v8).bind fun r_1=>(eachS (g20_56 t) t.Trials 0 r_1).bind fun r_2=>bif (!r_2) then (some 20) else (some 0)
theorem k20 (t:StandBook) (r:Int) (h:g20 t=some r):SCall Tryd.prog Gs 20 [.agg [jI t.Kind,jI t.Front,jI t.Back,jI t.Radius,.d (.sl 4 (List.map e36 t.Parts)),jI t.Along,jI t.High,jI t.Lean_,jI t.Limit,.d (.sl 3 (List.map e29 t.Trials))]] [] 0 Fr.emp (jI r) [] 0 Fr.emp:=by
 unfold g20 at h
 refine SCall.mkK Tryd.func20 c20 rfl rfl (by kernel_rfl) (fun Q_0 hR_0 hN_0=>?_)
 refine Sa (sT [pR 1 0] [(0,.var 25 (cv25 t))] 1 0) ?_
 refine AW.srwK (fun Q_1 hQ_1=>?_)
 refine Au 2 (sT [pR 1 0,(10,jI t.Kind)] [(0,.var 25 (cv25 t))] 1 0) ?_
 obtain ⟨r0,hx_2,h⟩:=bsome h
 refine rC (k59 t.Kind 0 1 _ hx_2) ?_
 refine Au 1 (sT [pR 1 0,(12,.d (.bool r0))] [(0,.var 25 (cv25 t))] 1 0) ?_
 obtain ⟨v,hx_3,h⟩:=bsome h
 refine RW.cut fokW 4 ((sT [pR 1 0,(16,.d (.bool v))] [(0,.var 25 (cv25 t))] 1 0)) ?_ ?_
 ·refine r_split 12 rfl (fun hb_5=>?_) (fun hb_5=>?_)
  ·have h:=ifT hb_5 hx_3
   refine aX 2 (sT [pR 1 0,(12,.d (.bool true)),(14,jI t.Front)] [(0,.var 25 (cv25 t))] 1 0) ?_
   obtain ⟨r0_1,hx_4,h⟩:=bsome h
   refine r_call rfl rfl (k59 t.Front 1 60 _ hx_4) rfl rfl ?_
   refine aX 1 (sT [pR 1 0,(16,.d (.bool r0_1))] [(0,.var 25 (cv25 t))] 1 0) ?_
   obtain rfl:=Option.some.inj h
   refine RunC.finJ (Can.kp (by kernel_rfl))
  ·have h:=ifF hb_5 hx_3
   refine aX 4 (sT [pR 1 0,(16,.d (.bool false))] [(0,.var 25 (cv25 t))] 1 0) ?_
   obtain rfl:=Option.some.inj h
   refine RunC.finJ (Can.kp (by kernel_rfl))
 ·refine Au 1 (sT [pR 1 0,(17,.d (.bool v))] [(0,.var 25 (cv25 t))] 1 0) ?_
  obtain ⟨v1,hx_6,h⟩:=bsome h
  refine RW.cut fokW 4 ((sT [pR 1 0,(21,.d (.bool v1))] [(0,.var 25 (cv25 t))] 1 0)) ?_ ?_
  ·refine r_split 17 rfl (fun hb_8=>?_) (fun hb_8=>?_)
   ·have h:=ifT hb_8 hx_6
    refine aX 2 (sT [pR 1 0,(17,.d (.bool true)),(19,jI t.Back)] [(0,.var 25 (cv25 t))] 1 0) ?_
    obtain ⟨r0_2,hx_7,h⟩:=bsome h
    refine r_call rfl rfl (k59 t.Back 1 60 _ hx_7) rfl rfl ?_
    refine aX 1 (sT [pR 1 0,(21,.d (.bool r0_2))] [(0,.var 25 (cv25 t))] 1 0) ?_
    obtain rfl:=Option.some.inj h
    refine RunC.finJ (Can.kp (by kernel_rfl))
   ·have h:=ifF hb_8 hx_6
    refine aX 4 (sT [pR 1 0,(21,.d (.bool false))] [(0,.var 25 (cv25 t))] 1 0) ?_
    obtain rfl:=Option.some.inj h
    refine RunC.finJ (Can.kp (by kernel_rfl))
  ·refine Au 1 (sT [pR 1 0,(3,.d (.bool v1))] [(0,.var 25 (cv25 t))] 1 0) ?_
   refine RW.nil (hQ_1 _ ?_)
   obtain ⟨r_,hx_9,h⟩:=bsome h
   refine AW.jnSK (fun (r_:Bool)=>(sT [pR 1 0,(3,.d (.bool r_))] [(0,.var 25 (cv25 t))] 1 0)) (c:=r_) (fun K_9 hK_9=>?_) ?_
   ·have h:=hx_9
    refine Sa (sT [pR 1 0,(3,.d (.bool v1)),(24,.d (.bool (decide (t.Kind=1))))] [(0,.var 25 (cv25 t))] 1 0) ?_
    refine AW.cond rfl (fun hb_10=>?_) (fun hb_10=>?_)
    ·have h:=ifT hb_10 h
     refine AW.rw ?_
     refine Au 2 (sT [pR 1 0,(26,.d (.bool v1))] [(0,.var 25 (cv25 t))] 1 0) ?_
     obtain ⟨v2,hx_12,h⟩:=bsome h
     refine RW.cut fokW 4 ((sT [pR 1 0,(30,.d (.bool v2))] [(0,.var 25 (cv25 t))] 1 0)) ?_ ?_
     ·refine r_split 26 rfl (fun hb_14=>?_) (fun hb_14=>?_)
      ·have h:=ifT hb_14 hx_12
       refine aX 2 (sT [pR 1 0,(26,.d (.bool true)),(28,jI t.Radius)] [(0,.var 25 (cv25 t))] 1 0) ?_
       obtain ⟨r0_3,hx_13,h⟩:=bsome h
       refine r_call rfl rfl (k59 t.Radius 1 120 _ hx_13) rfl rfl ?_
       refine aX 1 (sT [pR 1 0,(30,.d (.bool r0_3))] [(0,.var 25 (cv25 t))] 1 0) ?_
       obtain rfl:=Option.some.inj h
       refine RunC.finJ (Can.kp (by kernel_rfl))
      ·have h:=ifF hb_14 hx_12
       refine aX 4 (sT [pR 1 0,(30,.d (.bool false))] [(0,.var 25 (cv25 t))] 1 0) ?_
       obtain rfl:=Option.some.inj h
       refine RunC.finJ (Can.kp (by kernel_rfl))
     ·refine Au 1 (sT [pR 1 0,(3,.d (.bool v2))] [(0,.var 25 (cv25 t))] 1 0) ?_
      refine RW.nil ?_
      obtain rfl:=Option.some.inj h
      exact hK_9 _ (Can.kp (by kernel_rfl))
    ·have h:=ifF hb_10 h
     refine AW.ra fokW [32] (sT [pR 1 0,(3,.d (.bool (v1&&(decide (t.Radius=0)))))] [(0,.var 25 (cv25 t))] 1 0) (by kernel_rfl) ?_
     obtain rfl:=Option.some.inj h
     exact hK_9 _ (Can.kp (by kernel_rfl))
   ·refine AW.srwK (fun Q_15 hQ_15=>?_)
    refine Au 2 (sT [pR 1 0,(38,.d (.bool r_))] [(0,.var 25 (cv25 t))] 1 0) ?_
    obtain ⟨v3,hx_16,h⟩:=bsome h
    refine RW.cut fokW 5 ((sT [pR 1 0,(43,.d (.bool v3))] [(0,.var 25 (cv25 t))] 1 0)) ?_ ?_
    ·refine r_split 38 rfl (fun hb_18=>?_) (fun hb_18=>?_)
     ·have h:=ifT hb_18 hx_16
      refine aX 2 (sT [pR 1 0,(38,.d (.bool true)),(40,.d (.sl 4 (List.map e36 t.Parts)))] [(0,.var 25 (cv25 t))] 1 0) ?_
      refine r_lenX rfl rfl lenm ?_
      obtain ⟨r0_4,hx_17,h⟩:=bsome h
      refine r_call rfl rfl (k59 (t.Parts.length:Int) 1 4 _ hx_17) rfl rfl ?_
      refine aX 1 (sT [pR 1 0,(43,.d (.bool r0_4))] [(0,.var 25 (cv25 t))] 1 0) ?_
      obtain rfl:=Option.some.inj h
      refine RunC.finJ (Can.kp (by kernel_rfl))
     ·have h:=ifF hb_18 hx_16
      refine aX 5 (sT [pR 1 0,(43,.d (.bool false))] [(0,.var 25 (cv25 t))] 1 0) ?_
      obtain rfl:=Option.some.inj h
      refine RunC.finJ (Can.kp (by kernel_rfl))
    ·refine Au 1 (sT [pR 1 0,(44,.d (.bool v3))] [(0,.var 25 (cv25 t))] 1 0) ?_
     obtain ⟨v4,hx_19,h⟩:=bsome h
     refine RW.cut fokW 4 ((sT [pR 1 0,(48,.d (.bool v4))] [(0,.var 25 (cv25 t))] 1 0)) ?_ ?_
     ·refine r_split 44 rfl (fun hb_21=>?_) (fun hb_21=>?_)
      ·have h:=ifT hb_21 hx_19
       refine aX 2 (sT [pR 1 0,(44,.d (.bool true)),(46,jI t.Along)] [(0,.var 25 (cv25 t))] 1 0) ?_
       obtain ⟨r0_5,hx_20,h⟩:=bsome h
       refine r_call rfl rfl (k59 t.Along (-60) 60 _ hx_20) rfl rfl ?_
       refine aX 1 (sT [pR 1 0,(48,.d (.bool r0_5))] [(0,.var 25 (cv25 t))] 1 0) ?_
       obtain rfl:=Option.some.inj h
       refine RunC.finJ (Can.kp (by kernel_rfl))
      ·have h:=ifF hb_21 hx_19
       refine aX 4 (sT [pR 1 0,(48,.d (.bool false))] [(0,.var 25 (cv25 t))] 1 0) ?_
       obtain rfl:=Option.some.inj h
       refine RunC.finJ (Can.kp (by kernel_rfl))
     ·refine Au 1 (sT [pR 1 0,(49,.d (.bool v4))] [(0,.var 25 (cv25 t))] 1 0) ?_
      obtain ⟨v5,hx_22,h⟩:=bsome h
      refine RW.cut fokW 4 ((sT [pR 1 0,(53,.d (.bool v5))] [(0,.var 25 (cv25 t))] 1 0)) ?_ ?_
      ·refine r_split 49 rfl (fun hb_24=>?_) (fun hb_24=>?_)
       ·have h:=ifT hb_24 hx_22
        refine aX 2 (sT [pR 1 0,(49,.d (.bool true)),(51,jI t.High)] [(0,.var 25 (cv25 t))] 1 0) ?_
        obtain ⟨r0_6,hx_23,h⟩:=bsome h
        refine r_call rfl rfl (k59 t.High 0 60 _ hx_23) rfl rfl ?_
        refine aX 1 (sT [pR 1 0,(53,.d (.bool r0_6))] [(0,.var 25 (cv25 t))] 1 0) ?_
        obtain rfl:=Option.some.inj h
        refine RunC.finJ (Can.kp (by kernel_rfl))
       ·have h:=ifF hb_24 hx_22
        refine aX 4 (sT [pR 1 0,(53,.d (.bool false))] [(0,.var 25 (cv25 t))] 1 0) ?_
        obtain rfl:=Option.some.inj h
        refine RunC.finJ (Can.kp (by kernel_rfl))
      ·refine Au 1 (sT [pR 1 0,(3,.d (.bool v5))] [(0,.var 25 (cv25 t))] 1 0) ?_
       refine RW.nil (hQ_15 _ ?_)
       refine AW.srwK (fun Q_25 hQ_25=>?_)
       refine Au 2 (sT [pR 1 0,(55,.d (.bool v5))] [(0,.var 25 (cv25 t))] 1 0) ?_
       obtain ⟨v6,hx_26,h⟩:=bsome h
       refine RW.cut fokW 4 ((sT [pR 1 0,(59,.d (.bool v6))] [(0,.var 25 (cv25 t))] 1 0)) ?_ ?_
       ·refine r_split 55 rfl (fun hb_28=>?_) (fun hb_28=>?_)
        ·have h:=ifT hb_28 hx_26
         refine aX 2 (sT [pR 1 0,(55,.d (.bool true)),(57,jI t.Lean_)] [(0,.var 25 (cv25 t))] 1 0) ?_
         obtain ⟨r0_7,hx_27,h⟩:=bsome h
         refine r_call rfl rfl (k59 t.Lean_ 0 12 _ hx_27) rfl rfl ?_
         refine aX 1 (sT [pR 1 0,(59,.d (.bool r0_7))] [(0,.var 25 (cv25 t))] 1 0) ?_
         obtain rfl:=Option.some.inj h
         refine RunC.finJ (Can.kp (by kernel_rfl))
        ·have h:=ifF hb_28 hx_26
         refine aX 4 (sT [pR 1 0,(59,.d (.bool false))] [(0,.var 25 (cv25 t))] 1 0) ?_
         obtain rfl:=Option.some.inj h
         refine RunC.finJ (Can.kp (by kernel_rfl))
       ·refine Au 1 (sT [pR 1 0,(60,.d (.bool v6))] [(0,.var 25 (cv25 t))] 1 0) ?_
        obtain ⟨v7,hx_29,h⟩:=bsome h
        refine RW.cut fokW 4 ((sT [pR 1 0,(64,.d (.bool v7))] [(0,.var 25 (cv25 t))] 1 0)) ?_ ?_
        ·refine r_split 60 rfl (fun hb_31=>?_) (fun hb_31=>?_)
         ·have h:=ifT hb_31 hx_29
          refine aX 2 (sT [pR 1 0,(60,.d (.bool true)),(62,jI t.Limit)] [(0,.var 25 (cv25 t))] 1 0) ?_
          obtain ⟨r0_8,hx_30,h⟩:=bsome h
          refine r_call rfl rfl (k59 t.Limit 1 60 _ hx_30) rfl rfl ?_
          refine aX 1 (sT [pR 1 0,(64,.d (.bool r0_8))] [(0,.var 25 (cv25 t))] 1 0) ?_
          obtain rfl:=Option.some.inj h
          refine RunC.finJ (Can.kp (by kernel_rfl))
         ·have h:=ifF hb_31 hx_29
          refine aX 4 (sT [pR 1 0,(64,.d (.bool false))] [(0,.var 25 (cv25 t))] 1 0) ?_
          obtain rfl:=Option.some.inj h
          refine RunC.finJ (Can.kp (by kernel_rfl))
        ·refine Au 1 (sT [pR 1 0,(65,.d (.bool v7))] [(0,.var 25 (cv25 t))] 1 0) ?_
         obtain ⟨v8,hx_32,h⟩:=bsome h
         refine RW.cut fokW 5 ((sT [pR 1 0,(70,.d (.bool v8))] [(0,.var 25 (cv25 t))] 1 0)) ?_ ?_
         ·refine r_split 65 rfl (fun hb_33=>?_) (fun hb_33=>?_)
          ·have h:=ifT hb_33 hx_32
           refine aX 2 (sT [pR 1 0,(65,.d (.bool true)),(67,.d (.sl 3 (List.map e29 t.Trials)))] [(0,.var 25 (cv25 t))] 1 0) ?_
           refine r_lenX rfl rfl lenm ?_
           refine aX 2 (sT [pR 1 0,(70,.d (.bool (decide ((t.Trials.length:Int)≤5))))] [(0,.var 25 (cv25 t))] 1 0) ?_
           obtain rfl:=Option.some.inj h
           refine RunC.finJ (Can.kp (by kernel_rfl))
          ·have h:=ifF hb_33 hx_32
           refine aX 5 (sT [pR 1 0,(70,.d (.bool false))] [(0,.var 25 (cv25 t))] 1 0) ?_
           obtain rfl:=Option.some.inj h
           refine RunC.finJ (Can.kp (by kernel_rfl))
         ·refine Au 1 (sT [pR 1 0,(3,.d (.bool v8))] [(0,.var 25 (cv25 t))] 1 0) ?_
          refine RW.nil (hQ_25 _ ?_)
          refine AW.seqK fun K_34 hK_34=>AW.srwK fun Q_35 hQ_35=>?_
          refine Au 2 (sT [pR 1 0,(3,.d (.bool v8)),(72,.d (.sl 4 (List.map e36 t.Parts)))] [(0,.var 25 (cv25 t))] 1 0) ?_
          refine rL rfl ?_
          refine Au 1 (sT [pR 1 0,(3,.d (.bool v8)),(72,.d (.sl 4 (List.map e36 t.Parts))),(73,jI (t.Parts.length:Int)),(74,jI 0)] [(0,.var 25 (cv25 t))] 1 0) ?_
          refine RW.nil (hQ_35 _ ?_)
          refine AW.block ?_
          refine AW.sln (t:=72) rfl (fun hN_36=>?_)
          rw [List.length_map] at hN_36
          obtain ⟨out_36,hx_36,h⟩:=bsome h
          refine AW.evSK (fun (v9:Int) (r_1:Bool)=>(sT [pR 1 0,(3,.d (.bool r_1)),(72,.d (.sl 4 (List.map e36 t.Parts))),(73,jI (t.Parts.length:Int)),(74,jI v9)] [(0,.var 25 (cv25 t))] 1 0)) g20_36 hx_36 (Can.kp (by kernel_rfl)) (fun v9 p r_1 hi_36 hl_36 hp_36 c_36 h K_36 hK_36=>?_) (fun v9 r_1 hi_36 hl_36 hout=>?_)
          ·unfold g20_36 at h
           refine Sa (sT [pR 1 0,(3,.d (.bool r_1)),(72,.d (.sl 4 (List.map e36 t.Parts))),(73,jI (t.Parts.length:Int)),(74,jI v9),(75,.d (.bool (decide (v9<(t.Parts.length:Int)))))] [(0,.var 25 (cv25 t))] 1 0) ?_
           refine AW.seqK (fun K_37 hK_37=>?_)
           refine AW.cond rfl (fun hb_38=>?_) (fun hb_38=>False.elim (by have:=of_decide_eq_false hb_38;omega))
           refine AW.skip (hK_37 _ ?_)
           refine AW.seqK (fun K_39 hK_39=>?_)
           refine AW.block ?_
           refine AW.srwK (fun Q_40 hQ_40=>?_)
           refine RW.one fokW (r_iaD trivial rfl rfl hi_36 (row:=e36 p) (mapget hp_36) (r_end ?_))
           refine Au 3 (sT [pR 1 0,(3,.d (.bool r_1)),pR 5 1,(72,.d (.sl 4 (List.map e36 t.Parts))),(73,jI (t.Parts.length:Int)),(74,jI v9)] [(1,.var 36 (cv36 p)),(0,.var 25 (cv25 t))] 2 0) ?_
           refine RW.nil (hQ_40 _ ?_)
           refine Sa (sT [pR 1 0,(3,.d (.bool r_1)),pR 5 1,pR 6 2,(72,.d (.sl 4 (List.map e36 t.Parts))),(73,jI (t.Parts.length:Int)),(74,jI v9)] [(2,.var 33 [jI p.Weight.Low,jI p.Weight.High]),(1,.var 36 (cv36 p)),(0,.var 25 (cv25 t))] 3 0) ?_
           refine AW.srwK (fun Q_41 hQ_41=>?_)
           refine Au 2 (sT [pR 1 0,pR 5 1,pR 6 2,(72,.d (.sl 4 (List.map e36 t.Parts))),(73,jI (t.Parts.length:Int)),(74,jI v9),(81,.d (.bool r_1))] [(2,.var 33 [jI p.Weight.Low,jI p.Weight.High]),(1,.var 36 (cv36 p)),(0,.var 25 (cv25 t))] 3 0) ?_
           obtain ⟨v10,hx_42,h⟩:=bsome h
           refine RW.cut fokW 6 ((sT [pR 1 0,pR 5 1,pR 6 2,(72,.d (.sl 4 (List.map e36 t.Parts))),(73,jI (t.Parts.length:Int)),(74,jI v9),(87,.d (.bool v10))] [(2,.var 33 [jI p.Weight.Low,jI p.Weight.High]),(1,.var 36 (cv36 p)),(0,.var 25 (cv25 t))] 3 0)) ?_ ?_
           ·refine r_split 81 rfl (fun hb_44=>?_) (fun hb_44=>?_)
            ·have h:=ifT hb_44 hx_42
             refine aX 4 (sT [pR 1 0,pR 5 1,pR 6 2,(72,.d (.sl 4 (List.map e36 t.Parts))),(73,jI (t.Parts.length:Int)),(74,jI v9),(81,.d (.bool true)),(83,jI p.Weight.Low),(85,jI p.Weight.High)] [(2,.var 33 [jI p.Weight.Low,jI p.Weight.High]),(1,.var 36 (cv36 p)),(0,.var 25 (cv25 t))] 3 0) ?_
             obtain ⟨r0_9,hx_43,h⟩:=bsome h
             refine r_call rfl rfl (k59 p.Weight.Low 1 p.Weight.High _ hx_43) rfl rfl ?_
             refine aX 1 (sT [pR 1 0,pR 5 1,pR 6 2,(72,.d (.sl 4 (List.map e36 t.Parts))),(73,jI (t.Parts.length:Int)),(74,jI v9),(87,.d (.bool r0_9))] [(2,.var 33 [jI p.Weight.Low,jI p.Weight.High]),(1,.var 36 (cv36 p)),(0,.var 25 (cv25 t))] 3 0) ?_
             obtain rfl:=Option.some.inj h
             refine RunC.finJ (Can.kp (by kernel_rfl))
            ·have h:=ifF hb_44 hx_42
             refine aX 6 (sT [pR 1 0,pR 5 1,pR 6 2,(72,.d (.sl 4 (List.map e36 t.Parts))),(73,jI (t.Parts.length:Int)),(74,jI v9),(87,.d (.bool false))] [(2,.var 33 [jI p.Weight.Low,jI p.Weight.High]),(1,.var 36 (cv36 p)),(0,.var 25 (cv25 t))] 3 0) ?_
             obtain rfl:=Option.some.inj h
             refine RunC.finJ (Can.kp (by kernel_rfl))
           ·refine RW.au fokW 14 [88,93] (sT [pR 1 0,(3,.d (.bool ((v10&&(decide (p.Weight.High≤99)))&&(decide ((wr (p.Weight.High - p.Weight.Low))≤4))))),pR 5 1,(72,.d (.sl 4 (List.map e36 t.Parts))),(73,jI (t.Parts.length:Int)),(74,jI v9)] [(1,.var 36 (cv36 p)),(0,.var 25 (cv25 t))] 3 0) (by kernel_rfl) ?_
            refine RW.nil (hQ_41 _ ?_)
            refine AW.rw ?_
            refine Au 2 (sT [pR 1 0,pR 5 1,(72,.d (.sl 4 (List.map e36 t.Parts))),(73,jI (t.Parts.length:Int)),(74,jI v9),(102,.d (.bool ((v10&&(decide (p.Weight.High≤99)))&&(decide ((wr (p.Weight.High - p.Weight.Low))≤4)))))] [(1,.var 36 (cv36 p)),(0,.var 25 (cv25 t))] 3 0) ?_
            obtain ⟨v11,hx_46,h⟩:=bsome h
            refine RW.cut fokW 4 ((sT [pR 1 0,pR 5 1,(72,.d (.sl 4 (List.map e36 t.Parts))),(73,jI (t.Parts.length:Int)),(74,jI v9),(106,.d (.bool v11))] [(1,.var 36 (cv36 p)),(0,.var 25 (cv25 t))] 3 0)) ?_ ?_
            ·refine r_split 102 rfl (fun hb_48=>?_) (fun hb_48=>?_)
             ·have h:=ifT hb_48 hx_46
              refine aX 2 (sT [pR 1 0,pR 5 1,(72,.d (.sl 4 (List.map e36 t.Parts))),(73,jI (t.Parts.length:Int)),(74,jI v9),(102,.d (.bool true)),(104,jI p.Along)] [(1,.var 36 (cv36 p)),(0,.var 25 (cv25 t))] 3 0) ?_
              obtain ⟨r0_10,hx_47,h⟩:=bsome h
              refine r_call rfl rfl (k59 p.Along (-60) 60 _ hx_47) rfl rfl ?_
              refine aX 1 (sT [pR 1 0,pR 5 1,(72,.d (.sl 4 (List.map e36 t.Parts))),(73,jI (t.Parts.length:Int)),(74,jI v9),(106,.d (.bool r0_10))] [(1,.var 36 (cv36 p)),(0,.var 25 (cv25 t))] 3 0) ?_
              obtain rfl:=Option.some.inj h
              refine RunC.finJ (Can.kp (by kernel_rfl))
             ·have h:=ifF hb_48 hx_46
              refine aX 4 (sT [pR 1 0,pR 5 1,(72,.d (.sl 4 (List.map e36 t.Parts))),(73,jI (t.Parts.length:Int)),(74,jI v9),(106,.d (.bool false))] [(1,.var 36 (cv36 p)),(0,.var 25 (cv25 t))] 3 0) ?_
              obtain rfl:=Option.some.inj h
              refine RunC.finJ (Can.kp (by kernel_rfl))
            ·refine Au 1 (sT [pR 1 0,pR 5 1,(72,.d (.sl 4 (List.map e36 t.Parts))),(73,jI (t.Parts.length:Int)),(74,jI v9),(107,.d (.bool v11))] [(1,.var 36 (cv36 p)),(0,.var 25 (cv25 t))] 3 0) ?_
             obtain ⟨v12,hx_49,h⟩:=bsome h
             refine RW.cut fokW 4 ((sT [pR 1 0,(72,.d (.sl 4 (List.map e36 t.Parts))),(73,jI (t.Parts.length:Int)),(74,jI v9),(111,.d (.bool v12))] [(0,.var 25 (cv25 t))] 3 0)) ?_ ?_
             ·refine r_split 107 rfl (fun hb_51=>?_) (fun hb_51=>?_)
              ·have h:=ifT hb_51 hx_49
               refine aX 2 (sT [pR 1 0,(72,.d (.sl 4 (List.map e36 t.Parts))),(73,jI (t.Parts.length:Int)),(74,jI v9),(107,.d (.bool true)),(109,jI p.High)] [(1,.var 36 (cv36 p)),(0,.var 25 (cv25 t))] 3 0) ?_
               obtain ⟨r0_11,hx_50,h⟩:=bsome h
               refine r_call rfl rfl (k59 p.High 0 60 _ hx_50) rfl rfl ?_
               refine aX 1 (sT [pR 1 0,(72,.d (.sl 4 (List.map e36 t.Parts))),(73,jI (t.Parts.length:Int)),(74,jI v9),(111,.d (.bool r0_11))] [(1,.var 36 (cv36 p)),(0,.var 25 (cv25 t))] 3 0) ?_
               obtain rfl:=Option.some.inj h
               refine RunC.finJ (Can.kp (by kernel_rfl))
              ·have h:=ifF hb_51 hx_49
               refine aX 4 (sT [pR 1 0,(72,.d (.sl 4 (List.map e36 t.Parts))),(73,jI (t.Parts.length:Int)),(74,jI v9),(111,.d (.bool false))] [(1,.var 36 (cv36 p)),(0,.var 25 (cv25 t))] 3 0) ?_
               obtain rfl:=Option.some.inj h
               refine RunC.finJ (Can.kp (by kernel_rfl))
             ·refine Au 1 (sT [pR 1 0,(3,.d (.bool v12)),(72,.d (.sl 4 (List.map e36 t.Parts))),(73,jI (t.Parts.length:Int)),(74,jI v9)] [(0,.var 25 (cv25 t))] 3 0) ?_
              refine RW.nil ?_
              refine hK_39 _ ?_
              refine Ra (sT [pR 1 0,(3,.d (.bool v12)),(72,.d (.sl 4 (List.map e36 t.Parts))),(73,jI (t.Parts.length:Int)),(74,jI (wr (v9+1)))] [(0,.var 25 (cv25 t))] 3 0) ?_
              obtain rfl:=Option.some.inj h
              have ew:wr (v9+1)=v9+1:=inext (N:=(t.Parts.length:Int)) (by omega) (by omega) (by omega)
              rw [ew]
              exact hK_36 _ (Can.kp (by kernel_rfl))
          ·subst hout
           refine Sa (sT [pR 1 0,(3,.d (.bool r_1)),(72,.d (.sl 4 (List.map e36 t.Parts))),(73,jI (t.Parts.length:Int)),(74,jI v9),(75,.d (.bool (decide (v9<(t.Parts.length:Int)))))] [(0,.var 25 (cv25 t))] 1 0) ?_
           refine AW.seqK (fun K_52 hK_52=>?_)
           refine AW.cond rfl (fun hb_53=>False.elim (by have:=of_decide_eq_true hb_53;omega)) (fun hb_53=>?_)
           refine AW.exit ?_
           refine hK_34 _ ?_
           refine AW.seqK fun K_54 hK_54=>AW.srwK fun Q_55 hQ_55=>?_
           refine Au 2 (sT [pR 1 0,(3,.d (.bool r_1)),(114,.d (.sl 3 (List.map e29 t.Trials)))] [(0,.var 25 (cv25 t))] 1 0) ?_
           refine rL rfl ?_
           refine Au 1 (sT [pR 1 0,(3,.d (.bool r_1)),(114,.d (.sl 3 (List.map e29 t.Trials))),(115,jI (t.Trials.length:Int)),(116,jI 0)] [(0,.var 25 (cv25 t))] 1 0) ?_
           refine RW.nil (hQ_55 _ ?_)
           refine AW.block ?_
           refine AW.sln (t:=114) rfl (fun hN_56=>?_)
           rw [List.length_map] at hN_56
           obtain ⟨out_56,hx_56,h⟩:=bsome h
           refine AW.evSK (fun (v13:Int) (r_2:Bool)=>(sT [pR 1 0,(3,.d (.bool r_2)),(114,.d (.sl 3 (List.map e29 t.Trials))),(115,jI (t.Trials.length:Int)),(116,jI v13)] [(0,.var 25 (cv25 t))] 1 0)) (g20_56 t) hx_56 (Can.kp (by kernel_rfl)) (fun v13 p1 r_2 hi_56 hl_56 hp_56 c_56 h K_56 hK_56=>?_) (fun v13 r_2 hi_56 hl_56 hout=>?_)
           ·unfold g20_56 at h
            refine Sa (sT [pR 1 0,(3,.d (.bool r_2)),(114,.d (.sl 3 (List.map e29 t.Trials))),(115,jI (t.Trials.length:Int)),(116,jI v13),(117,.d (.bool (decide (v13<(t.Trials.length:Int)))))] [(0,.var 25 (cv25 t))] 1 0) ?_
            refine AW.seqK (fun K_57 hK_57=>?_)
            refine AW.cond rfl (fun hb_58=>?_) (fun hb_58=>False.elim (by have:=of_decide_eq_false hb_58;omega))
            refine AW.skip (hK_57 _ ?_)
            refine AW.seqK (fun K_59 hK_59=>?_)
            refine AW.block ?_
            refine AW.srwK (fun Q_60 hQ_60=>?_)
            refine RW.one fokW (r_iaD trivial rfl rfl hi_56 (row:=e29 p1) (mapget hp_56) (r_end ?_))
            refine Au 3 (sT [pR 1 0,(3,.d (.bool r_2)),pR 8 1,(114,.d (.sl 3 (List.map e29 t.Trials))),(115,jI (t.Trials.length:Int)),(116,jI v13)] [(1,.var 29 [jI p1.Weight,jI p1.Lean_,.d (.bool p1.Tipped)]),(0,.var 25 (cv25 t))] 2 0) ?_
            refine RW.nil (hQ_60 _ ?_)
            refine AW.rw ?_
            refine Au 2 (sT [pR 1 0,pR 8 1,(114,.d (.sl 3 (List.map e29 t.Trials))),(115,jI (t.Trials.length:Int)),(116,jI v13),(121,.d (.bool r_2))] [(1,.var 29 [jI p1.Weight,jI p1.Lean_,.d (.bool p1.Tipped)]),(0,.var 25 (cv25 t))] 2 0) ?_
            obtain ⟨v14,hx_62,h⟩:=bsome h
            refine RW.cut fokW 6 ((sT [pR 1 0,pR 8 1,(114,.d (.sl 3 (List.map e29 t.Trials))),(115,jI (t.Trials.length:Int)),(116,jI v13),(127,.d (.bool v14))] [(1,.var 29 [jI p1.Weight,jI p1.Lean_,.d (.bool p1.Tipped)]),(0,.var 25 (cv25 t))] 2 0)) ?_ ?_
            ·refine r_split 121 rfl (fun hb_64=>?_) (fun hb_64=>?_)
             ·have h:=ifT hb_64 hx_62
              refine aX 4 (sT [pR 1 0,pR 8 1,(114,.d (.sl 3 (List.map e29 t.Trials))),(115,jI (t.Trials.length:Int)),(116,jI v13),(121,.d (.bool true)),(123,jI p1.Weight),(125,jI t.Limit)] [(1,.var 29 [jI p1.Weight,jI p1.Lean_,.d (.bool p1.Tipped)]),(0,.var 25 (cv25 t))] 2 0) ?_
              obtain ⟨r0_12,hx_63,h⟩:=bsome h
              refine r_call rfl rfl (k59 p1.Weight 1 t.Limit _ hx_63) rfl rfl ?_
              refine aX 1 (sT [pR 1 0,pR 8 1,(114,.d (.sl 3 (List.map e29 t.Trials))),(115,jI (t.Trials.length:Int)),(116,jI v13),(127,.d (.bool r0_12))] [(1,.var 29 [jI p1.Weight,jI p1.Lean_,.d (.bool p1.Tipped)]),(0,.var 25 (cv25 t))] 2 0) ?_
              obtain rfl:=Option.some.inj h
              refine RunC.finJ (Can.kp (by kernel_rfl))
             ·have h:=ifF hb_64 hx_62
              refine aX 6 (sT [pR 1 0,pR 8 1,(114,.d (.sl 3 (List.map e29 t.Trials))),(115,jI (t.Trials.length:Int)),(116,jI v13),(127,.d (.bool false))] [(1,.var 29 [jI p1.Weight,jI p1.Lean_,.d (.bool p1.Tipped)]),(0,.var 25 (cv25 t))] 2 0) ?_
              obtain rfl:=Option.some.inj h
              refine RunC.finJ (Can.kp (by kernel_rfl))
            ·refine Au 1 (sT [pR 1 0,pR 8 1,(114,.d (.sl 3 (List.map e29 t.Trials))),(115,jI (t.Trials.length:Int)),(116,jI v13),(128,.d (.bool v14))] [(1,.var 29 [jI p1.Weight,jI p1.Lean_,.d (.bool p1.Tipped)]),(0,.var 25 (cv25 t))] 2 0) ?_
             obtain ⟨v15,hx_65,h⟩:=bsome h
             refine RW.cut fokW 9 ((sT [pR 1 0,(114,.d (.sl 3 (List.map e29 t.Trials))),(115,jI (t.Trials.length:Int)),(116,jI v13),(137,.d (.bool v15))] [(0,.var 25 (cv25 t))] 2 0)) ?_ ?_
             ·refine r_split 128 rfl (fun hb_67=>?_) (fun hb_67=>?_)
              ·have h:=ifT hb_67 hx_65
               refine aX 7 (sT [pR 1 0,(114,.d (.sl 3 (List.map e29 t.Trials))),(115,jI (t.Trials.length:Int)),(116,jI v13),(128,.d (.bool true)),(130,jI p1.Lean_),(133,jI (wr (-t.Lean_))),(135,jI t.Lean_)] [(1,.var 29 [jI p1.Weight,jI p1.Lean_,.d (.bool p1.Tipped)]),(0,.var 25 (cv25 t))] 2 0) ?_
               obtain ⟨r0_13,hx_66,h⟩:=bsome h
               refine r_call rfl rfl (k59 p1.Lean_ (wr (-t.Lean_)) t.Lean_ _ hx_66) rfl rfl ?_
               refine aX 1 (sT [pR 1 0,(114,.d (.sl 3 (List.map e29 t.Trials))),(115,jI (t.Trials.length:Int)),(116,jI v13),(137,.d (.bool r0_13))] [(1,.var 29 [jI p1.Weight,jI p1.Lean_,.d (.bool p1.Tipped)]),(0,.var 25 (cv25 t))] 2 0) ?_
               obtain rfl:=Option.some.inj h
               refine RunC.finJ (Can.kp (by kernel_rfl))
              ·have h:=ifF hb_67 hx_65
               refine aX 9 (sT [pR 1 0,(114,.d (.sl 3 (List.map e29 t.Trials))),(115,jI (t.Trials.length:Int)),(116,jI v13),(137,.d (.bool false))] [(1,.var 29 [jI p1.Weight,jI p1.Lean_,.d (.bool p1.Tipped)]),(0,.var 25 (cv25 t))] 2 0) ?_
               obtain rfl:=Option.some.inj h
               refine RunC.finJ (Can.kp (by kernel_rfl))
             ·refine Au 1 (sT [pR 1 0,(3,.d (.bool v15)),(114,.d (.sl 3 (List.map e29 t.Trials))),(115,jI (t.Trials.length:Int)),(116,jI v13)] [(0,.var 25 (cv25 t))] 2 0) ?_
              refine RW.nil ?_
              refine hK_59 _ ?_
              refine Ra (sT [pR 1 0,(3,.d (.bool v15)),(114,.d (.sl 3 (List.map e29 t.Trials))),(115,jI (t.Trials.length:Int)),(116,jI (wr (v13+1)))] [(0,.var 25 (cv25 t))] 2 0) ?_
              obtain rfl:=Option.some.inj h
              have ew:wr (v13+1)=v13+1:=inext (N:=(t.Trials.length:Int)) (by omega) (by omega) (by omega)
              rw [ew]
              exact hK_56 _ (Can.kp (by kernel_rfl))
           ·subst hout
            refine Sa (sT [pR 1 0,(3,.d (.bool r_2)),(114,.d (.sl 3 (List.map e29 t.Trials))),(115,jI (t.Trials.length:Int)),(116,jI v13),(117,.d (.bool (decide (v13<(t.Trials.length:Int)))))] [(0,.var 25 (cv25 t))] 1 0) ?_
            refine AW.seqK (fun K_68 hK_68=>?_)
            refine AW.cond rfl (fun hb_69=>False.elim (by have:=of_decide_eq_true hb_69;omega)) (fun hb_69=>?_)
            refine AW.exit ?_
            refine hK_54 _ ?_
            refine AW.seqK (fun K_70 hK_70=>?_)
            refine Sa (sT [(140,.d (.bool (!r_2)))] [] 1 0) ?_
            refine AW.cond rfl (fun hb_71=>?_) (fun hb_71=>?_)
            ·have h:=ifT hb_71 h
             refine Sa (sT [(2,jI 20)] [] 1 0) ?_
             obtain rfl:=Option.some.inj h
             exact rT hR_0 (.cons (.tmp rfl) .nil)
            ·have h:=ifF hb_71 h
             refine AW.skip (hK_70 _ ?_)
             refine Sa (sT [(2,jI 0)] [] 1 0) ?_
             obtain rfl:=Option.some.inj h
             exact rT hR_0 (.cons (.tmp rfl) .nil)
def g63 (bB:StandBook) (bT:(List (Nat→Int))) (bL:Stand_load):Option (StandBook×(List (Nat→Int))×Stand_load):=some (bB,bT,bL)
theorem k63 (bB:StandBook) (bT:(List (Nat→Int))) (bL:Stand_load) (r:StandBook×(List (Nat→Int))×Stand_load) (h:g63 bB bT bL=some r):SCall Tryd.prog Gs 63 [.agg [jI bB.Kind,jI bB.Front,jI bB.Back,jI bB.Radius,.d (.sl 4 (List.map e36 bB.Parts)),jI bB.Along,jI bB.High,jI bB.Lean_,jI bB.Limit,.d (.sl 3 (List.map e29 bB.Trials)),.d (.sl 4 (List.map e103 bT)),jI bL.weight,jI bL.along,jI bL.high,.opq]] [] 0 Fr.emp (match r with | (o0B,o0T,o0L)=>.clo 111 [] [.ptr 0 0]) (match r with | (o0B,o0T,o0L)=>[(0,.var 96 (catV (cv25 o0B) [.d (.sl 4 (List.map e103 o0T)),jI o0L.weight,jI o0L.along,jI o0L.high,.opq]))]) 1 Fr.emp:=by
 unfold g63 at h
 refine SCall.mkK Tryd.func63 c63 rfl rfl (by kernel_rfl) (fun Q_0 hR_0 hN_0=>?_)
 refine Sa (sT [pR 1 0] [(0,.var 96 (catV (cv25 bB) [.d (.sl 4 (List.map e103 bT)),jI bL.weight,jI bL.along,jI bL.high,.opq]))] 1 0) ?_
 refine Sa (sT [(2,.clo 111 [] [.ptr 0 0])] [(0,.var 96 (catV (cv25 bB) [.d (.sl 4 (List.map e103 bT)),jI bL.weight,jI bL.along,jI bL.high,.opq]))] 1 0) ?_
 obtain rfl:=Option.some.inj h
 exact rT hR_0 (.cons (.tmp rfl) .nil)
def g113 :Option (Nat→Int):=some (arrL [0,0,0,0])
theorem k113  (r:(Nat→Int)) (h:g113=some r):SCall Tryd.prog Gs 113 [] [] 0 Fr.emp (.agg [jI (r 0),jI (r 1),jI (r 2),jI (r 3)]) [] 0 Fr.emp:=by
 unfold g113 at h
 refine SCall.mkK Tryd.func113 c113 rfl rfl (by kernel_rfl) (fun Q_0 hR_0 hN_0=>?_)
 refine Sa (sT [pR 0 0] [(0,.var 103 [jI 0,jI 0,jI 0,jI 0])] 1 0) ?_
 refine Sa (sT [pR 0 0,pR 1 1] [(1,.var 103 [jI 0,jI 0,jI 0,jI 0]),(0,.var 103 [jI 0,jI 0,jI 0,jI 0])] 2 0) ?_
 refine Sa (sT [pR 0 0] [(0,.var 103 [jI 0,jI 0,jI 0,jI 0])] 2 0) ?_
 obtain rfl:=Option.some.inj h
 exact rT hR_0 (.cons (.agg rfl rfl (Nat.le_of_ble_eq_true rfl)) .nil)
def g112_12 {S_:Type} (rec_:(Nat→Int)→Int→StandBook→(List (Nat→Int))→Stand_load→S_→Option (Bool×S_)) (part:Int) (o0B:StandBook) (o0T:(List (Nat→Int))) (o0L:Stand_load) (p:StandPart):Int→(S_×(Nat→Int))→Option (Ctl (S_×(Nat→Int)) (Ctl (S_) (Ctl (S_) (Bool×S_)))):=fun v (s_4,w1)=>(ixN 4 part).bind fun j=>(rec_ (aset w1 j (wr (p.Weight.Low+v))) (wr (part+1)) o0B o0T o0L s_4).bind fun (r0_5_1,s_8_1)=>bif (!r0_5_1) then (some (.brk (.brk (.brk (false,s_8_1))))) else (some (.next (s_8_1,(aset w1 j (wr (p.Weight.Low+v))))))
def g112 {S_:Type} (c_:(Nat→Int)→S_→Option (S_×Bool)):Nat→(Nat→Int)→Int→StandBook→(List (Nat→Int))→Stand_load→S_→Option (Bool×S_)
 | 0,_,_,_,_,_,_=>none
 | n_+1,w,part,o0B,o0T,o0L,s_=>bif (decide (part=(o0B.Parts.length:Int))) then ((g113).bind fun r0=>bif (false != (((w 0)==(r0 0))&&(((w 1)==(r0 1))&&(((w 2)==(r0 2))&&(((w 3)==(r0 3))&&true))))) then (some (true,s_)) else ((c_ w s_).bind fun (s_1,go)=>some (go,s_1))) else ((ixL o0B.Parts part).bind fun p=>bindC (bindC (bindC (forC (g112_12 (g112 c_ n_) part o0B o0T o0L p) ((((wr ((wr (p.Weight.High - p.Weight.Low))+1)):Int) - 0).toNat) 0 (s_,w)) fun (s_4,w1)=>some (.next s_4):Option (Ctl (S_) (Ctl (S_) (Bool×S_)))) fun s_3=>some (.next s_3):Option (Ctl (S_) (Bool×S_))) fun s_2=>some (true,s_2))
def y3 (w:(Nat→Int)) (o0B:StandBook) (o0T:(List (Nat→Int))) (o0L:Stand_load):List (Nat×Blk):=[(3,.var 103 [jI (w 0),jI (w 1),jI (w 2),jI (w 3)]),(0,.var 96 (catV (cv25 o0B) [.d (.sl 4 (List.map e103 o0T)),jI o0L.weight,jI o0L.along,jI o0L.high,.opq])),(1,.var 177 [.yld]),(2,.var 178 [.clo 112 [] [.ptr 0 0,.ptr 1 0,.ptr 2 0]])]
def y4 (o0B:StandBook) (o0T:(List (Nat→Int))) (o0L:Stand_load):List (Nat×Blk):=[(0,.var 96 (catV (cv25 o0B) [.d (.sl 4 (List.map e103 o0T)),jI o0L.weight,jI o0L.along,jI o0L.high,.opq])),(1,.var 177 [.yld]),(2,.var 178 [.clo 112 [] [.ptr 0 0,.ptr 1 0,.ptr 2 0]])]
theorem k112 {S_:Type} (fr_:S_→Fr) (c_:(Nat→Int)→S_→Option (S_×Bool)) (hc_:∀ (a0:(Nat→Int)) s s2 b,c_ a0 s=some (s2,b)→YCall Tryd.prog Gs (fr_ s) [.agg [jI (a0 0),jI (a0 1),jI (a0 2),jI (a0 3)]] (.d (.bool b)) (fr_ s2)):∀ (n_:Nat) (w:(Nat→Int)) (part:Int) (o0B:StandBook) (o0T:(List (Nat→Int))) (o0L:Stand_load) (s_:S_) (r:Bool×S_) (h:g112 c_ n_ w part o0B o0T o0L s_=some r),SCall Tryd.prog Gs 112 [.agg [jI (w 0),jI (w 1),jI (w 2),jI (w 3)],jI part,.ptr 0 0,.ptr 1 0,.ptr 2 0] [(0,.var 96 (catV (cv25 o0B) [.d (.sl 4 (List.map e103 o0T)),jI o0L.weight,jI o0L.along,jI o0L.high,.opq])),(1,.var 177 [.yld]),(2,.var 178 [.clo 112 [] [.ptr 0 0,.ptr 1 0,.ptr 2 0]])] 3 (fr_ s_) (match r with | (r0_5,s_8)=>.d (.bool r0_5)) (match r with | (r0_5,s_8)=>[(0,.var 96 (catV (cv25 o0B) [.d (.sl 4 (List.map e103 o0T)),jI o0L.weight,jI o0L.along,jI o0L.high,.opq])),(1,.var 177 [.yld]),(2,.var 178 [.clo 112 [] [.ptr 0 0,.ptr 1 0,.ptr 2 0]])]) 3 (fr_ (match r with | (r0_5,s_8)=>s_8)):=by
 intro n_
 induction n_ with
 | zero=>intro w part o0B o0T o0L s_ r h;cases h
 | succ n_ ih=>
  intro w part o0B o0T o0L s_ r h
  rw [g112] at h
  refine SCall.mkK Tryd.func112 c112 rfl rfl (by kernel_rfl) (fun Q_0 hR_0 hN_0=>?_)
  refine Sa ⟨[(1,jI part),pR 2 0,pR 3 1,pR 4 2,pR 5 3],(y3 w o0B o0T o0L),4,(fr_ s_),[],3⟩ ?_
  refine AW.seqK fun K_1 hK_1=>AW.srwK fun Q_2 hQ_2=>?_
  refine Au 4 ⟨[(1,jI part),pR 2 0,pR 3 1,pR 4 2,pR 5 3,(10,jI part),(13,.d (.sl 4 (List.map e36 o0B.Parts)))],(y3 w o0B o0T o0L),4,(fr_ s_),[],3⟩ ?_
  refine rL rfl ?_
  refine Au 1 ⟨[(1,jI part),pR 2 0,pR 3 1,pR 4 2,pR 5 3,(15,.d (.bool (decide (part=(o0B.Parts.length:Int)))))],(y3 w o0B o0T o0L),4,(fr_ s_),[],3⟩ ?_
  refine RW.nil (hQ_2 _ ?_)
  refine AW.cond rfl (fun hb_3=>?_) (fun hb_3=>?_)
  ·have h:=ifT hb_3 h
   refine AW.sdrwK fokW (fun Q_4 hQ_4=>?_)
   refine aX 1 ⟨[pR 3 1,pR 5 3,(16,.agg [jI (w 0),jI (w 1),jI (w 2),jI (w 3)])],(y3 w o0B o0T o0L),4,(fr_ s_),[],3⟩ ?_
   obtain ⟨r0,hx_5,h⟩:=bsome h
   refine r_call trivial rfl (k113 _ hx_5) rfl rfl ?_
   refine r_aeq trivial rfl rfl rfl rfl ft103 rfl rfl rfl ?_
   refine aX 1 ⟨[pR 3 1,pR 5 3,(19,.d (.bool (false != (((w 0)==(r0 0))&&(((w 1)==(r0 1))&&(((w 2)==(r0 2))&&(((w 3)==(r0 3))&&true)))))))],(y3 w o0B o0T o0L),4,(fr_ s_),[],3⟩ ?_
   refine r_split 19 rfl (fun hb_6=>?_) (fun hb_6=>?_)
   ·have h:=ifT hb_6 h
    refine aX 5 ⟨[(7,.d (.bool true))],(y3 w o0B o0T o0L),4,(fr_ s_),[],3⟩ ?_
    refine Fi ⟨[(7,.d (.bool true))],(y4 o0B o0T o0L),4,(fr_ s_),[],3⟩ ?_
    refine hQ_4 _ ?_
    obtain rfl:=Option.some.inj h
    exact rT hR_0 (.cons (.tmp rfl) .nil)
   ·have h:=ifF hb_6 h
    refine aX 2 ⟨[(19,.d (.bool false)),(20,.yld),(21,.agg [jI (w 0),jI (w 1),jI (w 2),jI (w 3)])],(y3 w o0B o0T o0L),4,(fr_ s_),[],3⟩ ?_
    obtain ⟨⟨s_1,go⟩,hx_7,h⟩:=bsome h
    refine r_yield (zr:=[]) rfl rfl rfl (hc_ w _ _ _ hx_7) trivial ⟨.refl _,trivial⟩ rfl rfl rfl rfl ?_
    refine aX 2 ⟨[(7,.d (.bool go))],(y3 w o0B o0T o0L),4,(fr_ s_1),[],3⟩ ?_
    refine Fi ⟨[(7,.d (.bool go))],(y4 o0B o0T o0L),4,(fr_ s_1),[],3⟩ ?_
    refine hQ_4 _ ?_
    obtain rfl:=Option.some.inj h
    exact rT hR_0 (.cons (.tmp rfl) .nil)
  ·have h:=ifF hb_3 h
   refine AW.skip (hK_1 _ ?_)
   refine AW.srwK (fun Q_8 hQ_8=>?_)
   refine Au 4 ⟨[(1,jI part),pR 4 2,pR 5 3,(26,.d (.sl 4 (List.map e36 o0B.Parts))),(27,jI part)],(y3 w o0B o0T o0L),4,(fr_ s_),[],3⟩ ?_
   obtain ⟨p,hv_9,h⟩:=bsome h
   refine RW.one fokW (r_iaD trivial rfl rfl (ixL_ok hv_9).1 (row:=e36 p) (mapget (ixL_ok hv_9).2) (r_end ?_))
   refine Au 4 ⟨[(1,jI part),pR 4 2,pR 5 3,pR 8 4],[(4,.var 33 [jI p.Weight.Low,jI p.Weight.High]),(3,.var 103 [jI (w 0),jI (w 1),jI (w 2),jI (w 3)]),(0,.var 96 (catV (cv25 o0B) [.d (.sl 4 (List.map e103 o0T)),jI o0L.weight,jI o0L.along,jI o0L.high,.opq])),(1,.var 177 [.yld]),(2,.var 178 [.clo 112 [] [.ptr 0 0,.ptr 1 0,.ptr 2 0]])],5,(fr_ s_),[],3⟩ ?_
   refine RW.nil (hQ_8 _ ?_)
   obtain ⟨c_10,hx_10,hk_10⟩:=bsomeC h
   refine AW.jnK (fun (s_2:S_)=>⟨[],(y4 o0B o0T o0L),5,(fr_ s_2),[],3⟩) (c:=c_10) (fun K_10 hK_10=>?_) (fun s_2 hj_10=>?_)
   ·have h:=hx_10
    refine Sa ⟨[(1,jI part),pR 4 2,pR 5 3,pR 8 4,(36,jI (wr ((wr (p.Weight.High - p.Weight.Low))+1))),(37,jI 0)],[(4,.var 33 [jI p.Weight.Low,jI p.Weight.High]),(3,.var 103 [jI (w 0),jI (w 1),jI (w 2),jI (w 3)]),(0,.var 96 (catV (cv25 o0B) [.d (.sl 4 (List.map e103 o0T)),jI o0L.weight,jI o0L.along,jI o0L.high,.opq])),(1,.var 177 [.yld]),(2,.var 178 [.clo 112 [] [.ptr 0 0,.ptr 1 0,.ptr 2 0]])],5,(fr_ s_),[],3⟩ ?_
    obtain ⟨c_11,hx_11,hk_11⟩:=bsomeC h
    refine AW.jqK (fun (s_3:S_)=>⟨[],(y4 o0B o0T o0L),5,(fr_ s_3),[],3⟩) (c:=c_11) (fun K_11 hK_11=>?_) (fun s_3 hj_11=>?_)
    ·have h:=hx_11
     refine AW.block ?_
     have hN_12:(wr ((wr (p.Weight.High - p.Weight.Low))+1))≤9223372036854775807:=(wr_range _).2
     obtain ⟨out_12,hx_12,hk_12⟩:=bsomeC h
     refine AW.lpCK (fun (v:Int) (⟨s_4,w1⟩:S_×(Nat→Int))=>⟨[(1,jI part),pR 4 2,pR 5 3,pR 8 4,(36,jI (wr ((wr (p.Weight.High - p.Weight.Low))+1))),(37,jI v)],[(4,.var 33 [jI p.Weight.Low,jI p.Weight.High]),(3,.var 103 [jI (w1 0),jI (w1 1),jI (w1 2),jI (w1 3)]),(0,.var 96 (catV (cv25 o0B) [.d (.sl 4 (List.map e103 o0T)),jI o0L.weight,jI o0L.along,jI o0L.high,.opq])),(1,.var 177 [.yld]),(2,.var 178 [.clo 112 [] [.ptr 0 0,.ptr 1 0,.ptr 2 0]])],5,(fr_ s_4),[],3⟩) (g112_12 (g112 c_ n_) part o0B o0T o0L p) ((wr ((wr (p.Weight.High - p.Weight.Low))+1))) hx_12 (Can.kp (by kernel_rfl)) (fun v s_12 hi_12 hl_12 c_12 h hb_12 K_12 hK_12=>?_) (fun v s_12 hi_12 hl_12 hout=>?_)
     ·obtain ⟨s_4,w1⟩:=s_12
      unfold g112_12 at h
      refine Sa ⟨[(1,jI part),pR 4 2,pR 5 3,pR 8 4,(36,jI (wr ((wr (p.Weight.High - p.Weight.Low))+1))),(37,jI v),(38,.d (.bool (decide (v<(wr ((wr (p.Weight.High - p.Weight.Low))+1))))))],[(4,.var 33 [jI p.Weight.Low,jI p.Weight.High]),(3,.var 103 [jI (w1 0),jI (w1 1),jI (w1 2),jI (w1 3)]),(0,.var 96 (catV (cv25 o0B) [.d (.sl 4 (List.map e103 o0T)),jI o0L.weight,jI o0L.along,jI o0L.high,.opq])),(1,.var 177 [.yld]),(2,.var 178 [.clo 112 [] [.ptr 0 0,.ptr 1 0,.ptr 2 0]])],5,(fr_ s_4),[],3⟩ ?_
      refine AW.seqK (fun K_13 hK_13=>?_)
      refine AW.cond rfl (fun hb_14=>?_) (fun hb_14=>False.elim (by have:=of_decide_eq_false hb_14;omega))
      refine AW.skip (hK_13 _ ?_)
      refine AW.seqK (fun K_15 hK_15=>?_)
      refine AW.block ?_
      refine Sa ⟨[(1,jI part),pR 4 2,pR 5 3,pR 8 4,(9,jI v),(36,jI (wr ((wr (p.Weight.High - p.Weight.Low))+1))),(37,jI v)],[(4,.var 33 [jI p.Weight.Low,jI p.Weight.High]),(3,.var 103 [jI (w1 0),jI (w1 1),jI (w1 2),jI (w1 3)]),(0,.var 96 (catV (cv25 o0B) [.d (.sl 4 (List.map e103 o0T)),jI o0L.weight,jI o0L.along,jI o0L.high,.opq])),(1,.var 177 [.yld]),(2,.var 178 [.clo 112 [] [.ptr 0 0,.ptr 1 0,.ptr 2 0]])],5,(fr_ s_4),[],3⟩ ?_
      refine AW.srwK (fun Q_16 hQ_16=>?_)
      refine Au 5 ⟨[(1,jI part),pR 4 2,pR 5 3,pR 8 4,(36,jI (wr ((wr (p.Weight.High - p.Weight.Low))+1))),(37,jI v),(40,jI part),(44,jI (wr (p.Weight.Low+v)))],[(4,.var 33 [jI p.Weight.Low,jI p.Weight.High]),(3,.var 103 [jI (w1 0),jI (w1 1),jI (w1 2),jI (w1 3)]),(0,.var 96 (catV (cv25 o0B) [.d (.sl 4 (List.map e103 o0T)),jI o0L.weight,jI o0L.along,jI o0L.high,.opq])),(1,.var 177 [.yld]),(2,.var 178 [.clo 112 [] [.ptr 0 0,.ptr 1 0,.ptr 2 0]])],5,(fr_ s_4),[],3⟩ ?_
      obtain ⟨j,hv_17,h⟩:=bsome h
      refine RW.one fokW (r_iaV trivial rfl rfl rfl (ixN_ok hv_17).1 (ixN_ok hv_17).2.1 (r_end ?_))
      refine RW.one fokW (r_stX trivial rfl rfl rfl rfl rfl (aslot hv_17 rfl) (cs':=[jI ((aset w1 j (wr (p.Weight.Low+v))) 0),jI ((aset w1 j (wr (p.Weight.Low+v))) 1),jI ((aset w1 j (wr (p.Weight.Low+v))) 2),jI ((aset w1 j (wr (p.Weight.Low+v))) 3)]) (ast (w:=w1) (c:=fun z=>jI z) hv_17) (r_end ?_))
      refine RW.nil (hQ_16 _ ?_)
      refine AW.srwK (fun Q_18 hQ_18=>?_)
      refine Au 4 ⟨[(1,jI part),pR 4 2,pR 5 3,pR 8 4,(36,jI (wr ((wr (p.Weight.High - p.Weight.Low))+1))),(37,jI v),(46,.clo 112 [] [.ptr 0 0,.ptr 1 0,.ptr 2 0]),(47,.agg [jI ((aset w1 j (wr (p.Weight.Low+v))) 0),jI ((aset w1 j (wr (p.Weight.Low+v))) 1),jI ((aset w1 j (wr (p.Weight.Low+v))) 2),jI ((aset w1 j (wr (p.Weight.Low+v))) 3)]),(49,jI (wr (part+1)))],[(3,.var 103 [jI ((aset w1 j (wr (p.Weight.Low+v))) 0),jI ((aset w1 j (wr (p.Weight.Low+v))) 1),jI ((aset w1 j (wr (p.Weight.Low+v))) 2),jI ((aset w1 j (wr (p.Weight.Low+v))) 3)]),(4,.var 33 [jI p.Weight.Low,jI p.Weight.High]),(0,.var 96 (catV (cv25 o0B) [.d (.sl 4 (List.map e103 o0T)),jI o0L.weight,jI o0L.along,jI o0L.high,.opq])),(1,.var 177 [.yld]),(2,.var 178 [.clo 112 [] [.ptr 0 0,.ptr 1 0,.ptr 2 0]])],5,(fr_ s_4),[],3⟩ ?_
      obtain ⟨⟨r0_5_1,s_8_1⟩,hx_19,h⟩:=bsome h
      refine RW.one fokW (r_callvS (zr:=[]) [0,1,2] trivial rfl (.clo _ _ _) (by kernel_rfl) rfl (ih (aset w1 j (wr (p.Weight.Low+v))) (wr (part+1)) o0B o0T o0L s_4 _ hx_19) ⟨rfl,rfl,rfl,trivial⟩ rfl rfl ⟨.refl _,.refl _,.refl _,.refl _,.refl _,trivial⟩ rfl rfl rfl (r_end ?_))
      refine Au 1 ⟨[(1,jI part),pR 4 2,pR 5 3,pR 8 4,(36,jI (wr ((wr (p.Weight.High - p.Weight.Low))+1))),(37,jI v),(51,.d (.bool (!r0_5_1)))],[(0,.var 96 (catV (cv25 o0B) [.d (.sl 4 (List.map e103 o0T)),jI o0L.weight,jI o0L.along,jI o0L.high,.opq])),(1,.var 177 [.yld]),(2,.var 178 [.clo 112 [] [.ptr 0 0,.ptr 1 0,.ptr 2 0]]),(3,.var 103 [jI ((aset w1 j (wr (p.Weight.Low+v))) 0),jI ((aset w1 j (wr (p.Weight.Low+v))) 1),jI ((aset w1 j (wr (p.Weight.Low+v))) 2),jI ((aset w1 j (wr (p.Weight.Low+v))) 3)]),(4,.var 33 [jI p.Weight.Low,jI p.Weight.High])],5,(fr_ s_8_1),[],3⟩ ?_
      refine RW.nil (hQ_18 _ ?_)
      refine AW.cond rfl (fun hb_20=>?_) (fun hb_20=>?_)
      ·have h:=ifT hb_20 h
       refine Sa ⟨[(7,.d (.bool false))],(y4 o0B o0T o0L),5,(fr_ s_8_1),[],3⟩ ?_
       obtain rfl:=Option.some.inj h
       have e_3:=hb_12 _ rfl
       subst e_3
       obtain rfl:=Aft.bk hk_12
       obtain rfl:=Aft.bk hk_11
       obtain rfl:=Aft.bk hk_10
       exact rT hR_0 (.cons (.tmp rfl) .nil)
      ·have h:=ifF hb_20 h
       refine AW.skip (hK_15 _ ?_)
       refine Ra ⟨[(1,jI part),pR 4 2,pR 5 3,pR 8 4,(36,jI (wr ((wr (p.Weight.High - p.Weight.Low))+1))),(37,jI (wr (v+1)))],[(0,.var 96 (catV (cv25 o0B) [.d (.sl 4 (List.map e103 o0T)),jI o0L.weight,jI o0L.along,jI o0L.high,.opq])),(1,.var 177 [.yld]),(2,.var 178 [.clo 112 [] [.ptr 0 0,.ptr 1 0,.ptr 2 0]]),(3,.var 103 [jI ((aset w1 j (wr (p.Weight.Low+v))) 0),jI ((aset w1 j (wr (p.Weight.Low+v))) 1),jI ((aset w1 j (wr (p.Weight.Low+v))) 2),jI ((aset w1 j (wr (p.Weight.Low+v))) 3)]),(4,.var 33 [jI p.Weight.Low,jI p.Weight.High])],5,(fr_ s_8_1),[],3⟩ ?_
       obtain rfl:=Option.some.inj h
       have ew:wr (v+1)=v+1:=inext (N:=(wr ((wr (p.Weight.High - p.Weight.Low))+1))) (by omega) (by omega) (by omega)
       rw [ew]
       exact hK_12 _ _ rfl (Can.kp (by kernel_rfl))
     ·obtain ⟨s_4,w1⟩:=s_12
      subst hout
      have h:=Aft.nx hk_12
      refine Sa ⟨[(1,jI part),pR 4 2,pR 5 3,pR 8 4,(36,jI (wr ((wr (p.Weight.High - p.Weight.Low))+1))),(37,jI v),(38,.d (.bool (decide (v<(wr ((wr (p.Weight.High - p.Weight.Low))+1))))))],[(4,.var 33 [jI p.Weight.Low,jI p.Weight.High]),(3,.var 103 [jI (w1 0),jI (w1 1),jI (w1 2),jI (w1 3)]),(0,.var 96 (catV (cv25 o0B) [.d (.sl 4 (List.map e103 o0T)),jI o0L.weight,jI o0L.along,jI o0L.high,.opq])),(1,.var 177 [.yld]),(2,.var 178 [.clo 112 [] [.ptr 0 0,.ptr 1 0,.ptr 2 0]])],5,(fr_ s_4),[],3⟩ ?_
      refine AW.seqK (fun K_21 hK_21=>?_)
      refine AW.cond rfl (fun hb_22=>False.elim (by have:=of_decide_eq_true hb_22;omega)) (fun hb_22=>?_)
      refine AW.exit ?_
      obtain rfl:=Option.some.inj h
      exact hK_11 _ _ rfl (Can.kp (by kernel_rfl))
    ·subst hj_11
     have h:=Aft.nx hk_11
     obtain rfl:=Option.some.inj h
     exact hK_10 _ _ rfl (Can.kp (by kernel_rfl))
   ·subst hj_10
    have h:=Aft.nx hk_10
    refine Sa ⟨[(7,.d (.bool true))],(y4 o0B o0T o0L),5,(fr_ s_2),[],3⟩ ?_
    obtain rfl:=Option.some.inj h
    exact rT hR_0 (.cons (.tmp rfl) .nil)
def g111 {S_:Type} (c_:(Nat→Int)→S_→Option (S_×Bool)) (o0B:StandBook) (o0T:(List (Nat→Int))) (o0L:Stand_load) (s_:S_):Option S_:=(g113).bind fun r0=>(g112 c_ 1000 r0 0 o0B o0T o0L s_).bind fun (r0_5,s_8)=>some s_8
def y5 (o0B:StandBook) (o0T:(List (Nat→Int))) (o0L:Stand_load):List (Nat×Blk):=[(2,.var 178 [.clo 112 [] [.ptr 0 0,.ptr 1 0,.ptr 2 0]]),(1,.var 177 [.yld]),(0,.var 96 (catV (cv25 o0B) [.d (.sl 4 (List.map e103 o0T)),jI o0L.weight,jI o0L.along,jI o0L.high,.opq]))]
theorem k111 {S_:Type} (fr_:S_→Fr) (c_:(Nat→Int)→S_→Option (S_×Bool)) (hc_:∀ (a0:(Nat→Int)) s s2 b,c_ a0 s=some (s2,b)→YCall Tryd.prog Gs (fr_ s) [.agg [jI (a0 0),jI (a0 1),jI (a0 2),jI (a0 3)]] (.d (.bool b)) (fr_ s2)) (o0B:StandBook) (o0T:(List (Nat→Int))) (o0L:Stand_load) (s_:S_) (r:S_) (h:g111 c_ o0B o0T o0L s_=some r):SCall Tryd.prog Gs 111 [.yld,.ptr 0 0] [(0,.var 96 (catV (cv25 o0B) [.d (.sl 4 (List.map e103 o0T)),jI o0L.weight,jI o0L.along,jI o0L.high,.opq]))] 1 (fr_ s_) (.tup []) [(0,.var 96 (catV (cv25 o0B) [.d (.sl 4 (List.map e103 o0T)),jI o0L.weight,jI o0L.along,jI o0L.high,.opq]))] 1 (fr_ r):=by
 unfold g111 at h
 refine SCall.mkK Tryd.func111 c111 rfl rfl (by kernel_rfl) (fun Q_0 hR_0 hN_0=>?_)
 refine Sa ⟨[pR 1 0,pR 2 1],[(1,.var 177 [.yld]),(0,.var 96 (catV (cv25 o0B) [.d (.sl 4 (List.map e103 o0T)),jI o0L.weight,jI o0L.along,jI o0L.high,.opq]))],2,(fr_ s_),[],1⟩ ?_
 refine Sa ⟨[pR 1 0,pR 2 1,pR 3 2],[(2,.var 178 [.d (.nilFn)]),(1,.var 177 [.yld]),(0,.var 96 (catV (cv25 o0B) [.d (.sl 4 (List.map e103 o0T)),jI o0L.weight,jI o0L.along,jI o0L.high,.opq]))],3,(fr_ s_),[],1⟩ ?_
 refine Sa ⟨[pR 3 2],(y5 o0B o0T o0L),3,(fr_ s_),[],1⟩ ?_
 refine AW.drw fokW ?_
 refine aX 1 ⟨[(5,.clo 112 [] [.ptr 0 0,.ptr 1 0,.ptr 2 0])],(y5 o0B o0T o0L),3,(fr_ s_),[],1⟩ ?_
 obtain ⟨r0,hx_2,h⟩:=bsome h
 refine r_call trivial rfl (k113 _ hx_2) rfl rfl ?_
 obtain ⟨⟨r0_5,s_8⟩,hx_3,h⟩:=bsome h
 refine r_callvS (zr:=[]) [0,1,2] trivial rfl (.clo _ _ _) (by kernel_rfl) rfl (k112 fr_ c_ hc_ 1000 r0 0 o0B o0T o0L s_ _ hx_3) ⟨rfl,rfl,rfl,trivial⟩ rfl rfl ⟨.refl _,.refl _,.refl _,.refl _,.refl _,trivial⟩ rfl rfl rfl ?_
 refine Fi ⟨[],[(0,.var 96 (catV (cv25 o0B) [.d (.sl 4 (List.map e103 o0T)),jI o0L.weight,jI o0L.along,jI o0L.high,.opq]))],3,(fr_ s_8),[],1⟩ ?_
 obtain rfl:=Option.some.inj h
 exact hN_0 _ (retX .nil (.refl _) rfl (by kernel_rfl) (by kernel_rfl))
def g133_3 (v:Int):Int→Int→Unit→Option (Ctl (Unit) (Int)):=fun v1 p _=>bif (decide (v=p)) then (some (.brk v1)) else (some (.next ()))
def g133 (s:(List Int)) (v:Int):Option Int:=bindC (eachC (g133_3 v) s 0 ()) fun _=>some (-1)
theorem k133 (s:(List Int)) (v:Int) (r:Int) (h:g133 s v=some r):SCall Tryd.prog Gs 133 [.d (.sl 1 (List.map e3 s)),jI v] [] 0 Fr.emp (jI r) [] 0 Fr.emp:=by
 unfold g133 at h
 refine SCall.mkK Tryd.func133 c133 rfl rfl (by kernel_rfl) (fun Q_0 hR_0 hN_0=>?_)
 refine Sa (sT [(0,.d (.sl 1 (List.map e3 s))),(1,jI v)] [] 0 0) ?_
 refine AW.seqK fun K_1 hK_1=>AW.srwK fun Q_2 hQ_2=>?_
 refine Au 1 (sT [(0,.d (.sl 1 (List.map e3 s))),(1,jI v),(6,.d (.sl 1 (List.map e3 s)))] [] 0 0) ?_
 refine rL rfl ?_
 refine Au 1 (sT [(0,.d (.sl 1 (List.map e3 s))),(1,jI v),(7,jI (s.length:Int)),(8,jI 0)] [] 0 0) ?_
 refine RW.nil (hQ_2 _ ?_)
 refine AW.block ?_
 refine AW.sln (t:=0) rfl (fun hN_3=>?_)
 rw [List.length_map] at hN_3
 obtain ⟨out_3,hx_3,hk_3⟩:=bsomeC h
 refine AW.evCK (fun (v1:Int) (_:Unit)=>(sT [(0,.d (.sl 1 (List.map e3 s))),(1,jI v),(7,jI (s.length:Int)),(8,jI v1)] [] 0 0)) (g133_3 v) hx_3 (Can.kp (by kernel_rfl)) (fun v1 p s_3 hi_3 hl_3 hp_3 c_3 h hb_3 K_3 hK_3=>?_) (fun v1 s_3 hi_3 hl_3 hout=>?_)
 ·unfold g133_3 at h
  refine Sa (sT [(0,.d (.sl 1 (List.map e3 s))),(1,jI v),(7,jI (s.length:Int)),(8,jI v1),(9,.d (.bool (decide (v1<(s.length:Int)))))] [] 0 0) ?_
  refine AW.seqK (fun K_4 hK_4=>?_)
  refine AW.cond rfl (fun hb_5=>?_) (fun hb_5=>False.elim (by have:=of_decide_eq_false hb_5;omega))
  refine AW.skip (hK_4 _ ?_)
  refine AW.seqK (fun K_6 hK_6=>?_)
  refine AW.block ?_
  refine Sa (sT [(0,.d (.sl 1 (List.map e3 s))),(1,jI v),(5,jI v1),(7,jI (s.length:Int)),(8,jI v1)] [] 0 0) ?_
  refine AW.srwK (fun Q_7 hQ_7=>?_)
  refine Au 3 (sT [(0,.d (.sl 1 (List.map e3 s))),(1,jI v),(5,jI v1),(7,jI (s.length:Int)),(8,jI v1),(11,jI v),(12,.d (.sl 1 (List.map e3 s))),(13,jI v1)] [] 0 0) ?_
  refine RW.one fokW (r_iaD trivial rfl rfl hi_3 (row:=e3 p) (mapget hp_3) (r_end ?_))
  refine Au 2 (sT [(0,.d (.sl 1 (List.map e3 s))),(1,jI v),(5,jI v1),(7,jI (s.length:Int)),(8,jI v1),(16,.d (.bool (decide (v=p))))] [] 0 0) ?_
  refine RW.nil (hQ_7 _ ?_)
  refine AW.cond rfl (fun hb_8=>?_) (fun hb_8=>?_)
  ·have h:=ifT hb_8 h
   refine Sa (sT [(4,jI v1)] [] 0 0) ?_
   obtain rfl:=Option.some.inj h
   have e_1:=hb_3 _ rfl
   subst e_1
   obtain rfl:=Aft.bk hk_3
   exact rT hR_0 (.cons (.tmp rfl) .nil)
  ·have h:=ifF hb_8 h
   refine AW.skip (hK_6 _ ?_)
   refine Ra (sT [(0,.d (.sl 1 (List.map e3 s))),(1,jI v),(7,jI (s.length:Int)),(8,jI (wr (v1+1)))] [] 0 0) ?_
   obtain rfl:=Option.some.inj h
   have ew:wr (v1+1)=v1+1:=inext (N:=(s.length:Int)) (by omega) (by omega) (by omega)
   rw [ew]
   exact hK_3 _ _ rfl (Can.kp (by kernel_rfl))
 ·subst hout
  have h:=Aft.nx hk_3
  refine Sa (sT [(0,.d (.sl 1 (List.map e3 s))),(1,jI v),(7,jI (s.length:Int)),(8,jI v1),(9,.d (.bool (decide (v1<(s.length:Int)))))] [] 0 0) ?_
  refine AW.seqK (fun K_9 hK_9=>?_)
  refine AW.cond rfl (fun hb_10=>False.elim (by have:=of_decide_eq_true hb_10;omega)) (fun hb_10=>?_)
  refine AW.exit ?_
  refine hK_1 _ ?_
  refine Sa (sT [(4,jI (-1))] [] 0 0) ?_
  obtain rfl:=Option.some.inj h
  exact rT hR_0 (.cons (.tmp rfl) .nil)
def g106 (s:(List Int)) (v:Int):Option Bool:=(g133 s v).bind fun r0_1=>some (decide (0≤r0_1))
theorem k106 (s:(List Int)) (v:Int) (r:Bool) (h:g106 s v=some r):SCall Tryd.prog Gs 106 [.d (.sl 1 (List.map e3 s)),jI v] [] 0 Fr.emp (.d (.bool r)) [] 0 Fr.emp:=by
 unfold g106 at h
 refine SCall.mkK Tryd.func106 c106 rfl rfl (by kernel_rfl) (fun Q_0 hR_0 hN_0=>?_)
 refine Sa (sT [(0,.d (.sl 1 (List.map e3 s))),(1,jI v)] [] 0 0) ?_
 refine AW.srwK (fun Q_1 hQ_1=>?_)
 refine Au 2 (sT [(5,.d (.sl 1 (List.map e3 s))),(6,jI v)] [] 0 0) ?_
 obtain ⟨r0_1,hx_2,h⟩:=bsome h
 refine rC (k133 s v _ hx_2) ?_
 refine Au 2 (sT [(4,.d (.bool (decide (0≤r0_1))))] [] 0 0) ?_
 refine RW.nil (hQ_1 _ ?_)
 obtain rfl:=Option.some.inj h
 exact rT hR_0 (.cons (.tmp rfl) .nil)
def g108_3 (w:(Nat→Int)):Int→StandPart→(Int×Int×Int)→Option (Int×Int×Int):=fun v p (weight,along,high)=>(ixN 4 v).bind fun j=>(ixN 4 v).bind fun j1=>(ixN 4 v).bind fun j2=>some ((wr (weight+(w j))),(wr (along+(wr ((w j1)*p.Along)))),(wr (high+(wr ((w j2)*p.High)))))
def g108 (bB:StandBook) (bT:(List (Nat→Int))) (bL:Stand_load) (w:(Nat→Int)) (c:Stand_child):Option Stand_load:=(eachS (g108_3 w) bB.Parts 0 ((wr (bL.weight+c.weight)),(wr (bL.along+(wr (c.weight*(wr (bB.Along+c.lean)))))),(wr (bL.high+(wr (c.weight*bB.High)))))).bind fun (weight,along,high)=>some (Stand_load.mk weight along high)
def y6 (weight:Int) (along:Int) (high:Int) (w:(Nat→Int)):List (Nat×Blk):=[(4,.var 93 [jI weight,jI along,jI high]),(3,.var 93 [jI 0,jI 0,jI 0]),(1,.var 103 [jI (w 0),jI (w 1),jI (w 2),jI (w 3)])]
theorem k108 (bB:StandBook) (bT:(List (Nat→Int))) (bL:Stand_load) (w:(Nat→Int)) (c:Stand_child) (r:Stand_load) (h:g108 bB bT bL w c=some r):SCall Tryd.prog Gs 108 [.agg [jI bB.Kind,jI bB.Front,jI bB.Back,jI bB.Radius,.d (.sl 4 (List.map e36 bB.Parts)),jI bB.Along,jI bB.High,jI bB.Lean_,jI bB.Limit,.d (.sl 3 (List.map e29 bB.Trials)),.d (.sl 4 (List.map e103 bT)),jI bL.weight,jI bL.along,jI bL.high,.opq],.agg [jI (w 0),jI (w 1),jI (w 2),jI (w 3)],.agg [jI c.weight,jI c.lean]] [] 0 Fr.emp (.agg [jI r.weight,jI r.along,jI r.high]) [] 0 Fr.emp:=by
 unfold g108 at h
 refine SCall.mkK Tryd.func108 c108 rfl rfl (by kernel_rfl) (fun Q_0 hR_0 hN_0=>?_)
 refine Sa (sT [pR 3 0,pR 4 1,pR 5 2,pR 6 3] [(3,.var 93 [jI 0,jI 0,jI 0]),(2,.var 105 [jI c.weight,jI c.lean]),(1,.var 103 [jI (w 0),jI (w 1),jI (w 2),jI (w 3)]),(0,.var 96 (catV (cv25 bB) [.d (.sl 4 (List.map e103 bT)),jI bL.weight,jI bL.along,jI bL.high,.opq]))] 4 0) ?_
 refine Sa (sT [pR 3 0,pR 4 1,pR 5 2,pR 6 3,pR 7 4] [(4,.var 93 [jI bL.weight,jI bL.along,jI bL.high]),(3,.var 93 [jI 0,jI 0,jI 0]),(2,.var 105 [jI c.weight,jI c.lean]),(1,.var 103 [jI (w 0),jI (w 1),jI (w 2),jI (w 3)]),(0,.var 96 (catV (cv25 bB) [.d (.sl 4 (List.map e103 bT)),jI bL.weight,jI bL.along,jI bL.high,.opq]))] 5 0) ?_
 refine Sa (sT [pR 3 0,pR 4 1,pR 5 2,pR 6 3,pR 7 4] [(4,.var 93 [jI (wr (bL.weight+c.weight)),jI bL.along,jI bL.high]),(3,.var 93 [jI 0,jI 0,jI 0]),(2,.var 105 [jI c.weight,jI c.lean]),(1,.var 103 [jI (w 0),jI (w 1),jI (w 2),jI (w 3)]),(0,.var 96 (catV (cv25 bB) [.d (.sl 4 (List.map e103 bT)),jI bL.weight,jI bL.along,jI bL.high,.opq]))] 5 0) ?_
 refine Sa (sT [pR 3 0,pR 4 1,pR 5 2,pR 6 3,pR 7 4] [(4,.var 93 [jI (wr (bL.weight+c.weight)),jI (wr (bL.along+(wr (c.weight*(wr (bB.Along+c.lean)))))),jI bL.high]),(3,.var 93 [jI 0,jI 0,jI 0]),(2,.var 105 [jI c.weight,jI c.lean]),(1,.var 103 [jI (w 0),jI (w 1),jI (w 2),jI (w 3)]),(0,.var 96 (catV (cv25 bB) [.d (.sl 4 (List.map e103 bT)),jI bL.weight,jI bL.along,jI bL.high,.opq]))] 5 0) ?_
 refine Sa (sT [pR 3 0,pR 4 1,pR 6 3,pR 7 4] [(4,.var 93 [jI (wr (bL.weight+c.weight)),jI (wr (bL.along+(wr (c.weight*(wr (bB.Along+c.lean)))))),jI (wr (bL.high+(wr (c.weight*bB.High))))]),(3,.var 93 [jI 0,jI 0,jI 0]),(1,.var 103 [jI (w 0),jI (w 1),jI (w 2),jI (w 3)]),(0,.var 96 (catV (cv25 bB) [.d (.sl 4 (List.map e103 bT)),jI bL.weight,jI bL.along,jI bL.high,.opq]))] 5 0) ?_
 refine AW.seqK fun K_1 hK_1=>AW.srwK fun Q_2 hQ_2=>?_
 refine Au 3 (sT [pR 4 1,pR 6 3,pR 7 4,(43,.d (.sl 4 (List.map e36 bB.Parts)))] [(4,.var 93 [jI (wr (bL.weight+c.weight)),jI (wr (bL.along+(wr (c.weight*(wr (bB.Along+c.lean)))))),jI (wr (bL.high+(wr (c.weight*bB.High))))]),(3,.var 93 [jI 0,jI 0,jI 0]),(1,.var 103 [jI (w 0),jI (w 1),jI (w 2),jI (w 3)])] 5 0) ?_
 refine rL rfl ?_
 refine Au 1 (sT [pR 4 1,pR 6 3,pR 7 4,(43,.d (.sl 4 (List.map e36 bB.Parts))),(44,jI (bB.Parts.length:Int)),(45,jI 0)] [(4,.var 93 [jI (wr (bL.weight+c.weight)),jI (wr (bL.along+(wr (c.weight*(wr (bB.Along+c.lean)))))),jI (wr (bL.high+(wr (c.weight*bB.High))))]),(3,.var 93 [jI 0,jI 0,jI 0]),(1,.var 103 [jI (w 0),jI (w 1),jI (w 2),jI (w 3)])] 5 0) ?_
 refine RW.nil (hQ_2 _ ?_)
 refine AW.block ?_
 refine AW.sln (t:=43) rfl (fun hN_3=>?_)
 rw [List.length_map] at hN_3
 obtain ⟨out_3,hx_3,h⟩:=bsome h
 refine AW.evSK (fun (v:Int) (⟨weight,along,high⟩:Int×Int×Int)=>(sT [pR 4 1,pR 6 3,pR 7 4,(43,.d (.sl 4 (List.map e36 bB.Parts))),(44,jI (bB.Parts.length:Int)),(45,jI v)] (y6 weight along high w) 5 0)) (g108_3 w) hx_3 (Can.kp (by kernel_rfl)) (fun v p s_3 hi_3 hl_3 hp_3 c_3 h K_3 hK_3=>?_) (fun v s_3 hi_3 hl_3 hout=>?_)
 ·obtain ⟨weight,along,high⟩:=s_3
  unfold g108_3 at h
  refine Sa (sT [pR 4 1,pR 6 3,pR 7 4,(43,.d (.sl 4 (List.map e36 bB.Parts))),(44,jI (bB.Parts.length:Int)),(45,jI v),(46,.d (.bool (decide (v<(bB.Parts.length:Int)))))] (y6 weight along high w) 5 0) ?_
  refine AW.seqK (fun K_4 hK_4=>?_)
  refine AW.cond rfl (fun hb_5=>?_) (fun hb_5=>False.elim (by have:=of_decide_eq_false hb_5;omega))
  refine AW.skip (hK_4 _ ?_)
  refine AW.seqK (fun K_6 hK_6=>?_)
  refine AW.block ?_
  refine AW.srwK (fun Q_7 hQ_7=>?_)
  refine Au 1 (sT [pR 4 1,pR 6 3,pR 7 4,(43,.d (.sl 4 (List.map e36 bB.Parts))),(44,jI (bB.Parts.length:Int)),(45,jI v),(47,jI v)] (y6 weight along high w) 5 0) ?_
  refine RW.one fokW (r_iaD trivial rfl rfl hi_3 (row:=e36 p) (mapget hp_3) (r_end ?_))
  refine Au 4 (sT [pR 4 1,pR 6 3,pR 7 4,(8,jI v),pR 9 5,(43,.d (.sl 4 (List.map e36 bB.Parts))),(44,jI (bB.Parts.length:Int)),(45,jI v)] [(5,.var 36 (cv36 p)),(4,.var 93 [jI weight,jI along,jI high]),(3,.var 93 [jI 0,jI 0,jI 0]),(1,.var 103 [jI (w 0),jI (w 1),jI (w 2),jI (w 3)])] 6 0) ?_
  refine RW.nil (hQ_7 _ ?_)
  refine AW.sdrwK fokW (fun Q_8 hQ_8=>?_)
  refine aX 3 (sT [pR 4 1,pR 6 3,pR 7 4,(8,jI v),pR 9 5,(43,.d (.sl 4 (List.map e36 bB.Parts))),(44,jI (bB.Parts.length:Int)),(45,jI v),(51,jI weight),(52,jI v)] [(5,.var 36 (cv36 p)),(4,.var 93 [jI weight,jI along,jI high]),(3,.var 93 [jI 0,jI 0,jI 0]),(1,.var 103 [jI (w 0),jI (w 1),jI (w 2),jI (w 3)])] 6 0) ?_
  obtain ⟨j,hv_9,h⟩:=bsome h
  refine r_iaV trivial rfl rfl rfl (ixN_ok hv_9).1 (ixN_ok hv_9).2.1 ?_
  refine r_loadV trivial rfl rfl (u:=jI (w j)) (agt (f:=fun k=>jI (w k)) hv_9) ?_
  refine aX 3 (sT [pR 4 1,pR 6 3,pR 7 4,(8,jI v),pR 9 5,(43,.d (.sl 4 (List.map e36 bB.Parts))),(44,jI (bB.Parts.length:Int)),(45,jI v)] [(4,.var 93 [jI (wr (weight+(w j))),jI along,jI high]),(5,.var 36 (cv36 p)),(3,.var 93 [jI 0,jI 0,jI 0]),(1,.var 103 [jI (w 0),jI (w 1),jI (w 2),jI (w 3)])] 6 0) ?_
  refine Fi (sT [pR 4 1,pR 6 3,pR 7 4,(8,jI v),pR 9 5,(43,.d (.sl 4 (List.map e36 bB.Parts))),(44,jI (bB.Parts.length:Int)),(45,jI v)] [(4,.var 93 [jI (wr (weight+(w j))),jI along,jI high]),(5,.var 36 (cv36 p)),(3,.var 93 [jI 0,jI 0,jI 0]),(1,.var 103 [jI (w 0),jI (w 1),jI (w 2),jI (w 3)])] 6 0) ?_
  refine hQ_8 _ ?_
  refine AW.sdrwK fokW (fun Q_10 hQ_10=>?_)
  refine aX 3 (sT [pR 4 1,pR 6 3,pR 7 4,(8,jI v),pR 9 5,(43,.d (.sl 4 (List.map e36 bB.Parts))),(44,jI (bB.Parts.length:Int)),(45,jI v),(58,jI along),(59,jI v)] [(4,.var 93 [jI (wr (weight+(w j))),jI along,jI high]),(5,.var 36 (cv36 p)),(3,.var 93 [jI 0,jI 0,jI 0]),(1,.var 103 [jI (w 0),jI (w 1),jI (w 2),jI (w 3)])] 6 0) ?_
  obtain ⟨j1,hv_11,h⟩:=bsome h
  refine r_iaV trivial rfl rfl rfl (ixN_ok hv_11).1 (ixN_ok hv_11).2.1 ?_
  refine r_loadV trivial rfl rfl (u:=jI (w j1)) (agt (f:=fun k=>jI (w k)) hv_11) ?_
  refine aX 6 (sT [pR 4 1,pR 6 3,pR 7 4,(8,jI v),pR 9 5,(43,.d (.sl 4 (List.map e36 bB.Parts))),(44,jI (bB.Parts.length:Int)),(45,jI v)] [(4,.var 93 [jI (wr (weight+(w j))),jI (wr (along+(wr ((w j1)*p.Along)))),jI high]),(5,.var 36 (cv36 p)),(3,.var 93 [jI 0,jI 0,jI 0]),(1,.var 103 [jI (w 0),jI (w 1),jI (w 2),jI (w 3)])] 6 0) ?_
  refine Fi (sT [pR 4 1,pR 6 3,pR 7 4,(8,jI v),pR 9 5,(43,.d (.sl 4 (List.map e36 bB.Parts))),(44,jI (bB.Parts.length:Int)),(45,jI v)] [(4,.var 93 [jI (wr (weight+(w j))),jI (wr (along+(wr ((w j1)*p.Along)))),jI high]),(5,.var 36 (cv36 p)),(3,.var 93 [jI 0,jI 0,jI 0]),(1,.var 103 [jI (w 0),jI (w 1),jI (w 2),jI (w 3)])] 6 0) ?_
  refine hQ_10 _ ?_
  refine AW.drw fokW ?_
  refine aX 3 (sT [pR 4 1,pR 6 3,pR 7 4,pR 9 5,(43,.d (.sl 4 (List.map e36 bB.Parts))),(44,jI (bB.Parts.length:Int)),(45,jI v),(68,jI high),(69,jI v)] [(4,.var 93 [jI (wr (weight+(w j))),jI (wr (along+(wr ((w j1)*p.Along)))),jI high]),(5,.var 36 (cv36 p)),(3,.var 93 [jI 0,jI 0,jI 0]),(1,.var 103 [jI (w 0),jI (w 1),jI (w 2),jI (w 3)])] 6 0) ?_
  obtain ⟨j2,hv_13,h⟩:=bsome h
  refine r_iaV trivial rfl rfl rfl (ixN_ok hv_13).1 (ixN_ok hv_13).2.1 ?_
  refine r_loadV trivial rfl rfl (u:=jI (w j2)) (agt (f:=fun k=>jI (w k)) hv_13) ?_
  refine aX 6 (sT [pR 4 1,pR 6 3,pR 7 4,(43,.d (.sl 4 (List.map e36 bB.Parts))),(44,jI (bB.Parts.length:Int)),(45,jI v)] [(4,.var 93 [jI (wr (weight+(w j))),jI (wr (along+(wr ((w j1)*p.Along)))),jI (wr (high+(wr ((w j2)*p.High))))]),(5,.var 36 (cv36 p)),(3,.var 93 [jI 0,jI 0,jI 0]),(1,.var 103 [jI (w 0),jI (w 1),jI (w 2),jI (w 3)])] 6 0) ?_
  refine Fi (sT [pR 4 1,pR 6 3,pR 7 4,(43,.d (.sl 4 (List.map e36 bB.Parts))),(44,jI (bB.Parts.length:Int)),(45,jI v)] [(4,.var 93 [jI (wr (weight+(w j))),jI (wr (along+(wr ((w j1)*p.Along)))),jI (wr (high+(wr ((w j2)*p.High))))]),(3,.var 93 [jI 0,jI 0,jI 0]),(1,.var 103 [jI (w 0),jI (w 1),jI (w 2),jI (w 3)])] 6 0) ?_
  refine hK_6 _ ?_
  refine Ra (sT [pR 4 1,pR 6 3,pR 7 4,(43,.d (.sl 4 (List.map e36 bB.Parts))),(44,jI (bB.Parts.length:Int)),(45,jI (wr (v+1)))] [(4,.var 93 [jI (wr (weight+(w j))),jI (wr (along+(wr ((w j1)*p.Along)))),jI (wr (high+(wr ((w j2)*p.High))))]),(3,.var 93 [jI 0,jI 0,jI 0]),(1,.var 103 [jI (w 0),jI (w 1),jI (w 2),jI (w 3)])] 6 0) ?_
  obtain rfl:=Option.some.inj h
  have ew:wr (v+1)=v+1:=inext (N:=(bB.Parts.length:Int)) (by omega) (by omega) (by omega)
  rw [ew]
  exact hK_3 _ (Can.kp (by kernel_rfl))
 ·obtain ⟨weight,along,high⟩:=s_3
  subst hout
  refine Sa (sT [pR 4 1,pR 6 3,pR 7 4,(43,.d (.sl 4 (List.map e36 bB.Parts))),(44,jI (bB.Parts.length:Int)),(45,jI v),(46,.d (.bool (decide (v<(bB.Parts.length:Int)))))] (y6 weight along high w) 5 0) ?_
  refine AW.seqK (fun K_14 hK_14=>?_)
  refine AW.cond rfl (fun hb_15=>False.elim (by have:=of_decide_eq_true hb_15;omega)) (fun hb_15=>?_)
  refine AW.exit ?_
  refine hK_1 _ ?_
  refine Sa (sT [pR 6 3] [(3,.var 93 [jI weight,jI along,jI high])] 5 0) ?_
  obtain rfl:=Option.some.inj h
  exact rT hR_0 (.cons (.agg rfl rfl (Nat.le_of_ble_eq_true rfl)) .nil)
def g160_3:Int→Int→Int→Option Int:=fun v p first1=>some (min first1 p)
def g160 (first:Int) (l:(List Int)):Option Int:=(eachS g160_3 l 0 first).bind fun first1=>some first1
theorem k160 (first:Int) (l:(List Int)) (r:Int) (h:g160 first l=some r):SCall Tryd.prog Gs 160 [jI first,.d (.sl 1 (List.map e3 l))] [] 0 Fr.emp (jI r) [] 0 Fr.emp:=by
 unfold g160 at h
 refine SCall.mkK Tryd.func160 c160 rfl rfl (by kernel_rfl) (fun Q_0 hR_0 hN_0=>?_)
 refine Sa (sT [(0,jI first),(1,.d (.sl 1 (List.map e3 l)))] [] 0 0) ?_
 refine AW.seqK fun K_1 hK_1=>AW.srwK fun Q_2 hQ_2=>?_
 refine Au 1 (sT [(0,jI first),(7,.d (.sl 1 (List.map e3 l)))] [] 0 0) ?_
 refine rL rfl ?_
 refine Au 1 (sT [(0,jI first),(7,.d (.sl 1 (List.map e3 l))),(8,jI (l.length:Int)),(9,jI 0)] [] 0 0) ?_
 refine RW.nil (hQ_2 _ ?_)
 refine AW.block ?_
 refine AW.sln (t:=7) rfl (fun hN_3=>?_)
 rw [List.length_map] at hN_3
 obtain ⟨out_3,hx_3,h⟩:=bsome h
 refine AW.evSK (fun (v:Int) (first1:Int)=>(sT [(0,jI first1),(7,.d (.sl 1 (List.map e3 l))),(8,jI (l.length:Int)),(9,jI v)] [] 0 0)) g160_3 hx_3 (Can.kp (by kernel_rfl)) (fun v p first1 hi_3 hl_3 hp_3 c_3 h K_3 hK_3=>?_) (fun v first1 hi_3 hl_3 hout=>?_)
 ·unfold g160_3 at h
  refine Sa (sT [(0,jI first1),(7,.d (.sl 1 (List.map e3 l))),(8,jI (l.length:Int)),(9,jI v),(10,.d (.bool (decide (v<(l.length:Int)))))] [] 0 0) ?_
  refine AW.seqK (fun K_4 hK_4=>?_)
  refine AW.cond rfl (fun hb_5=>?_) (fun hb_5=>False.elim (by have:=of_decide_eq_false hb_5;omega))
  refine AW.skip (hK_4 _ ?_)
  refine AW.seqK (fun K_6 hK_6=>?_)
  refine AW.block ?_
  refine AW.srwK (fun Q_7 hQ_7=>?_)
  refine RW.one fokW (r_iaD trivial rfl rfl hi_3 (row:=e3 p) (mapget hp_3) (r_end ?_))
  refine Au 2 (sT [(0,jI first1),(6,jI p),(7,.d (.sl 1 (List.map e3 l))),(8,jI (l.length:Int)),(9,jI v)] [] 0 0) ?_
  refine RW.nil (hQ_7 _ ?_)
  refine Ra (sT [(0,jI (min first1 p)),(7,.d (.sl 1 (List.map e3 l))),(8,jI (l.length:Int)),(9,jI v)] [] 0 0) ?_
  refine hK_6 _ ?_
  refine Ra (sT [(0,jI (min first1 p)),(7,.d (.sl 1 (List.map e3 l))),(8,jI (l.length:Int)),(9,jI (wr (v+1)))] [] 0 0) ?_
  obtain rfl:=Option.some.inj h
  have ew:wr (v+1)=v+1:=inext (N:=(l.length:Int)) (by omega) (by omega) (by omega)
  rw [ew]
  exact hK_3 _ (Can.kp (by kernel_rfl))
 ·subst hout
  refine Sa (sT [(0,jI first1),(7,.d (.sl 1 (List.map e3 l))),(8,jI (l.length:Int)),(9,jI v),(10,.d (.bool (decide (v<(l.length:Int)))))] [] 0 0) ?_
  refine AW.seqK (fun K_8 hK_8=>?_)
  refine AW.cond rfl (fun hb_9=>False.elim (by have:=of_decide_eq_true hb_9;omega)) (fun hb_9=>?_)
  refine AW.exit ?_
  refine hK_1 _ ?_
  refine Sa (sT [(4,jI first1)] [] 0 0) ?_
  obtain rfl:=Option.some.inj h
  exact rT hR_0 (.cons (.tmp rfl) .nil)
def g158 (bB:StandBook) (bT:(List (Nat→Int))) (bL:Stand_load) (l:Stand_load):Option Int:=(g160 (wr ((wr (bB.Back*l.weight))+l.along)) [(wr ((wr (bB.Front*l.weight)) - l.along))]).bind fun r0=>some r0
theorem k158 (bB:StandBook) (bT:(List (Nat→Int))) (bL:Stand_load) (l:Stand_load) (r:Int) (h:g158 bB bT bL l=some r):SCall Tryd.prog Gs 158 [.agg [jI bB.Kind,jI bB.Front,jI bB.Back,jI bB.Radius,.d (.sl 4 (List.map e36 bB.Parts)),jI bB.Along,jI bB.High,jI bB.Lean_,jI bB.Limit,.d (.sl 3 (List.map e29 bB.Trials)),.d (.sl 4 (List.map e103 bT)),jI bL.weight,jI bL.along,jI bL.high,.opq],.agg [jI l.weight,jI l.along,jI l.high]] [] 0 Fr.emp (jI r) [] 0 Fr.emp:=by
 unfold g158 at h
 refine SCall.mkK Tryd.func158 c158 rfl rfl (by kernel_rfl) (fun Q_0 hR_0 hN_0=>?_)
 refine Sa (sT [pR 2 0,pR 3 1] [(1,.var 93 [jI l.weight,jI l.along,jI l.high]),(0,.var 96 (catV (cv25 bB) [.d (.sl 4 (List.map e103 bT)),jI bL.weight,jI bL.along,jI bL.high,.opq]))] 2 0) ?_
 refine AW.srwK (fun Q_1 hQ_1=>?_)
 refine Au 19 (sT [(13,jI (wr ((wr (bB.Back*l.weight))+l.along))),(23,.own 2 (List.map e3 [(wr ((wr (bB.Front*l.weight)) - l.along))]).length)] [(2,.row 3 1 (List.map e3 [(wr ((wr (bB.Front*l.weight)) - l.along))]))] 3 0) ?_
 obtain ⟨r0,hx_2,h⟩:=bsome h
 refine RW.one fokW (r_callF (rs:=[(2,.row 3 1 (List.map e3 [(wr ((wr (bB.Front*l.weight)) - l.along))]))]) trivial rfl (k160 (wr ((wr (bB.Back*l.weight))+l.along)) [(wr ((wr (bB.Front*l.weight)) - l.along))] _ hx_2) ⟨rfl,trivial⟩ ⟨.refl _,(.own rfl rfl),trivial⟩ rfl rfl rfl (r_end ?_))
 refine Au 1 (sT [(4,jI r0)] [] 3 0) ?_
 refine RW.nil (hQ_1 _ ?_)
 obtain rfl:=Option.some.inj h
 exact rT hR_0 (.cons (.tmp rfl) .nil)
def g159 (bB:StandBook) (bT:(List (Nat→Int))) (bL:Stand_load) (l:Stand_load):Option Int:=(g160 (wr ((wr (bB.Back*(wr ((wr (bB.Radius*l.weight)) - l.high))))+(wr (bB.Radius*l.along)))) [(wr ((wr (bB.Front*(wr ((wr (bB.Radius*l.weight)) - l.high)))) - (wr (bB.Radius*l.along))))]).bind fun r0=>some r0
def y7 (l:Stand_load) (bB:StandBook) (bT:(List (Nat→Int))) (bL:Stand_load):List (Nat×Blk):=[(1,.var 93 [jI l.weight,jI l.along,jI l.high]),(0,.var 96 (catV (cv25 bB) [.d (.sl 4 (List.map e103 bT)),jI bL.weight,jI bL.along,jI bL.high,.opq]))]
theorem k159 (bB:StandBook) (bT:(List (Nat→Int))) (bL:Stand_load) (l:Stand_load) (r:Int) (h:g159 bB bT bL l=some r):SCall Tryd.prog Gs 159 [.agg [jI bB.Kind,jI bB.Front,jI bB.Back,jI bB.Radius,.d (.sl 4 (List.map e36 bB.Parts)),jI bB.Along,jI bB.High,jI bB.Lean_,jI bB.Limit,.d (.sl 3 (List.map e29 bB.Trials)),.d (.sl 4 (List.map e103 bT)),jI bL.weight,jI bL.along,jI bL.high,.opq],.agg [jI l.weight,jI l.along,jI l.high]] [] 0 Fr.emp (jI r) [] 0 Fr.emp:=by
 unfold g159 at h
 refine SCall.mkK Tryd.func159 c159 rfl rfl (by kernel_rfl) (fun Q_0 hR_0 hN_0=>?_)
 refine Sa (sT [pR 2 0,pR 3 1] (y7 l bB bT bL) 2 0) ?_
 refine Sa (sT [pR 2 0,pR 3 1,(5,jI (wr ((wr (bB.Radius*l.weight)) - l.high)))] (y7 l bB bT bL) 2 0) ?_
 refine AW.srwK (fun Q_1 hQ_1=>?_)
 refine Au 25 (sT [(26,jI (wr ((wr (bB.Back*(wr ((wr (bB.Radius*l.weight)) - l.high))))+(wr (bB.Radius*l.along))))),(39,.own 2 (List.map e3 [(wr ((wr (bB.Front*(wr ((wr (bB.Radius*l.weight)) - l.high)))) - (wr (bB.Radius*l.along))))]).length)] [(2,.row 3 1 (List.map e3 [(wr ((wr (bB.Front*(wr ((wr (bB.Radius*l.weight)) - l.high)))) - (wr (bB.Radius*l.along))))]))] 3 0) ?_
 obtain ⟨r0,hx_2,h⟩:=bsome h
 refine RW.one fokW (r_callF (rs:=[(2,.row 3 1 (List.map e3 [(wr ((wr (bB.Front*(wr ((wr (bB.Radius*l.weight)) - l.high)))) - (wr (bB.Radius*l.along))))]))]) trivial rfl (k160 (wr ((wr (bB.Back*(wr ((wr (bB.Radius*l.weight)) - l.high))))+(wr (bB.Radius*l.along)))) [(wr ((wr (bB.Front*(wr ((wr (bB.Radius*l.weight)) - l.high)))) - (wr (bB.Radius*l.along))))] _ hx_2) ⟨rfl,trivial⟩ ⟨.refl _,(.own rfl rfl),trivial⟩ rfl rfl rfl (r_end ?_))
 refine Au 1 (sT [(4,jI r0)] [] 3 0) ?_
 refine RW.nil (hQ_1 _ ?_)
 obtain rfl:=Option.some.inj h
 exact rT hR_0 (.cons (.tmp rfl) .nil)
def g56 (bB:StandBook) (bT:(List (Nat→Int))) (bL:Stand_load) (w:(Nat→Int)) (c:Stand_child):Option Bool:=(ixN 2 bB.Kind).bind fun j=>match j with | 0=>(g108 bB bT bL w c).bind fun r0=>(g158 bB bT bL r0).bind fun r0_1=>some (decide (r0_1<0)) | 1=>(g108 bB bT bL w c).bind fun r0_2=>(g159 bB bT bL r0_2).bind fun r0_1_1=>some (decide (r0_1_1<0)) | _=>none
def y8 (c:Stand_child) (w:(Nat→Int)) (bB:StandBook) (bT:(List (Nat→Int))) (bL:Stand_load):List (Nat×Blk):=[(2,.var 105 [jI c.weight,jI c.lean]),(1,.var 103 [jI (w 0),jI (w 1),jI (w 2),jI (w 3)]),(0,.var 96 (catV (cv25 bB) [.d (.sl 4 (List.map e103 bT)),jI bL.weight,jI bL.along,jI bL.high,.opq]))]
theorem k56 (bB:StandBook) (bT:(List (Nat→Int))) (bL:Stand_load) (w:(Nat→Int)) (c:Stand_child) (r:Bool) (h:g56 bB bT bL w c=some r):SCall Tryd.prog Gs 56 [.agg [jI bB.Kind,jI bB.Front,jI bB.Back,jI bB.Radius,.d (.sl 4 (List.map e36 bB.Parts)),jI bB.Along,jI bB.High,jI bB.Lean_,jI bB.Limit,.d (.sl 3 (List.map e29 bB.Trials)),.d (.sl 4 (List.map e103 bT)),jI bL.weight,jI bL.along,jI bL.high,.opq],.agg [jI (w 0),jI (w 1),jI (w 2),jI (w 3)],.agg [jI c.weight,jI c.lean]] [] 0 Fr.emp (.d (.bool r)) [] 0 Fr.emp:=by
 unfold g56 at h
 refine SCall.mkK Tryd.func56 c56 rfl rfl (by kernel_rfl) (fun Q_0 hR_0 hN_0=>?_)
 refine Sa (sT [pR 3 0,pR 4 1,pR 5 2] (y8 c w bB bT bL) 3 0) ?_
 refine AW.sdrwK fokW (fun Q_1 hQ_1=>?_)
 refine aX 3 (sT [pR 3 0,pR 4 1,pR 5 2,(9,jI bB.Kind)] (y8 c w bB bT bL) 3 0) ?_
 obtain ⟨j,hv_2,h⟩:=bsome h
 rcases j with _ | _ | j
 ·refine r_iaF trivial rfl rfl (ixN_ok hv_2).1 (ixN_ok hv_2).2.1 ?_
  refine r_loadF trivial rfl (u:=.fn 158) (by rw [(ixN_ok hv_2).2.2];rfl) ?_
  refine aX 4 (sT [(11,.d (.fn 158)),(12,.agg [jI bB.Kind,jI bB.Front,jI bB.Back,jI bB.Radius,.d (.sl 4 (List.map e36 bB.Parts)),jI bB.Along,jI bB.High,jI bB.Lean_,jI bB.Limit,.d (.sl 3 (List.map e29 bB.Trials)),.d (.sl 4 (List.map e103 bT)),jI bL.weight,jI bL.along,jI bL.high,.opq]),(13,.agg [jI bB.Kind,jI bB.Front,jI bB.Back,jI bB.Radius,.d (.sl 4 (List.map e36 bB.Parts)),jI bB.Along,jI bB.High,jI bB.Lean_,jI bB.Limit,.d (.sl 3 (List.map e29 bB.Trials)),.d (.sl 4 (List.map e103 bT)),jI bL.weight,jI bL.along,jI bL.high,.opq]),(14,.agg [jI (w 0),jI (w 1),jI (w 2),jI (w 3)]),(15,.agg [jI c.weight,jI c.lean])] (y8 c w bB bT bL) 3 0) ?_
  obtain ⟨r0,hx_3,h⟩:=bsome h
  refine r_call trivial rfl (k108 bB bT bL w c _ hx_3) rfl rfl ?_
  obtain ⟨r0_1,hx_4,h⟩:=bsome h
  refine r_callvZ (zr:=[]) trivial rfl (.fn _) (by kernel_rfl) rfl (k158 bB bT bL r0 _ hx_4) trivial ⟨.refl _,.refl _,trivial⟩ rfl rfl rfl rfl ?_
  refine aX 2 (sT [(6,.d (.bool (decide (r0_1<0))))] (y8 c w bB bT bL) 3 0) ?_
  refine Fi (sT [(6,.d (.bool (decide (r0_1<0))))] [] 3 0) ?_
  refine hQ_1 _ ?_
  obtain rfl:=Option.some.inj h
  exact rT hR_0 (.cons (.tmp rfl) .nil)
 ·refine r_iaF trivial rfl rfl (ixN_ok hv_2).1 (ixN_ok hv_2).2.1 ?_
  refine r_loadF trivial rfl (u:=.fn 159) (by rw [(ixN_ok hv_2).2.2];rfl) ?_
  refine aX 4 (sT [(11,.d (.fn 159)),(12,.agg [jI bB.Kind,jI bB.Front,jI bB.Back,jI bB.Radius,.d (.sl 4 (List.map e36 bB.Parts)),jI bB.Along,jI bB.High,jI bB.Lean_,jI bB.Limit,.d (.sl 3 (List.map e29 bB.Trials)),.d (.sl 4 (List.map e103 bT)),jI bL.weight,jI bL.along,jI bL.high,.opq]),(13,.agg [jI bB.Kind,jI bB.Front,jI bB.Back,jI bB.Radius,.d (.sl 4 (List.map e36 bB.Parts)),jI bB.Along,jI bB.High,jI bB.Lean_,jI bB.Limit,.d (.sl 3 (List.map e29 bB.Trials)),.d (.sl 4 (List.map e103 bT)),jI bL.weight,jI bL.along,jI bL.high,.opq]),(14,.agg [jI (w 0),jI (w 1),jI (w 2),jI (w 3)]),(15,.agg [jI c.weight,jI c.lean])] (y8 c w bB bT bL) 3 0) ?_
  obtain ⟨r0_2,hx_5,h⟩:=bsome h
  refine r_call trivial rfl (k108 bB bT bL w c _ hx_5) rfl rfl ?_
  obtain ⟨r0_1_1,hx_6,h⟩:=bsome h
  refine r_callvZ (zr:=[]) trivial rfl (.fn _) (by kernel_rfl) rfl (k159 bB bT bL r0_2 _ hx_6) trivial ⟨.refl _,.refl _,trivial⟩ rfl rfl rfl rfl ?_
  refine aX 2 (sT [(6,.d (.bool (decide (r0_1_1<0))))] (y8 c w bB bT bL) 3 0) ?_
  refine Fi (sT [(6,.d (.bool (decide (r0_1_1<0))))] [] 3 0) ?_
  refine hQ_1 _ ?_
  obtain rfl:=Option.some.inj h
  exact rT hR_0 (.cons (.tmp rfl) .nil)
 ·cases h
def g64_3 (bB:StandBook) (bT:(List (Nat→Int))) (bL:Stand_load) (w:(Nat→Int)) (but:(List Int)):Int→StandTrial→Unit→Option (Ctl (Unit) (Bool)):=fun v p _=>(g106 but v).bind fun r0=>bif (!r0) then ((g56 bB bT bL w (Stand_child.mk p.Weight p.Lean_)).bind fun r0_4=>bif (true != (r0_4==p.Tipped)) then (some (.brk false)) else (some (.next ()))) else (some (.next ()))
def g64 (bB:StandBook) (bT:(List (Nat→Int))) (bL:Stand_load) (w:(Nat→Int)) (but:(List Int)):Option Bool:=bindC (eachC (g64_3 bB bT bL w but) bB.Trials 0 ()) fun _=>some true
def y9 (w:(Nat→Int)) (bB:StandBook) (bT:(List (Nat→Int))) (bL:Stand_load):List (Nat×Blk):=[(1,.var 103 [jI (w 0),jI (w 1),jI (w 2),jI (w 3)]),(0,.var 96 (catV (cv25 bB) [.d (.sl 4 (List.map e103 bT)),jI bL.weight,jI bL.along,jI bL.high,.opq]))]
theorem k64 (bB:StandBook) (bT:(List (Nat→Int))) (bL:Stand_load) (w:(Nat→Int)) (but:(List Int)) (r:Bool) (h:g64 bB bT bL w but=some r):SCall Tryd.prog Gs 64 [.agg [jI bB.Kind,jI bB.Front,jI bB.Back,jI bB.Radius,.d (.sl 4 (List.map e36 bB.Parts)),jI bB.Along,jI bB.High,jI bB.Lean_,jI bB.Limit,.d (.sl 3 (List.map e29 bB.Trials)),.d (.sl 4 (List.map e103 bT)),jI bL.weight,jI bL.along,jI bL.high,.opq],.agg [jI (w 0),jI (w 1),jI (w 2),jI (w 3)],.d (.sl 1 (List.map e3 but))] [] 0 Fr.emp (.d (.bool r)) [] 0 Fr.emp:=by
 unfold g64 at h
 refine SCall.mkK Tryd.func64 c64 rfl rfl (by kernel_rfl) (fun Q_0 hR_0 hN_0=>?_)
 refine Sa (sT [(2,.d (.sl 1 (List.map e3 but))),pR 3 0,pR 4 1] (y9 w bB bT bL) 2 0) ?_
 refine AW.seqK fun K_1 hK_1=>AW.srwK fun Q_2 hQ_2=>?_
 refine Au 3 (sT [(2,.d (.sl 1 (List.map e3 but))),pR 3 0,pR 4 1,(11,.d (.sl 3 (List.map e29 bB.Trials)))] (y9 w bB bT bL) 2 0) ?_
 refine rL rfl ?_
 refine Au 1 (sT [(2,.d (.sl 1 (List.map e3 but))),pR 3 0,pR 4 1,(11,.d (.sl 3 (List.map e29 bB.Trials))),(12,jI (bB.Trials.length:Int)),(13,jI 0)] (y9 w bB bT bL) 2 0) ?_
 refine RW.nil (hQ_2 _ ?_)
 refine AW.block ?_
 refine AW.sln (t:=11) rfl (fun hN_3=>?_)
 rw [List.length_map] at hN_3
 obtain ⟨out_3,hx_3,hk_3⟩:=bsomeC h
 refine AW.evCK (fun (v:Int) (_:Unit)=>(sT [(2,.d (.sl 1 (List.map e3 but))),pR 3 0,pR 4 1,(11,.d (.sl 3 (List.map e29 bB.Trials))),(12,jI (bB.Trials.length:Int)),(13,jI v)] (y9 w bB bT bL) 2 0)) (g64_3 bB bT bL w but) hx_3 (Can.kp (by kernel_rfl)) (fun v p s_3 hi_3 hl_3 hp_3 c_3 h hb_3 K_3 hK_3=>?_) (fun v s_3 hi_3 hl_3 hout=>?_)
 ·unfold g64_3 at h
  refine Sa (sT [(2,.d (.sl 1 (List.map e3 but))),pR 3 0,pR 4 1,(11,.d (.sl 3 (List.map e29 bB.Trials))),(12,jI (bB.Trials.length:Int)),(13,jI v),(14,.d (.bool (decide (v<(bB.Trials.length:Int)))))] (y9 w bB bT bL) 2 0) ?_
  refine AW.seqK (fun K_4 hK_4=>?_)
  refine AW.cond rfl (fun hb_5=>?_) (fun hb_5=>False.elim (by have:=of_decide_eq_false hb_5;omega))
  refine AW.skip (hK_4 _ ?_)
  refine AW.seqK (fun K_6 hK_6=>?_)
  refine AW.block ?_
  refine AW.srwK (fun Q_7 hQ_7=>?_)
  refine Au 1 (sT [(2,.d (.sl 1 (List.map e3 but))),pR 3 0,pR 4 1,(11,.d (.sl 3 (List.map e29 bB.Trials))),(12,jI (bB.Trials.length:Int)),(13,jI v),(15,jI v)] (y9 w bB bT bL) 2 0) ?_
  refine RW.one fokW (r_iaD trivial rfl rfl hi_3 (row:=e29 p) (mapget hp_3) (r_end ?_))
  refine Au 4 (sT [(2,.d (.sl 1 (List.map e3 but))),pR 3 0,pR 4 1,(7,jI v),pR 8 2,(11,.d (.sl 3 (List.map e29 bB.Trials))),(12,jI (bB.Trials.length:Int)),(13,jI v)] [(2,.var 29 [jI p.Weight,jI p.Lean_,.d (.bool p.Tipped)]),(1,.var 103 [jI (w 0),jI (w 1),jI (w 2),jI (w 3)]),(0,.var 96 (catV (cv25 bB) [.d (.sl 4 (List.map e103 bT)),jI bL.weight,jI bL.along,jI bL.high,.opq]))] 3 0) ?_
  refine RW.nil (hQ_7 _ ?_)
  refine AW.sdrwK fokW (fun Q_8 hQ_8=>?_)
  refine aX 2 (sT [(2,.d (.sl 1 (List.map e3 but))),pR 3 0,pR 4 1,pR 8 2,(11,.d (.sl 3 (List.map e29 bB.Trials))),(12,jI (bB.Trials.length:Int)),(13,jI v),(18,.d (.sl 1 (List.map e3 but))),(19,jI v)] [(2,.var 29 [jI p.Weight,jI p.Lean_,.d (.bool p.Tipped)]),(1,.var 103 [jI (w 0),jI (w 1),jI (w 2),jI (w 3)]),(0,.var 96 (catV (cv25 bB) [.d (.sl 4 (List.map e103 bT)),jI bL.weight,jI bL.along,jI bL.high,.opq]))] 3 0) ?_
  obtain ⟨r0,hx_9,h⟩:=bsome h
  refine r_call trivial rfl (k106 but v _ hx_9) rfl rfl ?_
  refine aX 2 (sT [(2,.d (.sl 1 (List.map e3 but))),pR 3 0,pR 4 1,pR 8 2,(11,.d (.sl 3 (List.map e29 bB.Trials))),(12,jI (bB.Trials.length:Int)),(13,jI v),(22,.d (.bool (!r0)))] [(2,.var 29 [jI p.Weight,jI p.Lean_,.d (.bool p.Tipped)]),(1,.var 103 [jI (w 0),jI (w 1),jI (w 2),jI (w 3)]),(0,.var 96 (catV (cv25 bB) [.d (.sl 4 (List.map e103 bT)),jI bL.weight,jI bL.along,jI bL.high,.opq]))] 3 0) ?_
  refine r_split 22 rfl (fun hb_10=>?_) (fun hb_10=>?_)
  ·have h:=ifT hb_10 h
   refine aX 7 (sT [(2,.d (.sl 1 (List.map e3 but))),pR 3 0,pR 4 1,pR 8 2,(11,.d (.sl 3 (List.map e29 bB.Trials))),(12,jI (bB.Trials.length:Int)),(13,jI v),(22,.d (.bool true)),(23,.agg [jI bB.Kind,jI bB.Front,jI bB.Back,jI bB.Radius,.d (.sl 4 (List.map e36 bB.Parts)),jI bB.Along,jI bB.High,jI bB.Lean_,jI bB.Limit,.d (.sl 3 (List.map e29 bB.Trials)),.d (.sl 4 (List.map e103 bT)),jI bL.weight,jI bL.along,jI bL.high,.opq]),(24,.agg [jI (w 0),jI (w 1),jI (w 2),jI (w 3)]),(29,.agg [jI p.Weight,jI p.Lean_])] [(2,.var 29 [jI p.Weight,jI p.Lean_,.d (.bool p.Tipped)]),(1,.var 103 [jI (w 0),jI (w 1),jI (w 2),jI (w 3)]),(0,.var 96 (catV (cv25 bB) [.d (.sl 4 (List.map e103 bT)),jI bL.weight,jI bL.along,jI bL.high,.opq]))] 3 0) ?_
   obtain ⟨r0_4,hx_11,h⟩:=bsome h
   refine r_call rfl rfl (k56 bB bT bL w (Stand_child.mk p.Weight p.Lean_) _ hx_11) rfl rfl ?_
   refine aX 4 (sT [(2,.d (.sl 1 (List.map e3 but))),pR 3 0,pR 4 1,(11,.d (.sl 3 (List.map e29 bB.Trials))),(12,jI (bB.Trials.length:Int)),(13,jI v),(34,.d (.bool (true != (r0_4==p.Tipped))))] [(2,.var 29 [jI p.Weight,jI p.Lean_,.d (.bool p.Tipped)]),(1,.var 103 [jI (w 0),jI (w 1),jI (w 2),jI (w 3)]),(0,.var 96 (catV (cv25 bB) [.d (.sl 4 (List.map e103 bT)),jI bL.weight,jI bL.along,jI bL.high,.opq]))] 3 0) ?_
   refine Fi (sT [(2,.d (.sl 1 (List.map e3 but))),pR 3 0,pR 4 1,(11,.d (.sl 3 (List.map e29 bB.Trials))),(12,jI (bB.Trials.length:Int)),(13,jI v),(34,.d (.bool (true != (r0_4==p.Tipped))))] (y9 w bB bT bL) 3 0) ?_
   refine hQ_8 _ ?_
   refine AW.cond rfl (fun hb_12=>?_) (fun hb_12=>?_)
   ·have h:=ifT hb_12 h
    refine Sa (sT [(6,.d (.bool false))] [] 3 0) ?_
    obtain rfl:=Option.some.inj h
    have e_1:=hb_3 _ rfl
    subst e_1
    obtain rfl:=Aft.bk hk_3
    exact rT hR_0 (.cons (.tmp rfl) .nil)
   ·have h:=ifF hb_12 h
    refine AW.skip (hK_6 _ ?_)
    refine Ra (sT [(2,.d (.sl 1 (List.map e3 but))),pR 3 0,pR 4 1,(11,.d (.sl 3 (List.map e29 bB.Trials))),(12,jI (bB.Trials.length:Int)),(13,jI (wr (v+1)))] (y9 w bB bT bL) 3 0) ?_
    obtain rfl:=Option.some.inj h
    have ew:wr (v+1)=v+1:=inext (N:=(bB.Trials.length:Int)) (by omega) (by omega) (by omega)
    rw [ew]
    exact hK_3 _ _ rfl (Can.kp (by kernel_rfl))
  ·have h:=ifF hb_10 h
   refine aX 12 (sT [(2,.d (.sl 1 (List.map e3 but))),pR 3 0,pR 4 1,(11,.d (.sl 3 (List.map e29 bB.Trials))),(12,jI (bB.Trials.length:Int)),(13,jI v),(34,.d (.bool false))] [(2,.var 29 [jI p.Weight,jI p.Lean_,.d (.bool p.Tipped)]),(1,.var 103 [jI (w 0),jI (w 1),jI (w 2),jI (w 3)]),(0,.var 96 (catV (cv25 bB) [.d (.sl 4 (List.map e103 bT)),jI bL.weight,jI bL.along,jI bL.high,.opq]))] 3 0) ?_
   refine Fi (sT [(2,.d (.sl 1 (List.map e3 but))),pR 3 0,pR 4 1,(11,.d (.sl 3 (List.map e29 bB.Trials))),(12,jI (bB.Trials.length:Int)),(13,jI v),(34,.d (.bool false))] (y9 w bB bT bL) 3 0) ?_
   refine hQ_8 _ ?_
   refine AW.condF rfl ?_
   refine AW.skip (hK_6 _ ?_)
   refine Ra (sT [(2,.d (.sl 1 (List.map e3 but))),pR 3 0,pR 4 1,(11,.d (.sl 3 (List.map e29 bB.Trials))),(12,jI (bB.Trials.length:Int)),(13,jI (wr (v+1)))] (y9 w bB bT bL) 3 0) ?_
   obtain rfl:=Option.some.inj h
   have ew:wr (v+1)=v+1:=inext (N:=(bB.Trials.length:Int)) (by omega) (by omega) (by omega)
   rw [ew]
   exact hK_3 _ _ rfl (Can.kp (by kernel_rfl))
 ·subst hout
  have h:=Aft.nx hk_3
  refine Sa (sT [(2,.d (.sl 1 (List.map e3 but))),pR 3 0,pR 4 1,(11,.d (.sl 3 (List.map e29 bB.Trials))),(12,jI (bB.Trials.length:Int)),(13,jI v),(14,.d (.bool (decide (v<(bB.Trials.length:Int)))))] (y9 w bB bT bL) 2 0) ?_
  refine AW.seqK (fun K_13 hK_13=>?_)
  refine AW.cond rfl (fun hb_14=>False.elim (by have:=of_decide_eq_true hb_14;omega)) (fun hb_14=>?_)
  refine AW.exit ?_
  refine hK_1 _ ?_
  refine Sa (sT [(6,.d (.bool true))] [] 2 0) ?_
  obtain rfl:=Option.some.inj h
  exact rT hR_0 (.cons (.tmp rfl) .nil)
def g52_r4 (x:StandBook):((Nat→Int))→(List (Nat→Int))→Option (Ctl (List (Nat→Int)) (Unit)):=fun a l=>(g64 x l (Stand_load.mk 0 0 0) a ([]:(List Int))).bind fun r0_2=>bif r0_2 then ((appL 32 l [a]).bind fun l1=>some (.next l1)) else (some (.next l))
def g52 (x:StandBook):Option (StandBook×(List (Nat→Int))×Stand_load×(List (Stand_child×StandRatio))):=(g63 x ([]:(List (Nat→Int))) (Stand_load.mk 0 0 0)).bind fun (o0B,o0T,o0L)=>(g111 (fun a s=>rndC (g52_r4 x) a s) o0B o0T o0L (.next ([]:List (Nat→Int)))).bind fun out_4=>match out_4 with | .next l=>some (x,l,(Stand_load.mk 0 0 0),[]) | .brk _=>none
def y10 (x:StandBook):List (Nat×Blk):=[(3,.var 96 (catV (cv25 x) [.d (.nilSl),jI 0,jI 0,jI 0,.map 2])),(2,.mp (List.map m105_43 [])),(1,.var 96 [jI 0,jI 0,jI 0,jI 0,.d (.nilSl),jI 0,jI 0,jI 0,jI 0,.d (.nilSl),.d (.nilSl),jI 0,jI 0,jI 0,.d (.nilMap)])]
def y11 (a:(Nat→Int)) (x:StandBook) (l:List (Nat→Int)):List (Nat×Blk):=[(7,.var 103 [jI (a 0),jI (a 1),jI (a 2),jI (a 3)]),(6,.dm),(3,.var 96 (catV (cv25 x) [.own 5 (List.map e103 l).length,jI 0,jI 0,jI 0,.map 2])),(5,.row 103 4 (List.map e103 l)),(2,.mp (List.map m105_43 [])),(1,.var 96 [jI 0,jI 0,jI 0,jI 0,.d (.nilSl),jI 0,jI 0,jI 0,jI 0,.d (.nilSl),.d (.nilSl),jI 0,jI 0,jI 0,.d (.nilMap)])]
theorem k52 (x:StandBook) (r:StandBook×(List (Nat→Int))×Stand_load×(List (Stand_child×StandRatio))) (h:g52 x=some r):SCall Tryd.prog Gs 52 [.agg [jI x.Kind,jI x.Front,jI x.Back,jI x.Radius,.d (.sl 4 (List.map e36 x.Parts)),jI x.Along,jI x.High,jI x.Lean_,jI x.Limit,.d (.sl 3 (List.map e29 x.Trials))]] [] 0 Fr.emp (match r with | (r0B,r0T,r0L,m2)=>.agg [jI r0B.Kind,jI r0B.Front,jI r0B.Back,jI r0B.Radius,.d (.sl 4 (List.map e36 r0B.Parts)),jI r0B.Along,jI r0B.High,jI r0B.Lean_,jI r0B.Limit,.d (.sl 3 (List.map e29 r0B.Trials)),.d (.sl 4 (List.map e103 r0T)),jI r0L.weight,jI r0L.along,jI r0L.high,.map 2]) (match r with | (r0B,r0T,r0L,m2)=>[(2,.mp (List.map m105_43 m2))]) 3 Fr.emp:=by
 unfold g52 at h
 refine SCall.mkK Tryd.func52 c52 rfl rfl (by kernel_rfl) (fun Q_0 hR_0 hN_0=>?_)
 refine Sa (sT [pR 1 0,pR 2 1] [(1,.var 96 [jI 0,jI 0,jI 0,jI 0,.d (.nilSl),jI 0,jI 0,jI 0,jI 0,.d (.nilSl),.d (.nilSl),jI 0,jI 0,jI 0,.d (.nilMap)]),(0,.var 25 (cv25 x))] 2 0) ?_
 refine Sa (sT [pR 2 1,pR 3 3] (y10 x) 4 0) ?_
 refine AW.seqK fun K_1 hK_1=>AW.srwK fun Q_2 hQ_2=>?_
 refine Au 1 (sT [pR 2 1,pR 3 3,(8,.agg [jI x.Kind,jI x.Front,jI x.Back,jI x.Radius,.d (.sl 4 (List.map e36 x.Parts)),jI x.Along,jI x.High,jI x.Lean_,jI x.Limit,.d (.sl 3 (List.map e29 x.Trials)),.d (.nilSl),jI 0,jI 0,jI 0,.map 2])] (y10 x) 4 0) ?_
 obtain ⟨⟨o0B,o0T,o0L⟩,hx_3,h⟩:=bsome h
 refine RW.one fokW (r_callS (zr:=[]) [] trivial rfl (k63 x ([]:(List (Nat→Int))) (Stand_load.mk 0 0 0) _ hx_3) trivial rfl rfl ⟨(Frz.agg_of ⟨.refl _,.refl _,.refl _,.refl _,.refl _,.refl _,.refl _,.refl _,.refl _,.refl _,(.nil 4),.refl _,.refl _,.refl _,(.opq rfl (by intro _ h;cases h)),trivial⟩),trivial⟩ rfl rfl rfl (r_end ?_))
 refine RW.nil (hQ_2 _ ?_)
 refine AW.block ?_
 refine AW.can (Can.thawH 3 10 96 103 4 rfl rfl rfl) ?_
 obtain ⟨out_4,hx_4,h⟩:=bsome h
 refine AW.rfX (fun (l:List (Nat→Int))=>[(6,.dm),(3,.var 96 (catV (cv25 x) [.own 5 (List.map e103 l).length,jI 0,jI 0,jI 0,.map 2])),(5,.row 103 4 (List.map e103 l)),(2,.mp (List.map m105_43 [])),(1,.var 96 [jI 0,jI 0,jI 0,jI 0,.d (.nilSl),jI 0,jI 0,jI 0,jI 0,.d (.nilSl),.d (.nilSl),jI 0,jI 0,jI 0,.d (.nilMap)])]) (fun (_:Unit)=>[]) (fun _=>some .ret) (g52_r4 x) (fun (a:(Nat→Int))=>[.agg [jI (a 0),jI (a 1),jI (a 2),jI (a 3)]]) (s0:=([]:List (Nat→Int))) (out:=out_4) [pR 2 1,pR 3 3] [(3,.var 96 (catV (cv25 x) [.own 5 (List.map e103 []).length,jI 0,jI 0,jI 0,.map 2])),(5,.row 103 4 (List.map e103 [])),(2,.mp (List.map m105_43 [])),(1,.var 96 [jI 0,jI 0,jI 0,jI 0,.d (.nilSl),jI 0,jI 0,jI 0,jI 0,.d (.nilSl),.d (.nilSl),jI 0,jI 0,jI 0,.d (.nilMap)])] [4] rfl (.clo _ _ _) (by kernel_rfl) (by kernel_rfl) (fun fr_ hY_4=>k111 fr_ _ (fun a s s2 b h=>hY_4 a s s2 b h) o0B o0T o0L (.next ([]:List (Nat→Int))) _ hx_4) (by kernel_rfl) ⟨rfl,trivial⟩ rfl ⟨rfl,rfl⟩ rfl rfl (fun _=>rfl) (fun _=>rfl) (fun a_4 s_4 c_4 h l_4=>?_) (fun _=>rfl) ?_
 ·have ⟨a,e_4⟩:∃ x,x=a_4:=⟨_,rfl⟩
  subst e_4
  have ⟨l,e_4⟩:∃ x,x=s_4:=⟨_,rfl⟩
  subst e_4
  unfold g52_r4 at h
  refine AW.ra (fokR l_4) [] (sT [pR 3 3,pR 4 7] (y11 a x l) 8 7) (by kernel_rfl) ?_
  refine AW.block ?_
  refine AW.srwK (fun Q_5 hQ_5=>?_)
  refine RW.au (fokR l_4) 2 [] (sT [pR 3 3,pR 4 7,(11,.agg [jI x.Kind,jI x.Front,jI x.Back,jI x.Radius,.d (.sl 4 (List.map e36 x.Parts)),jI x.Along,jI x.High,jI x.Lean_,jI x.Limit,.d (.sl 3 (List.map e29 x.Trials)),.own 5 (List.map e103 l).length,jI 0,jI 0,jI 0,.map 2]),(12,.agg [jI (a 0),jI (a 1),jI (a 2),jI (a 3)])] (y11 a x l) 8 7) (by kernel_rfl) ?_
  obtain ⟨r0_2,hx_6,h⟩:=bsome h
  refine RW.one (fokR l_4) (r_callF (rs:=[(5,.row 103 4 (List.map e103 l))]) trivial rfl (k64 x l (Stand_load.mk 0 0 0) a ([]:(List Int)) _ hx_6) ⟨rfl,trivial⟩ ⟨(Frz.agg_of ⟨.refl _,.refl _,.refl _,.refl _,.refl _,.refl _,.refl _,.refl _,.refl _,.refl _,(.own rfl rfl),.refl _,.refl _,.refl _,(.opq rfl (by intro _ h;cases h)),trivial⟩),.refl _,(.nil 1),trivial⟩ rfl rfl rfl (r_end ?_))
  refine RW.nil (hQ_5 _ ?_)
  refine AW.cond rfl (fun hb_7=>?_) (fun hb_7=>?_)
  ·have h:=ifT hb_7 h
   refine AW.rw ?_
   refine RW.au (fokR l_4) 4 [] (sT [pR 3 3,(15,.own 5 (List.map e103 l).length),(17,.own 8 (List.map e103 [a]).length)] [(8,.row 103 4 (List.map e103 [a])),(6,.dm),(3,.var 96 (catV (cv25 x) [.own 5 (List.map e103 l).length,jI 0,jI 0,jI 0,.map 2])),(5,.row 103 4 (List.map e103 l)),(2,.mp (List.map m105_43 [])),(1,.var 96 [jI 0,jI 0,jI 0,jI 0,.d (.nilSl),jI 0,jI 0,jI 0,jI 0,.d (.nilSl),.d (.nilSl),jI 0,jI 0,jI 0,.d (.nilMap)])] 9 7) (by kernel_rfl) ?_
   obtain ⟨l1,hv_9,h⟩:=bsome h
   refine RW.one (fokR l_4) (r_apO trivial rfl rfl rfl rfl rfl rfl (apz hv_9 e103) (apr hv_9 e103) (r_end ?_))
   refine RW.au (fokR l_4) 2 [] (sT [] [(3,.var 96 (catV (cv25 x) [.own 5 (List.map e103 l1).length,jI 0,jI 0,jI 0,.map 2])),(5,.row 103 4 (List.map e103 l1)),(6,.dm),(2,.mp (List.map m105_43 [])),(1,.var 96 [jI 0,jI 0,jI 0,jI 0,.d (.nilSl),jI 0,jI 0,jI 0,jI 0,.d (.nilSl),.d (.nilSl),jI 0,jI 0,jI 0,.d (.nilMap)])] 9 7) (by kernel_rfl) ?_
   refine RW.nil ?_
   obtain rfl:=Option.some.inj h
   exact ⟨(sT [] [(6,.dm),(3,.var 96 (catV (cv25 x) [.own 5 (List.map e103 l1).length,jI 0,jI 0,jI 0,.map 2])),(5,.row 103 4 (List.map e103 l1)),(2,.mp (List.map m105_43 [])),(1,.var 96 [jI 0,jI 0,jI 0,jI 0,.d (.nilSl),jI 0,jI 0,jI 0,jI 0,.d (.nilSl),.d (.nilSl),jI 0,jI 0,jI 0,.d (.nilMap)])] 7 7),Can.kp (by kernel_rfl),rdX trivial rfl (by kernel_rfl) (by kernel_rfl)⟩
  ·have h:=ifF hb_7 h
   refine AW.skip ?_
   obtain rfl:=Option.some.inj h
   exact ⟨(sT [] [(6,.dm),(3,.var 96 (catV (cv25 x) [.own 5 (List.map e103 l).length,jI 0,jI 0,jI 0,.map 2])),(5,.row 103 4 (List.map e103 l)),(2,.mp (List.map m105_43 [])),(1,.var 96 [jI 0,jI 0,jI 0,jI 0,.d (.nilSl),jI 0,jI 0,jI 0,jI 0,.d (.nilSl),.d (.nilSl),jI 0,jI 0,jI 0,.d (.nilMap)])] 7 7),Can.kp (by kernel_rfl),rdX trivial rfl (by kernel_rfl) (by kernel_rfl)⟩
 ·rcases out_4 with l | _
  ·refine hK_1 _ ?_
   refine Sa ⟨[pR 2 1],[(1,.var 96 (catV (cv25 x) [.own 5 (List.map e103 l).length,jI 0,jI 0,jI 0,.map 2])),(6,.dm),(5,.row 103 4 (List.map e103 l)),(2,.mp (List.map m105_43 []))],7,Fr.emp,[6],0⟩ ?_
   obtain rfl:=Option.some.inj h
   exact AW.ret (hR_0 _ (retX (.cons (.agg rfl rfl (Nat.le_of_ble_eq_true rfl)) .nil) (Frz.agg_of ⟨.refl _,.refl _,.refl _,.refl _,.refl _,.refl _,.refl _,.refl _,.refl _,.refl _,(.own rfl rfl),.refl _,.refl _,.refl _,.refl _,trivial⟩) rfl (by kernel_rfl) (by kernel_rfl)))
  ·cases h
end Go.Proofs.Tk
namespace Go.Proofs.Tk
open Go Go.Abs Go.Proofs
def g11 (x:StandBook):Option (Bool×Int):=(g20 x).bind fun A1=>bif (decide (A1≠0)) then (some (false,A1)) else ((g52 x).bind fun (r0B,r0T,r0L,m2)=>some ((decide (0<(r0T.length:Int))),0))
theorem k11 (x:StandBook) (r:Bool×Int) (h:g11 x=some r):SCall Tryd.prog Gs 11 [.agg [jI x.Kind,jI x.Front,jI x.Back,jI x.Radius,.d (.sl 4 (List.map e36 x.Parts)),jI x.Along,jI x.High,jI x.Lean_,jI x.Limit,.d (.sl 3 (List.map e29 x.Trials))]] [] 0 Fr.emp (match r with | (r0_1,r1_1)=>.tup [.d (.bool r0_1),jI r1_1]) [] 0 Fr.emp:=by
 unfold g11 at h
 refine SCall.mkK Tryd.func11 c11 rfl rfl (by kernel_rfl) (fun Q_0 hR_0 hN_0=>?_)
 refine Sa (sT [pR 1 0] [(0,.var 25 (cv25 x))] 1 0) ?_
 refine AW.seqK fun K_1 hK_1=>AW.srwK fun Q_2 hQ_2=>?_
 refine Au 1 (sT [pR 1 0,(5,.agg [jI x.Kind,jI x.Front,jI x.Back,jI x.Radius,.d (.sl 4 (List.map e36 x.Parts)),jI x.Along,jI x.High,jI x.Lean_,jI x.Limit,.d (.sl 3 (List.map e29 x.Trials))])] [(0,.var 25 (cv25 x))] 1 0) ?_
 obtain ⟨A1,hx_3,h⟩:=bsome h
 refine rC (k20 x _ hx_3) ?_
 refine Au 1 (sT [pR 1 0,(4,jI A1)] [(0,.var 25 (cv25 x))] 1 0) ?_
 refine RW.nil (hQ_2 _ ?_)
 refine Sa (sT [pR 1 0,(4,jI A1),(8,.d (.bool (decide (A1≠0))))] [(0,.var 25 (cv25 x))] 1 0) ?_
 refine AW.cond rfl (fun hb_4=>?_) (fun hb_4=>?_)
 ·have h:=ifT hb_4 h
  refine Sa (sT [(2,.d (.bool false)),(3,jI A1)] [] 1 0) ?_
  obtain rfl:=Option.some.inj h
  exact rT hR_0 (.cons (.tmp rfl) (.cons (.tmp rfl) .nil))
 ·have h:=ifF hb_4 h
  refine AW.skip (hK_1 _ ?_)
  refine AW.srwK (fun Q_5 hQ_5=>?_)
  refine Au 1 (sT [(10,.agg [jI x.Kind,jI x.Front,jI x.Back,jI x.Radius,.d (.sl 4 (List.map e36 x.Parts)),jI x.Along,jI x.High,jI x.Lean_,jI x.Limit,.d (.sl 3 (List.map e29 x.Trials))])] [] 1 0) ?_
  obtain ⟨⟨r0B,r0T,r0L,m2⟩,hx_6,h⟩:=bsome h
  refine RW.one fokW (r_callS (zr:=[]) [] trivial rfl (k52 x _ hx_6) trivial rfl rfl ⟨.refl _,trivial⟩ rfl rfl rfl (r_end ?_))
  refine Au 1 (sT [(12,.d (.sl 4 (List.map e103 r0T)))] [] 4 0) ?_
  refine rL rfl ?_
  refine Au 3 (sT [(2,.d (.bool (decide (0<(r0T.length:Int))))),(3,jI 0)] [] 4 0) ?_
  refine RW.nil (hQ_5 _ ?_)
  obtain rfl:=Option.some.inj h
  exact rT hR_0 (.cons (.tmp rfl) (.cons (.tmp rfl) .nil))
def g54 (x:StandBook) (n:Int):Option Bool:=(g59 n 1 x.Limit).bind fun r0=>some r0
theorem k54 (x:StandBook) (n:Int) (r:Bool) (h:g54 x n=some r):SCall Tryd.prog Gs 54 [.agg [jI x.Kind,jI x.Front,jI x.Back,jI x.Radius,.d (.sl 4 (List.map e36 x.Parts)),jI x.Along,jI x.High,jI x.Lean_,jI x.Limit,.d (.sl 3 (List.map e29 x.Trials))],jI n] [] 0 Fr.emp (.d (.bool r)) [] 0 Fr.emp:=by
 unfold g54 at h
 refine SCall.mkK Tryd.func54 c54 rfl rfl (by kernel_rfl) (fun Q_0 hR_0 hN_0=>?_)
 refine Sa (sT [(1,jI n),pR 2 0] [(0,.var 25 (cv25 x))] 1 0) ?_
 refine AW.srwK (fun Q_1 hQ_1=>?_)
 refine Au 3 (sT [(5,jI n),(7,jI x.Limit)] [] 1 0) ?_
 obtain ⟨r0,hx_2,h⟩:=bsome h
 refine rC (k59 n 1 x.Limit _ hx_2) ?_
 refine Au 1 (sT [(4,.d (.bool r0))] [] 1 0) ?_
 refine RW.nil (hQ_1 _ ?_)
 obtain rfl:=Option.some.inj h
 exact rT hR_0 (.cons (.tmp rfl) .nil)
def g55 (x:StandBook) (n:Int):Option Bool:=(g59 n (wr (-x.Lean_)) x.Lean_).bind fun r0=>some r0
theorem k55 (x:StandBook) (n:Int) (r:Bool) (h:g55 x n=some r):SCall Tryd.prog Gs 55 [.agg [jI x.Kind,jI x.Front,jI x.Back,jI x.Radius,.d (.sl 4 (List.map e36 x.Parts)),jI x.Along,jI x.High,jI x.Lean_,jI x.Limit,.d (.sl 3 (List.map e29 x.Trials))],jI n] [] 0 Fr.emp (.d (.bool r)) [] 0 Fr.emp:=by
 unfold g55 at h
 refine SCall.mkK Tryd.func55 c55 rfl rfl (by kernel_rfl) (fun Q_0 hR_0 hN_0=>?_)
 refine Sa (sT [(1,jI n),pR 2 0] [(0,.var 25 (cv25 x))] 1 0) ?_
 refine AW.srwK (fun Q_1 hQ_1=>?_)
 refine Au 6 (sT [(5,jI n),(8,jI (wr (-x.Lean_))),(10,jI x.Lean_)] [] 1 0) ?_
 obtain ⟨r0,hx_2,h⟩:=bsome h
 refine rC (k59 n (wr (-x.Lean_)) x.Lean_ _ hx_2) ?_
 refine Au 1 (sT [(4,.d (.bool r0))] [] 1 0) ?_
 refine RW.nil (hQ_1 _ ?_)
 obtain rfl:=Option.some.inj h
 exact rT hR_0 (.cons (.tmp rfl) .nil)
def g53 (x:StandBook) (is:Bool):Option (Ctl (StandBook×(List (Nat→Int))×Stand_load×Int) (StandBook×(List (Nat→Int))×Stand_load×Int×(List (Stand_child×StandRatio)))):=(g20 x).bind fun A1=>bif (decide (A1≠0)) then (some (.next ((StandBook.mk 0 0 0 0 [] 0 0 0 0 []),[],(Stand_load.mk 0 0 0),A1))) else (bif (!is) then (some (.next ((StandBook.mk 0 0 0 0 [] 0 0 0 0 []),[],(Stand_load.mk 0 0 0),21))) else ((g52 x).bind fun (r0B,r0T,r0L,m2)=>bif (decide ((r0T.length:Int)=0)) then (some (.brk (r0B,r0T,r0L,22,m2))) else (some (.brk (r0B,r0T,r0L,0,m2)))))
def y12 (x:StandBook):List (Nat×Blk):=[(1,.var 96 [jI 0,jI 0,jI 0,jI 0,.d (.nilSl),jI 0,jI 0,jI 0,jI 0,.d (.nilSl),.d (.nilSl),jI 0,jI 0,jI 0,.d (.nilMap)]),(0,.var 25 (cv25 x))]
def y13:List (Nat×Blk):=[(1,.var 96 [jI 0,jI 0,jI 0,jI 0,.d (.nilSl),jI 0,jI 0,jI 0,jI 0,.d (.nilSl),.d (.nilSl),jI 0,jI 0,jI 0,.d (.nilMap)])]
theorem k53 (x:StandBook) (is:Bool) (r:Ctl (StandBook×(List (Nat→Int))×Stand_load×Int) (StandBook×(List (Nat→Int))×Stand_load×Int×(List (Stand_child×StandRatio)))) (h:g53 x is=some r):SCall Tryd.prog Gs 53 [.agg [jI x.Kind,jI x.Front,jI x.Back,jI x.Radius,.d (.sl 4 (List.map e36 x.Parts)),jI x.Along,jI x.High,jI x.Lean_,jI x.Limit,.d (.sl 3 (List.map e29 x.Trials))],.d (.bool is)] [] 0 Fr.emp (match r with | .next (r0B5,r0T5,r0L5,r1_2)=>.tup [.agg [jI r0B5.Kind,jI r0B5.Front,jI r0B5.Back,jI r0B5.Radius,.d (.sl 4 (List.map e36 r0B5.Parts)),jI r0B5.Along,jI r0B5.High,jI r0B5.Lean_,jI r0B5.Limit,.d (.sl 3 (List.map e29 r0B5.Trials)),.d (.sl 4 (List.map e103 r0T5)),jI r0L5.weight,jI r0L5.along,jI r0L5.high,.d (.nilMap)],jI r1_2] | .brk (r0B6,r0T6,r0L6,r1_3,m4_1)=>.tup [.agg [jI r0B6.Kind,jI r0B6.Front,jI r0B6.Back,jI r0B6.Radius,.d (.sl 4 (List.map e36 r0B6.Parts)),jI r0B6.Along,jI r0B6.High,jI r0B6.Lean_,jI r0B6.Limit,.d (.sl 3 (List.map e29 r0B6.Trials)),.d (.sl 4 (List.map e103 r0T6)),jI r0L6.weight,jI r0L6.along,jI r0L6.high,.map 4],jI r1_3]) (match r with | .next (r0B5,r0T5,r0L5,r1_2)=>[] | .brk (r0B6,r0T6,r0L6,r1_3,m4_1)=>[(4,.mp (List.map m105_43 m4_1))]) (match r with | .next (r0B5,r0T5,r0L5,r1_2)=>0 | .brk (r0B6,r0T6,r0L6,r1_3,m4_1)=>5) Fr.emp:=by
 unfold g53 at h
 refine SCall.mkK Tryd.func53 c53 rfl (by rcases r with _ | _<;>rfl) (by rcases r with _ | _<;>kernel_rfl) (fun Q_0 hR_0 hN_0=>?_)
 refine Sa (sT [(1,.d (.bool is)),pR 2 0,pR 4 1] (y12 x) 2 0) ?_
 refine AW.seqK fun K_1 hK_1=>AW.srwK fun Q_2 hQ_2=>?_
 refine Au 1 (sT [(1,.d (.bool is)),pR 2 0,pR 4 1,(8,.agg [jI x.Kind,jI x.Front,jI x.Back,jI x.Radius,.d (.sl 4 (List.map e36 x.Parts)),jI x.Along,jI x.High,jI x.Lean_,jI x.Limit,.d (.sl 3 (List.map e29 x.Trials))])] (y12 x) 2 0) ?_
 obtain ⟨A1,hx_3,h⟩:=bsome h
 refine rC (k20 x _ hx_3) ?_
 refine Au 1 (sT [(1,.d (.bool is)),pR 2 0,pR 4 1,(6,jI A1)] (y12 x) 2 0) ?_
 refine RW.nil (hQ_2 _ ?_)
 refine Sa (sT [(1,.d (.bool is)),pR 2 0,pR 4 1,(6,jI A1),(11,.d (.bool (decide (A1≠0))))] (y12 x) 2 0) ?_
 refine AW.cond rfl (fun hb_4=>?_) (fun hb_4=>?_)
 ·have h:=ifT hb_4 h
  refine Sa (sT [pR 4 1,(5,jI A1)] y13 2 0) ?_
  obtain rfl:=Option.some.inj h
  exact AW.ret (hR_0 _ (retX (.cons (.agg rfl rfl (Nat.le_of_ble_eq_true rfl)) (.cons (.tmp rfl) .nil)) (Frz.tup_of ⟨Frz.agg_of ⟨.refl _,.refl _,.refl _,.refl _,(.nil 4),.refl _,.refl _,.refl _,.refl _,(.nil 3),(.nil 4),.refl _,.refl _,.refl _,.refl _,trivial⟩,.refl _,trivial⟩) rfl (by kernel_rfl) (by kernel_rfl)))
 ·have h:=ifF hb_4 h
  refine AW.skip (hK_1 _ ?_)
  refine AW.seqK (fun K_5 hK_5=>?_)
  refine Sa (sT [pR 2 0,pR 4 1,(15,.d (.bool (!is)))] (y12 x) 2 0) ?_
  refine AW.cond rfl (fun hb_6=>?_) (fun hb_6=>?_)
  ·have h:=ifT hb_6 h
   refine Sa (sT [pR 4 1,(5,jI 21)] y13 2 0) ?_
   obtain rfl:=Option.some.inj h
   exact AW.ret (hR_0 _ (retX (.cons (.agg rfl rfl (Nat.le_of_ble_eq_true rfl)) (.cons (.tmp rfl) .nil)) (Frz.tup_of ⟨Frz.agg_of ⟨.refl _,.refl _,.refl _,.refl _,(.nil 4),.refl _,.refl _,.refl _,.refl _,(.nil 3),(.nil 4),.refl _,.refl _,.refl _,.refl _,trivial⟩,.refl _,trivial⟩) rfl (by kernel_rfl) (by kernel_rfl)))
  ·have h:=ifF hb_6 h
   refine AW.skip (hK_5 _ ?_)
   refine AW.srwK (fun Q_7 hQ_7=>?_)
   refine Au 1 (sT [pR 4 1,(17,.agg [jI x.Kind,jI x.Front,jI x.Back,jI x.Radius,.d (.sl 4 (List.map e36 x.Parts)),jI x.Along,jI x.High,jI x.Lean_,jI x.Limit,.d (.sl 3 (List.map e29 x.Trials))])] y13 2 0) ?_
   obtain ⟨⟨r0B,r0T,r0L,m2⟩,hx_8,h⟩:=bsome h
   refine RW.one fokW (r_callS (zr:=[]) [] trivial rfl (k52 x _ hx_8) trivial rfl rfl ⟨.refl _,trivial⟩ rfl rfl rfl (r_end ?_))
   refine Au 2 (sT [pR 4 1,pR 7 5] [(5,.var 96 (catV (cv25 r0B) [.d (.sl 4 (List.map e103 r0T)),jI r0L.weight,jI r0L.along,jI r0L.high,.map 4])),(4,.mp (List.map m105_43 m2)),(1,.var 96 [jI 0,jI 0,jI 0,jI 0,.d (.nilSl),jI 0,jI 0,jI 0,jI 0,.d (.nilSl),.d (.nilSl),jI 0,jI 0,jI 0,.d (.nilMap)])] 6 0) ?_
   refine RW.nil (hQ_7 _ ?_)
   refine AW.seqK fun K_9 hK_9=>AW.srwK fun Q_10 hQ_10=>?_
   refine Au 2 (sT [pR 4 1,pR 7 5,(20,.d (.sl 4 (List.map e103 r0T)))] [(5,.var 96 (catV (cv25 r0B) [.d (.sl 4 (List.map e103 r0T)),jI r0L.weight,jI r0L.along,jI r0L.high,.map 4])),(4,.mp (List.map m105_43 m2)),(1,.var 96 [jI 0,jI 0,jI 0,jI 0,.d (.nilSl),jI 0,jI 0,jI 0,jI 0,.d (.nilSl),.d (.nilSl),jI 0,jI 0,jI 0,.d (.nilMap)])] 6 0) ?_
   refine rL rfl ?_
   refine Au 1 (sT [pR 4 1,pR 7 5,(22,.d (.bool (decide ((r0T.length:Int)=0))))] [(5,.var 96 (catV (cv25 r0B) [.d (.sl 4 (List.map e103 r0T)),jI r0L.weight,jI r0L.along,jI r0L.high,.map 4])),(4,.mp (List.map m105_43 m2)),(1,.var 96 [jI 0,jI 0,jI 0,jI 0,.d (.nilSl),jI 0,jI 0,jI 0,jI 0,.d (.nilSl),.d (.nilSl),jI 0,jI 0,jI 0,.d (.nilMap)])] 6 0) ?_
   refine RW.nil (hQ_10 _ ?_)
   refine AW.cond rfl (fun hb_11=>?_) (fun hb_11=>?_)
   ·have h:=ifT hb_11 h
    refine Sa (sT [pR 4 1,(5,jI 22)] [(1,.var 96 (catV (cv25 r0B) [.d (.sl 4 (List.map e103 r0T)),jI r0L.weight,jI r0L.along,jI r0L.high,.map 4])),(4,.mp (List.map m105_43 m2))] 6 0) ?_
    obtain rfl:=Option.some.inj h
    exact rT hR_0 (.cons (.agg rfl rfl (Nat.le_of_ble_eq_true rfl)) (.cons (.tmp rfl) .nil))
   ·have h:=ifF hb_11 h
    refine AW.skip (hK_9 _ ?_)
    refine Sa (sT [pR 4 1,(5,jI 0)] [(1,.var 96 (catV (cv25 r0B) [.d (.sl 4 (List.map e103 r0T)),jI r0L.weight,jI r0L.along,jI r0L.high,.map 4])),(4,.mp (List.map m105_43 m2))] 6 0) ?_
    obtain rfl:=Option.some.inj h
    exact rT hR_0 (.cons (.agg rfl rfl (Nat.le_of_ble_eq_true rfl)) (.cons (.tmp rfl) .nil))
def g12_20 (weight:Int) (lean:Int) (Kind1:Int) (Front1:Int) (Back1:Int) (Radius1:Int) (Parts1:List StandPart) (Along1:Int) (High1:Int) (Lean_1:Int) (Limit1:Int) (Trials1:List StandTrial) (truths1:List (Nat→Int)) (weight2:Int) (along1:Int) (high1:Int):Int→(Nat→Int)→Int→Option Int:=fun v p many=>(g56 (StandBook.mk Kind1 Front1 Back1 Radius1 Parts1 Along1 High1 Lean_1 Limit1 Trials1) truths1 (Stand_load.mk weight2 along1 high1) p (Stand_child.mk weight lean)).bind fun r0_4=>bif r0_4 then (some (wr (many+1))) else (some many)
def g12 (x:StandBook) (weight:Int) (lean:Int):Option (Int×Int):=((g54 x weight).bind fun r0_1=>bif r0_1 then ((g55 x lean).bind fun r0_1_1=>(g53 x r0_1_1).bind fun r_8=>match r_8 with | .next (r0B5,r0T5,r0L5,r1_2)=>(must (decide (r1_2≠0))).bind fun _=>some (.next (r1_2,r0B5.Kind,r0B5.Front,r0B5.Back,r0B5.Radius,r0B5.Parts,r0B5.Along,r0B5.High,r0B5.Lean_,r0B5.Limit,r0B5.Trials,r0T5,r0L5.weight,r0L5.along,r0L5.high)) | .brk (r0B6,r0T6,r0L6,r1_3,m4_1)=>some (.brk (r1_3,r0B6.Kind,r0B6.Front,r0B6.Back,r0B6.Radius,r0B6.Parts,r0B6.Along,r0B6.High,r0B6.Lean_,r0B6.Limit,r0B6.Trials,r0T6,r0L6.weight,r0L6.along,r0L6.high,m4_1))) else ((g53 x false).bind fun r_11=>match r_11 with | .next (r0B5_1,r0T5_1,r0L5_1,r1_2_1)=>(must (decide (r1_2_1≠0))).bind fun _=>some (.next (r1_2_1,r0B5_1.Kind,r0B5_1.Front,r0B5_1.Back,r0B5_1.Radius,r0B5_1.Parts,r0B5_1.Along,r0B5_1.High,r0B5_1.Lean_,r0B5_1.Limit,r0B5_1.Trials,r0T5_1,r0L5_1.weight,r0L5_1.along,r0L5_1.high)) | .brk (r0B6_1,r0T6_1,r0L6_1,r1_3_1,m4_1_1)=>some (.brk (r1_3_1,r0B6_1.Kind,r0B6_1.Front,r0B6_1.Back,r0B6_1.Radius,r0B6_1.Parts,r0B6_1.Along,r0B6_1.High,r0B6_1.Lean_,r0B6_1.Limit,r0B6_1.Trials,r0T6_1,r0L6_1.weight,r0L6_1.along,r0L6_1.high,m4_1_1))):Option (Ctl (Int×Int×Int×Int×Int×(List StandPart)×Int×Int×Int×Int×(List StandTrial)×(List (Nat→Int))×Int×Int×Int) (Int×Int×Int×Int×Int×(List StandPart)×Int×Int×Int×Int×(List StandTrial)×(List (Nat→Int))×Int×Int×Int×(List (Stand_child×StandRatio))))).bind fun j_1=>match j_1 with | .next (e,Kind,Front,Back,Radius,Parts,Along,High,Lean_,Limit,Trials,truths,weight1,along,high)=>(must (decide (e≠0))).bind fun _=>some (0,e) | .brk (e1,Kind1,Front1,Back1,Radius1,Parts1,Along1,High1,Lean_1,Limit1,Trials1,truths1,weight2,along1,high1,m)=>bif (decide (e1≠0)) then (some (0,e1)) else ((eachS (g12_20 weight lean Kind1 Front1 Back1 Radius1 Parts1 Along1 High1 Lean_1 Limit1 Trials1 truths1 weight2 along1 high1) truths1 0 0).bind fun many=>bif (decide (many=0)) then (some (0,0)) else (bif (decide (many=(truths1.length:Int))) then (some (2,0)) else (some (1,0))))
def y14 (Kind1:Int) (Front1:Int) (Back1:Int) (Radius1:Int) (Parts1:List StandPart) (Along1:Int) (High1:Int) (Lean_1:Int) (Limit1:Int) (Trials1:List StandTrial) (truths1:List ((Nat→Int))) (weight2:Int) (along1:Int) (high1:Int) (m:List (Stand_child×StandRatio)):List (Nat×Blk):=[(6,.var 96 [jI Kind1,jI Front1,jI Back1,jI Radius1,.d (.sl 4 (List.map e36 Parts1)),jI Along1,jI High1,jI Lean_1,jI Limit1,.d (.sl 3 (List.map e29 Trials1)),.d (.sl 4 (List.map e103 truths1)),jI weight2,jI along1,jI high1,.map 5]),(5,.mp (List.map m105_43 m))]
theorem k12 (x:StandBook) (weight:Int) (lean:Int) (r:Int×Int) (h:g12 x weight lean=some r):SCall Tryd.prog Gs 12 [.agg [jI x.Kind,jI x.Front,jI x.Back,jI x.Radius,.d (.sl 4 (List.map e36 x.Parts)),jI x.Along,jI x.High,jI x.Lean_,jI x.Limit,.d (.sl 3 (List.map e29 x.Trials))],jI weight,jI lean] [] 0 Fr.emp (match r with | (r0_6,r1_6)=>.tup [jI r0_6,jI r1_6]) [] 0 Fr.emp:=by
 unfold g12 at h
 refine SCall.mkK Tryd.func12 c12 rfl rfl (by kernel_rfl) (fun Q_0 hR_0 hN_0=>?_)
 refine Sa (sT [(1,jI weight),(2,jI lean),pR 3 0] [(0,.var 25 (cv25 x))] 1 0) ?_
 obtain ⟨c_1,hx_1,h⟩:=bsome h
 refine AW.jnSK (fun (j:Ctl (Int×Int×Int×Int×Int×(List StandPart)×Int×Int×Int×Int×(List StandTrial)×(List (Nat→Int))×Int×Int×Int) (Int×Int×Int×Int×Int×(List StandPart)×Int×Int×Int×Int×(List StandTrial)×(List (Nat→Int))×Int×Int×Int×(List (Stand_child×StandRatio))))=>match j with | .next (e,Kind,Front,Back,Radius,Parts,Along,High,Lean_,Limit,Trials,truths,weight1,along,high)=>(sT [(1,jI weight),(2,jI lean),pR 8 1,(9,jI e)] [(1,.var 96 [jI Kind,jI Front,jI Back,jI Radius,.d (.sl 4 (List.map e36 Parts)),jI Along,jI High,jI Lean_,jI Limit,.d (.sl 3 (List.map e29 Trials)),.d (.sl 4 (List.map e103 truths)),jI weight1,jI along,jI high,.d (.nilMap)])] 2 0) | .brk (e1,Kind1,Front1,Back1,Radius1,Parts1,Along1,High1,Lean_1,Limit1,Trials1,truths1,weight2,along1,high1,m)=>(sT [(1,jI weight),(2,jI lean),pR 8 6,(9,jI e1)] (y14 Kind1 Front1 Back1 Radius1 Parts1 Along1 High1 Lean_1 Limit1 Trials1 truths1 weight2 along1 high1 m) 7 0)) (c:=c_1) (fun K_1 hK_1=>?_) ?_
 ·have h:=hx_1
  refine AW.drw fokW ?_
  refine aX 3 (sT [(1,jI weight),(2,jI lean),pR 3 0,(15,.agg [jI x.Kind,jI x.Front,jI x.Back,jI x.Radius,.d (.sl 4 (List.map e36 x.Parts)),jI x.Along,jI x.High,jI x.Lean_,jI x.Limit,.d (.sl 3 (List.map e29 x.Trials))]),(16,.agg [jI x.Kind,jI x.Front,jI x.Back,jI x.Radius,.d (.sl 4 (List.map e36 x.Parts)),jI x.Along,jI x.High,jI x.Lean_,jI x.Limit,.d (.sl 3 (List.map e29 x.Trials))]),(17,jI weight)] [(0,.var 25 (cv25 x))] 1 0) ?_
  obtain ⟨r0_1,hx_3,h⟩:=bsome h
  refine r_call trivial rfl (k54 x weight _ hx_3) rfl rfl ?_
  refine aX 1 (sT [(1,jI weight),(2,jI lean),pR 3 0,(15,.agg [jI x.Kind,jI x.Front,jI x.Back,jI x.Radius,.d (.sl 4 (List.map e36 x.Parts)),jI x.Along,jI x.High,jI x.Lean_,jI x.Limit,.d (.sl 3 (List.map e29 x.Trials))]),(19,.d (.bool r0_1))] [(0,.var 25 (cv25 x))] 1 0) ?_
  refine r_split 19 rfl (fun hb_4=>?_) (fun hb_4=>?_)
  ·have h:=ifT hb_4 h
   refine aX 2 (sT [(1,jI weight),(2,jI lean),(15,.agg [jI x.Kind,jI x.Front,jI x.Back,jI x.Radius,.d (.sl 4 (List.map e36 x.Parts)),jI x.Along,jI x.High,jI x.Lean_,jI x.Limit,.d (.sl 3 (List.map e29 x.Trials))]),(19,.d (.bool true)),(20,.agg [jI x.Kind,jI x.Front,jI x.Back,jI x.Radius,.d (.sl 4 (List.map e36 x.Parts)),jI x.Along,jI x.High,jI x.Lean_,jI x.Limit,.d (.sl 3 (List.map e29 x.Trials))]),(21,jI lean)] [(0,.var 25 (cv25 x))] 1 0) ?_
   obtain ⟨r0_1_1,hx_5,h⟩:=bsome h
   refine r_call rfl rfl (k55 x lean _ hx_5) rfl rfl ?_
   refine aX 1 (sT [(1,jI weight),(2,jI lean),(15,.agg [jI x.Kind,jI x.Front,jI x.Back,jI x.Radius,.d (.sl 4 (List.map e36 x.Parts)),jI x.Along,jI x.High,jI x.Lean_,jI x.Limit,.d (.sl 3 (List.map e29 x.Trials))]),(23,.d (.bool r0_1_1))] [(0,.var 25 (cv25 x))] 1 0) ?_
   obtain ⟨r_8,hx_6,h⟩:=bsome h
   rcases r_8 with (⟨r0B5,r0T5,r0L5,r1_2⟩ | (⟨r0B6,r0T6,r0L6,r1_3,m4_1⟩))
   ·refine r_callS (zr:=[]) [] trivial rfl (k53 x r0_1_1 _ hx_6) trivial rfl rfl ⟨.refl _,.refl _,trivial⟩ rfl rfl rfl ?_
    obtain ⟨_,hv_7,h⟩:=bsome h
    have hf_8:=must_ok hv_7
    refine aX 6 (sT [(1,jI weight),(2,jI lean),pR 8 1,(9,jI r1_2)] [(1,.var 96 (catV (cv25 r0B5) [.d (.sl 4 (List.map e103 r0T5)),jI r0L5.weight,jI r0L5.along,jI r0L5.high,.d (.nilMap)])),(0,.var 25 (cv25 x))] 2 0) ?_
    refine Fi (sT [(1,jI weight),(2,jI lean),pR 8 1,(9,jI r1_2)] [(1,.var 96 (catV (cv25 r0B5) [.d (.sl 4 (List.map e103 r0T5)),jI r0L5.weight,jI r0L5.along,jI r0L5.high,.d (.nilMap)]))] 2 0) ?_
    obtain rfl:=Option.some.inj h
    exact hK_1 _ (Can.kp (by kernel_rfl))
   ·refine r_callS (zr:=[]) [] trivial rfl (k53 x r0_1_1 _ hx_6) trivial rfl rfl ⟨.refl _,.refl _,trivial⟩ rfl rfl rfl ?_
    refine aX 6 (sT [(1,jI weight),(2,jI lean),pR 8 6,(9,jI r1_3)] [(6,.var 96 (catV (cv25 r0B6) [.d (.sl 4 (List.map e103 r0T6)),jI r0L6.weight,jI r0L6.along,jI r0L6.high,.map 5])),(5,.mp (List.map m105_43 m4_1)),(0,.var 25 (cv25 x))] 7 0) ?_
    refine Fi (sT [(1,jI weight),(2,jI lean),pR 8 6,(9,jI r1_3)] [(6,.var 96 (catV (cv25 r0B6) [.d (.sl 4 (List.map e103 r0T6)),jI r0L6.weight,jI r0L6.along,jI r0L6.high,.map 5])),(5,.mp (List.map m105_43 m4_1))] 7 0) ?_
    obtain rfl:=Option.some.inj h
    exact hK_1 _ (Can.kp (by kernel_rfl))
  ·have h:=ifF hb_4 h
   refine aX 4 (sT [(1,jI weight),(2,jI lean),(15,.agg [jI x.Kind,jI x.Front,jI x.Back,jI x.Radius,.d (.sl 4 (List.map e36 x.Parts)),jI x.Along,jI x.High,jI x.Lean_,jI x.Limit,.d (.sl 3 (List.map e29 x.Trials))]),(23,.d (.bool false))] [(0,.var 25 (cv25 x))] 1 0) ?_
   obtain ⟨r_11,hx_9,h⟩:=bsome h
   rcases r_11 with (⟨r0B5_1,r0T5_1,r0L5_1,r1_2_1⟩ | (⟨r0B6_1,r0T6_1,r0L6_1,r1_3_1,m4_1_1⟩))
   ·refine r_callS (zr:=[]) [] trivial rfl (k53 x false _ hx_9) trivial rfl rfl ⟨.refl _,.refl _,trivial⟩ rfl rfl rfl ?_
    obtain ⟨_,hv_10,h⟩:=bsome h
    have hf_11:=must_ok hv_10
    refine aX 6 (sT [(1,jI weight),(2,jI lean),pR 8 1,(9,jI r1_2_1)] [(1,.var 96 (catV (cv25 r0B5_1) [.d (.sl 4 (List.map e103 r0T5_1)),jI r0L5_1.weight,jI r0L5_1.along,jI r0L5_1.high,.d (.nilMap)])),(0,.var 25 (cv25 x))] 2 0) ?_
    refine Fi (sT [(1,jI weight),(2,jI lean),pR 8 1,(9,jI r1_2_1)] [(1,.var 96 (catV (cv25 r0B5_1) [.d (.sl 4 (List.map e103 r0T5_1)),jI r0L5_1.weight,jI r0L5_1.along,jI r0L5_1.high,.d (.nilMap)]))] 2 0) ?_
    obtain rfl:=Option.some.inj h
    exact hK_1 _ (Can.kp (by kernel_rfl))
   ·refine r_callS (zr:=[]) [] trivial rfl (k53 x false _ hx_9) trivial rfl rfl ⟨.refl _,.refl _,trivial⟩ rfl rfl rfl ?_
    refine aX 6 (sT [(1,jI weight),(2,jI lean),pR 8 6,(9,jI r1_3_1)] [(6,.var 96 (catV (cv25 r0B6_1) [.d (.sl 4 (List.map e103 r0T6_1)),jI r0L6_1.weight,jI r0L6_1.along,jI r0L6_1.high,.map 5])),(5,.mp (List.map m105_43 m4_1_1)),(0,.var 25 (cv25 x))] 7 0) ?_
    refine Fi (sT [(1,jI weight),(2,jI lean),pR 8 6,(9,jI r1_3_1)] [(6,.var 96 (catV (cv25 r0B6_1) [.d (.sl 4 (List.map e103 r0T6_1)),jI r0L6_1.weight,jI r0L6_1.along,jI r0L6_1.high,.map 5])),(5,.mp (List.map m105_43 m4_1_1))] 7 0) ?_
    obtain rfl:=Option.some.inj h
    exact hK_1 _ (Can.kp (by kernel_rfl))
 ·rcases c_1 with (⟨e,Kind,Front,Back,Radius,Parts,Along,High,Lean_,Limit,Trials,truths,weight1,along,high⟩ | ⟨e1,Kind1,Front1,Back1,Radius1,Parts1,Along1,High1,Lean_1,Limit1,Trials1,truths1,weight2,along1,high1,m⟩)
  ·obtain ⟨_,hv_12,h⟩:=bsome h
   have hf_13:=must_ok hv_12
   refine AW.seqK (fun K_14 hK_14=>?_)
   refine Sa (sT [(1,jI weight),(2,jI lean),pR 8 1,(9,jI e),(28,.d (.bool (decide (e≠0))))] [(1,.var 96 [jI Kind,jI Front,jI Back,jI Radius,.d (.sl 4 (List.map e36 Parts)),jI Along,jI High,jI Lean_,jI Limit,.d (.sl 3 (List.map e29 Trials)),.d (.sl 4 (List.map e103 truths)),jI weight1,jI along,jI high,.d (.nilMap)])] 2 0) ?_
   refine AW.cond rfl (fun hb_15=>?_) (fun hb_15=>False.elim (by rw [hf_13] at hb_15;cases hb_15))
   refine Sa (sT [(6,jI 0),(7,jI e)] [] 2 0) ?_
   obtain rfl:=Option.some.inj h
   exact rT hR_0 (.cons (.tmp rfl) (.cons (.tmp rfl) .nil))
  ·refine AW.seqK (fun K_16 hK_16=>?_)
   refine Sa (sT [(1,jI weight),(2,jI lean),pR 8 6,(9,jI e1),(28,.d (.bool (decide (e1≠0))))] (y14 Kind1 Front1 Back1 Radius1 Parts1 Along1 High1 Lean_1 Limit1 Trials1 truths1 weight2 along1 high1 m) 7 0) ?_
   refine AW.cond rfl (fun hb_17=>?_) (fun hb_17=>?_)
   ·have h:=ifT hb_17 h
    refine Sa (sT [(6,jI 0),(7,jI e1)] [] 7 0) ?_
    obtain rfl:=Option.some.inj h
    exact rT hR_0 (.cons (.tmp rfl) (.cons (.tmp rfl) .nil))
   ·have h:=ifF hb_17 h
    refine AW.skip (hK_16 _ ?_)
    refine Sa (sT [(1,jI weight),(2,jI lean),pR 8 6,(10,jI 0),(11,.clo 56 [.agg [jI Kind1,jI Front1,jI Back1,jI Radius1,.d (.sl 4 (List.map e36 Parts1)),jI Along1,jI High1,jI Lean_1,jI Limit1,.d (.sl 3 (List.map e29 Trials1)),.d (.sl 4 (List.map e103 truths1)),jI weight2,jI along1,jI high1,.map 5]] [])] (y14 Kind1 Front1 Back1 Radius1 Parts1 Along1 High1 Lean_1 Limit1 Trials1 truths1 weight2 along1 high1 m) 7 0) ?_
    refine AW.seqK fun K_18 hK_18=>AW.srwK fun Q_19 hQ_19=>?_
    refine Au 2 (sT [(1,jI weight),(2,jI lean),pR 8 6,(10,jI 0),(11,.clo 56 [.agg [jI Kind1,jI Front1,jI Back1,jI Radius1,.d (.sl 4 (List.map e36 Parts1)),jI Along1,jI High1,jI Lean_1,jI Limit1,.d (.sl 3 (List.map e29 Trials1)),.d (.sl 4 (List.map e103 truths1)),jI weight2,jI along1,jI high1,.map 5]] []),(33,.d (.sl 4 (List.map e103 truths1)))] (y14 Kind1 Front1 Back1 Radius1 Parts1 Along1 High1 Lean_1 Limit1 Trials1 truths1 weight2 along1 high1 m) 7 0) ?_
    refine rL rfl ?_
    refine Au 1 (sT [(1,jI weight),(2,jI lean),pR 8 6,(10,jI 0),(11,.clo 56 [.agg [jI Kind1,jI Front1,jI Back1,jI Radius1,.d (.sl 4 (List.map e36 Parts1)),jI Along1,jI High1,jI Lean_1,jI Limit1,.d (.sl 3 (List.map e29 Trials1)),.d (.sl 4 (List.map e103 truths1)),jI weight2,jI along1,jI high1,.map 5]] []),(33,.d (.sl 4 (List.map e103 truths1))),(34,jI (truths1.length:Int)),(35,jI 0)] (y14 Kind1 Front1 Back1 Radius1 Parts1 Along1 High1 Lean_1 Limit1 Trials1 truths1 weight2 along1 high1 m) 7 0) ?_
    refine RW.nil (hQ_19 _ ?_)
    refine AW.block ?_
    refine AW.sln (t:=33) rfl (fun hN_20=>?_)
    rw [List.length_map] at hN_20
    obtain ⟨out_20,hx_20,h⟩:=bsome h
    refine AW.evSK (fun (v:Int) (many:Int)=>(sT [(1,jI weight),(2,jI lean),pR 8 6,(10,jI many),(11,.clo 56 [.agg [jI Kind1,jI Front1,jI Back1,jI Radius1,.d (.sl 4 (List.map e36 Parts1)),jI Along1,jI High1,jI Lean_1,jI Limit1,.d (.sl 3 (List.map e29 Trials1)),.d (.sl 4 (List.map e103 truths1)),jI weight2,jI along1,jI high1,.map 5]] []),(33,.d (.sl 4 (List.map e103 truths1))),(34,jI (truths1.length:Int)),(35,jI v)] (y14 Kind1 Front1 Back1 Radius1 Parts1 Along1 High1 Lean_1 Limit1 Trials1 truths1 weight2 along1 high1 m) 7 0)) (g12_20 weight lean Kind1 Front1 Back1 Radius1 Parts1 Along1 High1 Lean_1 Limit1 Trials1 truths1 weight2 along1 high1) hx_20 (Can.kp (by kernel_rfl)) (fun v p many hi_20 hl_20 hp_20 c_20 h K_20 hK_20=>?_) (fun v many hi_20 hl_20 hout=>?_)
    ·unfold g12_20 at h
     refine Sa (sT [(1,jI weight),(2,jI lean),pR 8 6,(10,jI many),(11,.clo 56 [.agg [jI Kind1,jI Front1,jI Back1,jI Radius1,.d (.sl 4 (List.map e36 Parts1)),jI Along1,jI High1,jI Lean_1,jI Limit1,.d (.sl 3 (List.map e29 Trials1)),.d (.sl 4 (List.map e103 truths1)),jI weight2,jI along1,jI high1,.map 5]] []),(33,.d (.sl 4 (List.map e103 truths1))),(34,jI (truths1.length:Int)),(35,jI v),(36,.d (.bool (decide (v<(truths1.length:Int)))))] (y14 Kind1 Front1 Back1 Radius1 Parts1 Along1 High1 Lean_1 Limit1 Trials1 truths1 weight2 along1 high1 m) 7 0) ?_
     refine AW.seqK (fun K_21 hK_21=>?_)
     refine AW.cond rfl (fun hb_22=>?_) (fun hb_22=>False.elim (by have:=of_decide_eq_false hb_22;omega))
     refine AW.skip (hK_21 _ ?_)
     refine AW.seqK (fun K_23 hK_23=>?_)
     refine AW.block ?_
     refine AW.srwK (fun Q_24 hQ_24=>?_)
     refine RW.one fokW (r_iaD trivial rfl rfl hi_20 (row:=e103 p) (mapget hp_20) (r_end ?_))
     refine Au 3 (sT [(1,jI weight),(2,jI lean),pR 8 6,(10,jI many),(11,.clo 56 [.agg [jI Kind1,jI Front1,jI Back1,jI Radius1,.d (.sl 4 (List.map e36 Parts1)),jI Along1,jI High1,jI Lean_1,jI Limit1,.d (.sl 3 (List.map e29 Trials1)),.d (.sl 4 (List.map e103 truths1)),jI weight2,jI along1,jI high1,.map 5]] []),pR 13 7,(33,.d (.sl 4 (List.map e103 truths1))),(34,jI (truths1.length:Int)),(35,jI v)] [(7,.var 103 [jI (p 0),jI (p 1),jI (p 2),jI (p 3)]),(6,.var 96 [jI Kind1,jI Front1,jI Back1,jI Radius1,.d (.sl 4 (List.map e36 Parts1)),jI Along1,jI High1,jI Lean_1,jI Limit1,.d (.sl 3 (List.map e29 Trials1)),.d (.sl 4 (List.map e103 truths1)),jI weight2,jI along1,jI high1,.map 5]),(5,.mp (List.map m105_43 m))] 8 0) ?_
     refine RW.nil (hQ_24 _ ?_)
     refine AW.srwK (fun Q_25 hQ_25=>?_)
     refine Au 5 (sT [(1,jI weight),(2,jI lean),pR 8 6,(10,jI many),(11,.clo 56 [.agg [jI Kind1,jI Front1,jI Back1,jI Radius1,.d (.sl 4 (List.map e36 Parts1)),jI Along1,jI High1,jI Lean_1,jI Limit1,.d (.sl 3 (List.map e29 Trials1)),.d (.sl 4 (List.map e103 truths1)),jI weight2,jI along1,jI high1,.map 5]] []),(33,.d (.sl 4 (List.map e103 truths1))),(34,jI (truths1.length:Int)),(35,jI v),(39,.clo 56 [.agg [jI Kind1,jI Front1,jI Back1,jI Radius1,.d (.sl 4 (List.map e36 Parts1)),jI Along1,jI High1,jI Lean_1,jI Limit1,.d (.sl 3 (List.map e29 Trials1)),.d (.sl 4 (List.map e103 truths1)),jI weight2,jI along1,jI high1,.map 5]] []),(40,.agg [jI (p 0),jI (p 1),jI (p 2),jI (p 3)]),(43,.agg [jI weight,jI lean])] (y14 Kind1 Front1 Back1 Radius1 Parts1 Along1 High1 Lean_1 Limit1 Trials1 truths1 weight2 along1 high1 m) 8 0) ?_
     obtain ⟨r0_4,hx_26,h⟩:=bsome h
     refine RW.one fokW (r_callvZ (zr:=[]) trivial rfl (.clo _ _ _) (by kernel_rfl) rfl (k56 (StandBook.mk Kind1 Front1 Back1 Radius1 Parts1 Along1 High1 Lean_1 Limit1 Trials1) truths1 (Stand_load.mk weight2 along1 high1) p (Stand_child.mk weight lean) _ hx_26) trivial ⟨(Frz.agg_of ⟨.refl _,.refl _,.refl _,.refl _,.refl _,.refl _,.refl _,.refl _,.refl _,.refl _,.refl _,.refl _,.refl _,.refl _,(.opq rfl (by intro _ h;cases h)),trivial⟩),.refl _,.refl _,trivial⟩ rfl rfl rfl rfl (r_end ?_))
     refine RW.nil (hQ_25 _ ?_)
     refine AW.cond rfl (fun hb_27=>?_) (fun hb_27=>?_)
     ·have h:=ifT hb_27 h
      refine Ra (sT [(1,jI weight),(2,jI lean),pR 8 6,(10,jI (wr (many+1))),(11,.clo 56 [.agg [jI Kind1,jI Front1,jI Back1,jI Radius1,.d (.sl 4 (List.map e36 Parts1)),jI Along1,jI High1,jI Lean_1,jI Limit1,.d (.sl 3 (List.map e29 Trials1)),.d (.sl 4 (List.map e103 truths1)),jI weight2,jI along1,jI high1,.map 5]] []),(33,.d (.sl 4 (List.map e103 truths1))),(34,jI (truths1.length:Int)),(35,jI v)] (y14 Kind1 Front1 Back1 Radius1 Parts1 Along1 High1 Lean_1 Limit1 Trials1 truths1 weight2 along1 high1 m) 8 0) ?_
      refine hK_23 _ ?_
      refine Ra (sT [(1,jI weight),(2,jI lean),pR 8 6,(10,jI (wr (many+1))),(11,.clo 56 [.agg [jI Kind1,jI Front1,jI Back1,jI Radius1,.d (.sl 4 (List.map e36 Parts1)),jI Along1,jI High1,jI Lean_1,jI Limit1,.d (.sl 3 (List.map e29 Trials1)),.d (.sl 4 (List.map e103 truths1)),jI weight2,jI along1,jI high1,.map 5]] []),(33,.d (.sl 4 (List.map e103 truths1))),(34,jI (truths1.length:Int)),(35,jI (wr (v+1)))] (y14 Kind1 Front1 Back1 Radius1 Parts1 Along1 High1 Lean_1 Limit1 Trials1 truths1 weight2 along1 high1 m) 8 0) ?_
      obtain rfl:=Option.some.inj h
      have ew:wr (v+1)=v+1:=inext (N:=(truths1.length:Int)) (by omega) (by omega) (by omega)
      rw [ew]
      exact hK_20 _ (Can.kp (by kernel_rfl))
     ·have h:=ifF hb_27 h
      refine AW.skip (hK_23 _ ?_)
      refine Ra (sT [(1,jI weight),(2,jI lean),pR 8 6,(10,jI many),(11,.clo 56 [.agg [jI Kind1,jI Front1,jI Back1,jI Radius1,.d (.sl 4 (List.map e36 Parts1)),jI Along1,jI High1,jI Lean_1,jI Limit1,.d (.sl 3 (List.map e29 Trials1)),.d (.sl 4 (List.map e103 truths1)),jI weight2,jI along1,jI high1,.map 5]] []),(33,.d (.sl 4 (List.map e103 truths1))),(34,jI (truths1.length:Int)),(35,jI (wr (v+1)))] (y14 Kind1 Front1 Back1 Radius1 Parts1 Along1 High1 Lean_1 Limit1 Trials1 truths1 weight2 along1 high1 m) 8 0) ?_
      obtain rfl:=Option.some.inj h
      have ew:wr (v+1)=v+1:=inext (N:=(truths1.length:Int)) (by omega) (by omega) (by omega)
      rw [ew]
      exact hK_20 _ (Can.kp (by kernel_rfl))
    ·subst hout
     refine Sa (sT [(1,jI weight),(2,jI lean),pR 8 6,(10,jI many),(11,.clo 56 [.agg [jI Kind1,jI Front1,jI Back1,jI Radius1,.d (.sl 4 (List.map e36 Parts1)),jI Along1,jI High1,jI Lean_1,jI Limit1,.d (.sl 3 (List.map e29 Trials1)),.d (.sl 4 (List.map e103 truths1)),jI weight2,jI along1,jI high1,.map 5]] []),(33,.d (.sl 4 (List.map e103 truths1))),(34,jI (truths1.length:Int)),(35,jI v),(36,.d (.bool (decide (v<(truths1.length:Int)))))] (y14 Kind1 Front1 Back1 Radius1 Parts1 Along1 High1 Lean_1 Limit1 Trials1 truths1 weight2 along1 high1 m) 7 0) ?_
     refine AW.seqK (fun K_28 hK_28=>?_)
     refine AW.cond rfl (fun hb_29=>False.elim (by have:=of_decide_eq_true hb_29;omega)) (fun hb_29=>?_)
     refine AW.exit ?_
     refine hK_18 _ ?_
     refine AW.seqK (fun K_30 hK_30=>?_)
     refine Sa (sT [pR 8 6,(48,jI many)] (y14 Kind1 Front1 Back1 Radius1 Parts1 Along1 High1 Lean_1 Limit1 Trials1 truths1 weight2 along1 high1 m) 7 0) ?_
     refine AW.block ?_
     refine Sa (sT [pR 8 6,(48,jI many),(49,.d (.bool (decide (many=0))))] (y14 Kind1 Front1 Back1 Radius1 Parts1 Along1 High1 Lean_1 Limit1 Trials1 truths1 weight2 along1 high1 m) 7 0) ?_
     refine AW.cond rfl (fun hb_31=>?_) (fun hb_31=>?_)
     ·have h:=ifT hb_31 h
      refine Sa (sT [(6,jI 0),(7,jI 0)] [] 7 0) ?_
      obtain rfl:=Option.some.inj h
      exact rT hR_0 (.cons (.tmp rfl) (.cons (.tmp rfl) .nil))
     ·have h:=ifF hb_31 h
      refine AW.srwK (fun Q_32 hQ_32=>?_)
      refine Au 2 (sT [(48,jI many),(53,.d (.sl 4 (List.map e103 truths1)))] [] 7 0) ?_
      refine rL rfl ?_
      refine Au 2 (sT [(51,.d (.bool (decide (many=(truths1.length:Int)))))] [] 7 0) ?_
      refine RW.nil (hQ_32 _ ?_)
      refine AW.cond rfl (fun hb_33=>?_) (fun hb_33=>?_)
      ·have h:=ifT hb_33 h
       refine Sa (sT [(6,jI 2),(7,jI 0)] [] 7 0) ?_
       obtain rfl:=Option.some.inj h
       exact rT hR_0 (.cons (.tmp rfl) (.cons (.tmp rfl) .nil))
      ·have h:=ifF hb_33 h
       refine AW.skip (hK_30 _ ?_)
       refine Sa (sT [(6,jI 1),(7,jI 0)] [] 7 0) ?_
       obtain rfl:=Option.some.inj h
       exact rT hR_0 (.cons (.tmp rfl) (.cons (.tmp rfl) .nil))
def g109 :Option Unit:=some ()
theorem k109  (r:Unit) (h:g109=some r):SCall Tryd.prog Gs 109 [] [] 0 Fr.emp (.agg [.d (.fn 134)]) [] 0 Fr.emp:=by
 unfold g109 at h
 refine SCall.mkK Tryd.func109 c109 rfl rfl (by kernel_rfl) (fun Q_0 hR_0 hN_0=>?_)
 refine Sa (sT [pR 0 0] [(0,.var 174 [.d (.nilFn)])] 1 0) ?_
 refine Sa (sT [pR 0 0] [(0,.var 174 [.d (.fn 134)])] 1 0) ?_
 obtain rfl:=Option.some.inj h
 exact rT hR_0 (.cons (.agg rfl rfl (Nat.le_of_ble_eq_true rfl)) .nil)
def g134 (x:StandRatio) (y:StandRatio):Option Bool:=some (decide ((wr (x.Top*y.Bottom))<(wr (y.Top*x.Bottom))))
theorem k134 (x:StandRatio) (y:StandRatio) (r:Bool) (h:g134 x y=some r):SCall Tryd.prog Gs 134 [.agg [jI x.Top,jI x.Bottom],.agg [jI y.Top,jI y.Bottom]] [] 0 Fr.emp (.d (.bool r)) [] 0 Fr.emp:=by
 unfold g134 at h
 refine SCall.mkK Tryd.func134 c134 rfl rfl (by kernel_rfl) (fun Q_0 hR_0 hN_0=>?_)
 refine Sa (sT [pR 2 0,pR 3 1] [(1,.var 43 [jI y.Top,jI y.Bottom]),(0,.var 43 [jI x.Top,jI x.Bottom])] 2 0) ?_
 refine Sa (sT [(4,.d (.bool (decide ((wr (x.Top*y.Bottom))<(wr (y.Top*x.Bottom))))))] [] 2 0) ?_
 obtain rfl:=Option.some.inj h
 exact rT hR_0 (.cons (.tmp rfl) .nil)
def g110_2:(Int×Int)→Option (Ctl (Int×Int) (Int)):=fun  (n,m1)=>bif (decide (0<n)) then ((must (decide (n≠0))).bind fun _=>some (.next ((m1.tmod n),n))) else (some (.brk m1))
def g110 (x:StandRatio):Option StandRatio:=(whileC g110_2 1000 ((max x.Top (wr (-x.Top))),x.Bottom)).bind fun m=>(must (decide (m≠0))).bind fun _=>(must (decide (m≠0))).bind fun _=>some (StandRatio.mk (wr (x.Top.tdiv m)) (wr (x.Bottom.tdiv m)))
def y15 (x:StandRatio):List (Nat×Blk):=[(1,.var 43 [jI 0,jI 0]),(0,.var 43 [jI x.Top,jI x.Bottom])]
theorem k110 (x:StandRatio) (r:StandRatio) (h:g110 x=some r):SCall Tryd.prog Gs 110 [.agg [jI x.Top,jI x.Bottom]] [] 0 Fr.emp (.agg [jI r.Top,jI r.Bottom]) [] 0 Fr.emp:=by
 unfold g110 at h
 refine SCall.mkK Tryd.func110 c110 rfl rfl (by kernel_rfl) (fun Q_0 hR_0 hN_0=>?_)
 refine Sa (sT [pR 1 0,pR 2 1] (y15 x) 2 0) ?_
 refine Sa (sT [pR 1 0,pR 2 1,(3,jI (max x.Top (wr (-x.Top)))),(4,jI x.Bottom)] (y15 x) 2 0) ?_
 obtain ⟨m,hx_1,h⟩:=bsome h
 refine AW.jnSK (fun (m:Int)=>(sT [pR 1 0,pR 2 1,(4,jI m)] (y15 x) 2 0)) (c:=m) (fun K_1 hK_1=>?_) ?_
 ·have h:=hx_1
  refine AW.block ?_
  refine AW.whK (fun (⟨n,m1⟩:Int×Int)=>(sT [pR 1 0,pR 2 1,(3,jI n),(4,jI m1)] (y15 x) 2 0)) g110_2 h (Can.kp (by kernel_rfl)) (fun s_2 c_2 h hb_2 K_2 hK_2=>?_)
  obtain ⟨n,m1⟩:=s_2
  unfold g110_2 at h
  refine AW.seqK (fun K_3 hK_3=>?_)
  refine Sa (sT [pR 1 0,pR 2 1,(3,jI n),(4,jI m1),(14,.d (.bool (decide (0<n))))] (y15 x) 2 0) ?_
  refine AW.cond rfl (fun hb_4=>?_) (fun hb_4=>?_)
  ·have h:=ifT hb_4 h
   refine AW.skip (hK_3 _ ?_)
   refine AW.block ?_
   refine AW.rw ?_
   refine Au 2 (sT [pR 1 0,pR 2 1,(3,jI n),(15,jI m1),(16,jI n)] (y15 x) 2 0) ?_
   obtain ⟨_,hv_6,h⟩:=bsome h
   refine RW.one fokW (r_rem trivial rfl rfl (of_decide_eq_true (must_ok hv_6)) (r_end ?_))
   refine Au 3 (sT [pR 1 0,pR 2 1,(3,jI (m1.tmod n)),(4,jI n)] (y15 x) 2 0) ?_
   refine RW.nil ?_
   obtain rfl:=Option.some.inj h
   exact hK_2 _ _ rfl (Can.kp (by kernel_rfl))
  ·have h:=ifF hb_4 h
   refine AW.exit ?_
   obtain rfl:=Option.some.inj h
   obtain rfl:=hb_2 _ rfl
   exact hK_1 _ (Can.kp (by kernel_rfl))
 ·refine AW.sdrwK fokW (fun Q_7 hQ_7=>?_)
  refine aX 3 (sT [pR 1 0,pR 2 1,(4,jI m),(20,jI x.Top),(21,jI m)] (y15 x) 2 0) ?_
  obtain ⟨_,hv_8,h⟩:=bsome h
  refine r_quoW trivial rfl rfl (of_decide_eq_true (must_ok hv_8)) ?_
  refine aX 3 (sT [pR 2 1,(22,jI (wr (x.Top.tdiv m))),(24,jI x.Bottom),(25,jI m)] (y15 x) 2 0) ?_
  obtain ⟨_,hv_9,h⟩:=bsome h
  refine r_quoW trivial rfl rfl (of_decide_eq_true (must_ok hv_9)) ?_
  refine aX 2 (sT [pR 2 1] [(1,.var 43 [jI (wr (x.Top.tdiv m)),jI (wr (x.Bottom.tdiv m))]),(0,.var 43 [jI x.Top,jI x.Bottom])] 2 0) ?_
  refine Fi (sT [pR 2 1] [(1,.var 43 [jI (wr (x.Top.tdiv m)),jI (wr (x.Bottom.tdiv m))])] 2 0) ?_
  refine hQ_7 _ ?_
  obtain rfl:=Option.some.inj h
  exact rT hR_0 (.cons (.agg rfl rfl (Nat.le_of_ble_eq_true rfl)) .nil)
def g57a_8 (bB:StandBook) (bT:(List (Nat→Int))) (bL:Stand_load) (c:Stand_child):Int→(Nat→Int)→(Int×Int)→Option (Int×Int):=fun v p (Top,Bottom)=>(g108 bB bT bL p c).bind fun r0=>((ixN 2 bB.Kind).bind fun j=>match j with | 0=>(g158 bB bT bL r0).bind fun r0_1=>some r0_1 | 1=>(g159 bB bT bL r0).bind fun r0_1_1=>some r0_1_1 | _=>none).bind fun Top1=>(bif (decide (v=0)) then (some true) else ((g134 (StandRatio.mk Top1 r0.weight) (StandRatio.mk Top Bottom)).bind fun r0_2=>some r0_2)).bind fun v1=>bif v1 then (some (Top1,r0.weight)) else (some (Top,Bottom))
def g57a (bB:StandBook) (bT:(List (Nat→Int))) (bL:Stand_load) (c:Stand_child) (m0:List (Stand_child×StandRatio)):Option (StandRatio×(List (Stand_child×StandRatio))):=bif (mget q105 m0 c).isSome then (some (((mget q105 m0 c).getD (StandRatio.mk 0 0)),m0)) else ((g109).bind fun _=>(eachS (g57a_8 bB bT bL c) bT 0 (0,0)).bind fun (Top,Bottom)=>(g110 (StandRatio.mk Top Bottom)).bind fun r0_3=>(mput q105 m0 c r0_3).bind fun m=>some (((mget q105 m c).getD (StandRatio.mk 0 0)),m))
def y16 (c:Stand_child) (bB:StandBook) (bT:(List (Nat→Int))) (bL:Stand_load) (m0:List (Stand_child×StandRatio)):List (Nat×Blk):=[(3,.var 43 [jI 0,jI 0]),(2,.var 105 [jI c.weight,jI c.lean]),(1,.var 96 (catV (cv25 bB) [.d (.sl 4 (List.map e103 bT)),jI bL.weight,jI bL.along,jI bL.high,.map 0])),(0,.mp (List.map m105_43 m0))]
def y17 (c:Stand_child) (bB:StandBook) (bT:(List (Nat→Int))) (bL:Stand_load) (m0:List (Stand_child×StandRatio)):List (Nat×Blk):=[(6,.var 174 [.d (.fn 134)]),(5,.var 43 [jI 0,jI 0]),(3,.var 43 [jI 0,jI 0]),(2,.var 105 [jI c.weight,jI c.lean]),(1,.var 96 (catV (cv25 bB) [.d (.sl 4 (List.map e103 bT)),jI bL.weight,jI bL.along,jI bL.high,.map 0])),(0,.mp (List.map m105_43 m0))]
def y18 (Top:Int) (Bottom:Int) (c:Stand_child) (bB:StandBook) (bT:(List (Nat→Int))) (bL:Stand_load) (m0:List (Stand_child×StandRatio)):List (Nat×Blk):=[(6,.var 174 [.d (.fn 134)]),(5,.var 43 [jI Top,jI Bottom]),(3,.var 43 [jI 0,jI 0]),(2,.var 105 [jI c.weight,jI c.lean]),(1,.var 96 (catV (cv25 bB) [.d (.sl 4 (List.map e103 bT)),jI bL.weight,jI bL.along,jI bL.high,.map 0])),(0,.mp (List.map m105_43 m0))]
theorem k57a (bB:StandBook) (bT:(List (Nat→Int))) (bL:Stand_load) (c:Stand_child) (m0:List (Stand_child×StandRatio)) (r:StandRatio×(List (Stand_child×StandRatio))) (h:g57a bB bT bL c m0=some r):SCall Tryd.prog Gs 57 [.agg [jI bB.Kind,jI bB.Front,jI bB.Back,jI bB.Radius,.d (.sl 4 (List.map e36 bB.Parts)),jI bB.Along,jI bB.High,jI bB.Lean_,jI bB.Limit,.d (.sl 3 (List.map e29 bB.Trials)),.d (.sl 4 (List.map e103 bT)),jI bL.weight,jI bL.along,jI bL.high,.map 0],.agg [jI c.weight,jI c.lean]] [(0,.mp (List.map m105_43 m0))] 1 Fr.emp (match r with | (r0_5,m0_2)=>.agg [jI r0_5.Top,jI r0_5.Bottom]) (match r with | (r0_5,m0_2)=>[(0,.mp (List.map m105_43 m0_2))]) 1 Fr.emp:=by
 unfold g57a at h
 refine SCall.mkK Tryd.func57 c57 rfl rfl (by kernel_rfl) (fun Q_0 hR_0 hN_0=>?_)
 refine Sa (sT [pR 2 1,pR 3 2,pR 4 3] (y16 c bB bT bL m0) 4 1) ?_
 refine AW.seqK fun K_1 hK_1=>AW.srwK fun Q_2 hQ_2=>?_
 refine Au 3 (sT [pR 2 1,pR 3 2,pR 4 3,(15,.map 0),(16,.agg [jI c.weight,jI c.lean])] (y16 c bB bT bL m0) 4 1) ?_
 refine RW.one fokW (r_lookA q105 e105 e43 m0 c (StandRatio.mk 0 0) trivial rfl rfl rfl ft105 q105_ok (fun _=>rfl) rfl (r_end ?_))
 refine Au 6 (sT [pR 2 1,pR 3 2,pR 4 3,pR 5 4,(6,.d (.bool ((mget q105 m0 c).isSome)))] [(4,.var 43 [jI (((mget q105 m0 c).getD (StandRatio.mk 0 0)).Top),jI (((mget q105 m0 c).getD (StandRatio.mk 0 0)).Bottom)]),(3,.var 43 [jI 0,jI 0]),(2,.var 105 [jI c.weight,jI c.lean]),(1,.var 96 (catV (cv25 bB) [.d (.sl 4 (List.map e103 bT)),jI bL.weight,jI bL.along,jI bL.high,.map 0])),(0,.mp (List.map m105_43 m0))] 5 1) ?_
 refine RW.nil (hQ_2 _ ?_)
 refine Sa (sT [pR 2 1,pR 3 2,pR 4 3,pR 5 4,(20,.d (.bool ((mget q105 m0 c).isSome)))] [(4,.var 43 [jI (((mget q105 m0 c).getD (StandRatio.mk 0 0)).Top),jI (((mget q105 m0 c).getD (StandRatio.mk 0 0)).Bottom)]),(3,.var 43 [jI 0,jI 0]),(2,.var 105 [jI c.weight,jI c.lean]),(1,.var 96 (catV (cv25 bB) [.d (.sl 4 (List.map e103 bT)),jI bL.weight,jI bL.along,jI bL.high,.map 0])),(0,.mp (List.map m105_43 m0))] 5 1) ?_
 refine AW.cond rfl (fun hb_3=>?_) (fun hb_3=>?_)
 ·have h:=ifT hb_3 h
  refine Sa (sT [pR 4 3] [(3,.var 43 [jI (((mget q105 m0 c).getD (StandRatio.mk 0 0)).Top),jI (((mget q105 m0 c).getD (StandRatio.mk 0 0)).Bottom)]),(0,.mp (List.map m105_43 m0))] 5 1) ?_
  obtain rfl:=Option.some.inj h
  exact rT hR_0 (.cons (.agg rfl rfl (Nat.le_of_ble_eq_true rfl)) .nil)
 ·have h:=ifF hb_3 h
  refine AW.skip (hK_1 _ ?_)
  refine Sa (sT [pR 2 1,pR 3 2,pR 4 3,pR 7 5] [(5,.var 43 [jI 0,jI 0]),(3,.var 43 [jI 0,jI 0]),(2,.var 105 [jI c.weight,jI c.lean]),(1,.var 96 (catV (cv25 bB) [.d (.sl 4 (List.map e103 bT)),jI bL.weight,jI bL.along,jI bL.high,.map 0])),(0,.mp (List.map m105_43 m0))] 6 1) ?_
  refine AW.srwK (fun Q_4 hQ_4=>?_)
  obtain ⟨⟨⟩,hx_5,h⟩:=bsome h
  refine rC (k109 _ hx_5) ?_
  refine Au 2 (sT [pR 2 1,pR 3 2,pR 4 3,pR 7 5,pR 8 6] (y17 c bB bT bL m0) 7 1) ?_
  refine RW.nil (hQ_4 _ ?_)
  refine AW.seqK fun K_6 hK_6=>AW.srwK fun Q_7 hQ_7=>?_
  refine Au 2 (sT [pR 2 1,pR 3 2,pR 4 3,pR 7 5,pR 8 6,(24,.d (.sl 4 (List.map e103 bT)))] (y17 c bB bT bL m0) 7 1) ?_
  refine rL rfl ?_
  refine Au 1 (sT [pR 2 1,pR 3 2,pR 4 3,pR 7 5,pR 8 6,(24,.d (.sl 4 (List.map e103 bT))),(25,jI (bT.length:Int)),(26,jI 0)] (y17 c bB bT bL m0) 7 1) ?_
  refine RW.nil (hQ_7 _ ?_)
  refine AW.block ?_
  refine AW.sln (t:=24) rfl (fun hN_8=>?_)
  rw [List.length_map] at hN_8
  obtain ⟨out_8,hx_8,h⟩:=bsome h
  refine AW.evSK (fun (v:Int) (⟨Top,Bottom⟩:Int×Int)=>(sT [pR 2 1,pR 3 2,pR 4 3,pR 7 5,pR 8 6,(24,.d (.sl 4 (List.map e103 bT))),(25,jI (bT.length:Int)),(26,jI v)] (y18 Top Bottom c bB bT bL m0) 7 1)) (g57a_8 bB bT bL c) hx_8 (Can.kp (by kernel_rfl)) (fun v p s_8 hi_8 hl_8 hp_8 c_8 h K_8 hK_8=>?_) (fun v s_8 hi_8 hl_8 hout=>?_)
  ·obtain ⟨Top,Bottom⟩:=s_8
   unfold g57a_8 at h
   refine Sa (sT [pR 2 1,pR 3 2,pR 4 3,pR 7 5,pR 8 6,(24,.d (.sl 4 (List.map e103 bT))),(25,jI (bT.length:Int)),(26,jI v),(27,.d (.bool (decide (v<(bT.length:Int)))))] (y18 Top Bottom c bB bT bL m0) 7 1) ?_
   refine AW.seqK (fun K_9 hK_9=>?_)
   refine AW.cond rfl (fun hb_10=>?_) (fun hb_10=>False.elim (by have:=of_decide_eq_false hb_10;omega))
   refine AW.skip (hK_9 _ ?_)
   refine AW.seqK (fun K_11 hK_11=>?_)
   refine AW.block ?_
   refine AW.srwK (fun Q_12 hQ_12=>?_)
   refine Au 1 (sT [pR 2 1,pR 3 2,pR 4 3,pR 7 5,pR 8 6,(24,.d (.sl 4 (List.map e103 bT))),(25,jI (bT.length:Int)),(26,jI v),(28,jI v)] (y18 Top Bottom c bB bT bL m0) 7 1) ?_
   refine RW.one fokW (r_iaD trivial rfl rfl hi_8 (row:=e103 p) (mapget hp_8) (r_end ?_))
   refine Au 4 (sT [pR 2 1,pR 3 2,pR 4 3,pR 7 5,pR 8 6,(9,jI v),pR 10 7,(24,.d (.sl 4 (List.map e103 bT))),(25,jI (bT.length:Int)),(26,jI v)] [(7,.var 103 [jI (p 0),jI (p 1),jI (p 2),jI (p 3)]),(6,.var 174 [.d (.fn 134)]),(5,.var 43 [jI Top,jI Bottom]),(3,.var 43 [jI 0,jI 0]),(2,.var 105 [jI c.weight,jI c.lean]),(1,.var 96 (catV (cv25 bB) [.d (.sl 4 (List.map e103 bT)),jI bL.weight,jI bL.along,jI bL.high,.map 0])),(0,.mp (List.map m105_43 m0))] 8 1) ?_
   refine RW.nil (hQ_12 _ ?_)
   refine AW.srwK (fun Q_13 hQ_13=>?_)
   refine Au 3 (sT [pR 2 1,pR 3 2,pR 4 3,pR 7 5,pR 8 6,(9,jI v),(24,.d (.sl 4 (List.map e103 bT))),(25,jI (bT.length:Int)),(26,jI v),(31,.agg [jI bB.Kind,jI bB.Front,jI bB.Back,jI bB.Radius,.d (.sl 4 (List.map e36 bB.Parts)),jI bB.Along,jI bB.High,jI bB.Lean_,jI bB.Limit,.d (.sl 3 (List.map e29 bB.Trials)),.d (.sl 4 (List.map e103 bT)),jI bL.weight,jI bL.along,jI bL.high,.map 0]),(32,.agg [jI (p 0),jI (p 1),jI (p 2),jI (p 3)]),(33,.agg [jI c.weight,jI c.lean])] (y18 Top Bottom c bB bT bL m0) 8 1) ?_
   obtain ⟨r0,hx_14,h⟩:=bsome h
   refine RW.one fokW (r_callZ (zr:=[]) trivial rfl (k108 bB bT bL p c _ hx_14) trivial ⟨(Frz.agg_of ⟨.refl _,.refl _,.refl _,.refl _,.refl _,.refl _,.refl _,.refl _,.refl _,.refl _,.refl _,.refl _,.refl _,.refl _,(.opq rfl (by intro _ h;cases h)),trivial⟩),.refl _,.refl _,trivial⟩ rfl rfl rfl rfl (r_end ?_))
   refine Au 2 (sT [pR 2 1,pR 3 2,pR 4 3,pR 7 5,pR 8 6,(9,jI v),pR 11 8,(24,.d (.sl 4 (List.map e103 bT))),(25,jI (bT.length:Int)),(26,jI v)] [(8,.var 93 [jI r0.weight,jI r0.along,jI r0.high]),(6,.var 174 [.d (.fn 134)]),(5,.var 43 [jI Top,jI Bottom]),(3,.var 43 [jI 0,jI 0]),(2,.var 105 [jI c.weight,jI c.lean]),(1,.var 96 (catV (cv25 bB) [.d (.sl 4 (List.map e103 bT)),jI bL.weight,jI bL.along,jI bL.high,.map 0])),(0,.mp (List.map m105_43 m0))] 9 1) ?_
   refine RW.nil (hQ_13 _ ?_)
   obtain ⟨Top1,hx_15,h⟩:=bsome h
   refine AW.jnSK (fun (Top1:Int)=>(sT [pR 2 1,pR 3 2,pR 4 3,pR 7 5,pR 8 6,(9,jI v),pR 12 9,(24,.d (.sl 4 (List.map e103 bT))),(25,jI (bT.length:Int)),(26,jI v)] [(9,.var 43 [jI Top1,jI r0.weight]),(6,.var 174 [.d (.fn 134)]),(5,.var 43 [jI Top,jI Bottom]),(3,.var 43 [jI 0,jI 0]),(2,.var 105 [jI c.weight,jI c.lean]),(1,.var 96 (catV (cv25 bB) [.d (.sl 4 (List.map e103 bT)),jI bL.weight,jI bL.along,jI bL.high,.map 0])),(0,.mp (List.map m105_43 m0))] 10 1)) (c:=Top1) (fun K_15 hK_15=>?_) ?_
   ·have h:=hx_15
    refine AW.drw fokW ?_
    refine aX 3 (sT [pR 2 1,pR 3 2,pR 4 3,pR 7 5,pR 8 6,(9,jI v),pR 11 8,(24,.d (.sl 4 (List.map e103 bT))),(25,jI (bT.length:Int)),(26,jI v),(37,jI bB.Kind)] [(8,.var 93 [jI r0.weight,jI r0.along,jI r0.high]),(6,.var 174 [.d (.fn 134)]),(5,.var 43 [jI Top,jI Bottom]),(3,.var 43 [jI 0,jI 0]),(2,.var 105 [jI c.weight,jI c.lean]),(1,.var 96 (catV (cv25 bB) [.d (.sl 4 (List.map e103 bT)),jI bL.weight,jI bL.along,jI bL.high,.map 0])),(0,.mp (List.map m105_43 m0))] 9 1) ?_
    obtain ⟨j,hv_17,h⟩:=bsome h
    rcases j with _ | _ | j
    ·refine r_iaF trivial rfl rfl (ixN_ok hv_17).1 (ixN_ok hv_17).2.1 ?_
     refine r_loadF trivial rfl (u:=.fn 158) (by rw [(ixN_ok hv_17).2.2];rfl) ?_
     refine aX 2 (sT [pR 2 1,pR 3 2,pR 4 3,pR 7 5,pR 8 6,(9,jI v),pR 11 8,(24,.d (.sl 4 (List.map e103 bT))),(25,jI (bT.length:Int)),(26,jI v),(39,.d (.fn 158)),(40,.agg [jI bB.Kind,jI bB.Front,jI bB.Back,jI bB.Radius,.d (.sl 4 (List.map e36 bB.Parts)),jI bB.Along,jI bB.High,jI bB.Lean_,jI bB.Limit,.d (.sl 3 (List.map e29 bB.Trials)),.d (.sl 4 (List.map e103 bT)),jI bL.weight,jI bL.along,jI bL.high,.map 0]),(41,.agg [jI r0.weight,jI r0.along,jI r0.high])] [(8,.var 93 [jI r0.weight,jI r0.along,jI r0.high]),(6,.var 174 [.d (.fn 134)]),(5,.var 43 [jI Top,jI Bottom]),(3,.var 43 [jI 0,jI 0]),(2,.var 105 [jI c.weight,jI c.lean]),(1,.var 96 (catV (cv25 bB) [.d (.sl 4 (List.map e103 bT)),jI bL.weight,jI bL.along,jI bL.high,.map 0])),(0,.mp (List.map m105_43 m0))] 9 1) ?_
     obtain ⟨r0_1,hx_18,h⟩:=bsome h
     refine r_callvZ (zr:=[]) trivial rfl (.fn _) (by kernel_rfl) rfl (k158 bB bT bL r0 _ hx_18) trivial ⟨(Frz.agg_of ⟨.refl _,.refl _,.refl _,.refl _,.refl _,.refl _,.refl _,.refl _,.refl _,.refl _,.refl _,.refl _,.refl _,.refl _,(.opq rfl (by intro _ h;cases h)),trivial⟩),.refl _,trivial⟩ rfl rfl rfl rfl ?_
     refine aX 5 (sT [pR 2 1,pR 3 2,pR 4 3,pR 7 5,pR 8 6,(9,jI v),pR 12 9,(24,.d (.sl 4 (List.map e103 bT))),(25,jI (bT.length:Int)),(26,jI v)] [(9,.var 43 [jI r0_1,jI r0.weight]),(8,.var 93 [jI r0.weight,jI r0.along,jI r0.high]),(6,.var 174 [.d (.fn 134)]),(5,.var 43 [jI Top,jI Bottom]),(3,.var 43 [jI 0,jI 0]),(2,.var 105 [jI c.weight,jI c.lean]),(1,.var 96 (catV (cv25 bB) [.d (.sl 4 (List.map e103 bT)),jI bL.weight,jI bL.along,jI bL.high,.map 0])),(0,.mp (List.map m105_43 m0))] 10 1) ?_
     refine Fi (sT [pR 2 1,pR 3 2,pR 4 3,pR 7 5,pR 8 6,(9,jI v),pR 12 9,(24,.d (.sl 4 (List.map e103 bT))),(25,jI (bT.length:Int)),(26,jI v)] [(9,.var 43 [jI r0_1,jI r0.weight]),(6,.var 174 [.d (.fn 134)]),(5,.var 43 [jI Top,jI Bottom]),(3,.var 43 [jI 0,jI 0]),(2,.var 105 [jI c.weight,jI c.lean]),(1,.var 96 (catV (cv25 bB) [.d (.sl 4 (List.map e103 bT)),jI bL.weight,jI bL.along,jI bL.high,.map 0])),(0,.mp (List.map m105_43 m0))] 10 1) ?_
     obtain rfl:=Option.some.inj h
     exact hK_15 _ (Can.kp (by kernel_rfl))
    ·refine r_iaF trivial rfl rfl (ixN_ok hv_17).1 (ixN_ok hv_17).2.1 ?_
     refine r_loadF trivial rfl (u:=.fn 159) (by rw [(ixN_ok hv_17).2.2];rfl) ?_
     refine aX 2 (sT [pR 2 1,pR 3 2,pR 4 3,pR 7 5,pR 8 6,(9,jI v),pR 11 8,(24,.d (.sl 4 (List.map e103 bT))),(25,jI (bT.length:Int)),(26,jI v),(39,.d (.fn 159)),(40,.agg [jI bB.Kind,jI bB.Front,jI bB.Back,jI bB.Radius,.d (.sl 4 (List.map e36 bB.Parts)),jI bB.Along,jI bB.High,jI bB.Lean_,jI bB.Limit,.d (.sl 3 (List.map e29 bB.Trials)),.d (.sl 4 (List.map e103 bT)),jI bL.weight,jI bL.along,jI bL.high,.map 0]),(41,.agg [jI r0.weight,jI r0.along,jI r0.high])] [(8,.var 93 [jI r0.weight,jI r0.along,jI r0.high]),(6,.var 174 [.d (.fn 134)]),(5,.var 43 [jI Top,jI Bottom]),(3,.var 43 [jI 0,jI 0]),(2,.var 105 [jI c.weight,jI c.lean]),(1,.var 96 (catV (cv25 bB) [.d (.sl 4 (List.map e103 bT)),jI bL.weight,jI bL.along,jI bL.high,.map 0])),(0,.mp (List.map m105_43 m0))] 9 1) ?_
     obtain ⟨r0_1_1,hx_19,h⟩:=bsome h
     refine r_callvZ (zr:=[]) trivial rfl (.fn _) (by kernel_rfl) rfl (k159 bB bT bL r0 _ hx_19) trivial ⟨(Frz.agg_of ⟨.refl _,.refl _,.refl _,.refl _,.refl _,.refl _,.refl _,.refl _,.refl _,.refl _,.refl _,.refl _,.refl _,.refl _,(.opq rfl (by intro _ h;cases h)),trivial⟩),.refl _,trivial⟩ rfl rfl rfl rfl ?_
     refine aX 5 (sT [pR 2 1,pR 3 2,pR 4 3,pR 7 5,pR 8 6,(9,jI v),pR 12 9,(24,.d (.sl 4 (List.map e103 bT))),(25,jI (bT.length:Int)),(26,jI v)] [(9,.var 43 [jI r0_1_1,jI r0.weight]),(8,.var 93 [jI r0.weight,jI r0.along,jI r0.high]),(6,.var 174 [.d (.fn 134)]),(5,.var 43 [jI Top,jI Bottom]),(3,.var 43 [jI 0,jI 0]),(2,.var 105 [jI c.weight,jI c.lean]),(1,.var 96 (catV (cv25 bB) [.d (.sl 4 (List.map e103 bT)),jI bL.weight,jI bL.along,jI bL.high,.map 0])),(0,.mp (List.map m105_43 m0))] 10 1) ?_
     refine Fi (sT [pR 2 1,pR 3 2,pR 4 3,pR 7 5,pR 8 6,(9,jI v),pR 12 9,(24,.d (.sl 4 (List.map e103 bT))),(25,jI (bT.length:Int)),(26,jI v)] [(9,.var 43 [jI r0_1_1,jI r0.weight]),(6,.var 174 [.d (.fn 134)]),(5,.var 43 [jI Top,jI Bottom]),(3,.var 43 [jI 0,jI 0]),(2,.var 105 [jI c.weight,jI c.lean]),(1,.var 96 (catV (cv25 bB) [.d (.sl 4 (List.map e103 bT)),jI bL.weight,jI bL.along,jI bL.high,.map 0])),(0,.mp (List.map m105_43 m0))] 10 1) ?_
     obtain rfl:=Option.some.inj h
     exact hK_15 _ (Can.kp (by kernel_rfl))
    ·cases h
   ·refine AW.srwK (fun Q_20 hQ_20=>?_)
    refine Au 3 (sT [pR 2 1,pR 3 2,pR 4 3,pR 7 5,pR 8 6,pR 12 9,(24,.d (.sl 4 (List.map e103 bT))),(25,jI (bT.length:Int)),(26,jI v),(48,.d (.bool (decide (v=0))))] [(9,.var 43 [jI Top1,jI r0.weight]),(6,.var 174 [.d (.fn 134)]),(5,.var 43 [jI Top,jI Bottom]),(3,.var 43 [jI 0,jI 0]),(2,.var 105 [jI c.weight,jI c.lean]),(1,.var 96 (catV (cv25 bB) [.d (.sl 4 (List.map e103 bT)),jI bL.weight,jI bL.along,jI bL.high,.map 0])),(0,.mp (List.map m105_43 m0))] 10 1) ?_
    obtain ⟨v1,hx_21,h⟩:=bsome h
    refine RW.cut fokW 6 ((sT [pR 2 1,pR 3 2,pR 4 3,pR 7 5,pR 8 6,pR 12 9,(24,.d (.sl 4 (List.map e103 bT))),(25,jI (bT.length:Int)),(26,jI v),(54,.d (.bool v1))] [(9,.var 43 [jI Top1,jI r0.weight]),(6,.var 174 [.d (.fn 134)]),(5,.var 43 [jI Top,jI Bottom]),(3,.var 43 [jI 0,jI 0]),(2,.var 105 [jI c.weight,jI c.lean]),(1,.var 96 (catV (cv25 bB) [.d (.sl 4 (List.map e103 bT)),jI bL.weight,jI bL.along,jI bL.high,.map 0])),(0,.mp (List.map m105_43 m0))] 10 1)) ?_ ?_
    ·refine r_split 48 rfl (fun hb_23=>?_) (fun hb_23=>?_)
     ·have h:=ifT hb_23 hx_21
      refine aX 6 (sT [pR 2 1,pR 3 2,pR 4 3,pR 7 5,pR 8 6,pR 12 9,(24,.d (.sl 4 (List.map e103 bT))),(25,jI (bT.length:Int)),(26,jI v),(54,.d (.bool true))] [(9,.var 43 [jI Top1,jI r0.weight]),(6,.var 174 [.d (.fn 134)]),(5,.var 43 [jI Top,jI Bottom]),(3,.var 43 [jI 0,jI 0]),(2,.var 105 [jI c.weight,jI c.lean]),(1,.var 96 (catV (cv25 bB) [.d (.sl 4 (List.map e103 bT)),jI bL.weight,jI bL.along,jI bL.high,.map 0])),(0,.mp (List.map m105_43 m0))] 10 1) ?_
      obtain rfl:=Option.some.inj h
      refine RunC.finJ (Can.kp (by kernel_rfl))
     ·have h:=ifF hb_23 hx_21
      refine aX 4 (sT [pR 2 1,pR 3 2,pR 4 3,pR 7 5,pR 8 6,pR 12 9,(24,.d (.sl 4 (List.map e103 bT))),(25,jI (bT.length:Int)),(26,jI v),(48,.d (.bool false)),(50,.d (.fn 134)),(51,.agg [jI Top1,jI r0.weight]),(52,.agg [jI Top,jI Bottom])] [(9,.var 43 [jI Top1,jI r0.weight]),(6,.var 174 [.d (.fn 134)]),(5,.var 43 [jI Top,jI Bottom]),(3,.var 43 [jI 0,jI 0]),(2,.var 105 [jI c.weight,jI c.lean]),(1,.var 96 (catV (cv25 bB) [.d (.sl 4 (List.map e103 bT)),jI bL.weight,jI bL.along,jI bL.high,.map 0])),(0,.mp (List.map m105_43 m0))] 10 1) ?_
      obtain ⟨r0_2,hx_22,h⟩:=bsome h
      refine r_callvZ (zr:=[]) rfl rfl (.fn _) (by kernel_rfl) rfl (k134 (StandRatio.mk Top1 r0.weight) (StandRatio.mk Top Bottom) _ hx_22) trivial ⟨.refl _,.refl _,trivial⟩ rfl rfl rfl rfl ?_
      refine aX 1 (sT [pR 2 1,pR 3 2,pR 4 3,pR 7 5,pR 8 6,pR 12 9,(24,.d (.sl 4 (List.map e103 bT))),(25,jI (bT.length:Int)),(26,jI v),(54,.d (.bool r0_2))] [(9,.var 43 [jI Top1,jI r0.weight]),(6,.var 174 [.d (.fn 134)]),(5,.var 43 [jI Top,jI Bottom]),(3,.var 43 [jI 0,jI 0]),(2,.var 105 [jI c.weight,jI c.lean]),(1,.var 96 (catV (cv25 bB) [.d (.sl 4 (List.map e103 bT)),jI bL.weight,jI bL.along,jI bL.high,.map 0])),(0,.mp (List.map m105_43 m0))] 10 1) ?_
      obtain rfl:=Option.some.inj h
      refine RunC.finJ (Can.kp (by kernel_rfl))
    ·refine RW.nil (hQ_20 _ ?_)
     refine AW.cond rfl (fun hb_24=>?_) (fun hb_24=>?_)
     ·have h:=ifT hb_24 h
      refine Ra (sT [pR 2 1,pR 3 2,pR 4 3,pR 7 5,pR 8 6,(24,.d (.sl 4 (List.map e103 bT))),(25,jI (bT.length:Int)),(26,jI v)] [(5,.var 43 [jI Top1,jI r0.weight]),(6,.var 174 [.d (.fn 134)]),(3,.var 43 [jI 0,jI 0]),(2,.var 105 [jI c.weight,jI c.lean]),(1,.var 96 (catV (cv25 bB) [.d (.sl 4 (List.map e103 bT)),jI bL.weight,jI bL.along,jI bL.high,.map 0])),(0,.mp (List.map m105_43 m0))] 10 1) ?_
      refine hK_11 _ ?_
      refine Ra (sT [pR 2 1,pR 3 2,pR 4 3,pR 7 5,pR 8 6,(24,.d (.sl 4 (List.map e103 bT))),(25,jI (bT.length:Int)),(26,jI (wr (v+1)))] [(5,.var 43 [jI Top1,jI r0.weight]),(6,.var 174 [.d (.fn 134)]),(3,.var 43 [jI 0,jI 0]),(2,.var 105 [jI c.weight,jI c.lean]),(1,.var 96 (catV (cv25 bB) [.d (.sl 4 (List.map e103 bT)),jI bL.weight,jI bL.along,jI bL.high,.map 0])),(0,.mp (List.map m105_43 m0))] 10 1) ?_
      obtain rfl:=Option.some.inj h
      have ew:wr (v+1)=v+1:=inext (N:=(bT.length:Int)) (by omega) (by omega) (by omega)
      rw [ew]
      exact hK_8 _ (Can.kp (by kernel_rfl))
     ·have h:=ifF hb_24 h
      refine AW.skip (hK_11 _ ?_)
      refine Ra (sT [pR 2 1,pR 3 2,pR 4 3,pR 7 5,pR 8 6,(24,.d (.sl 4 (List.map e103 bT))),(25,jI (bT.length:Int)),(26,jI (wr (v+1)))] (y18 Top Bottom c bB bT bL m0) 10 1) ?_
      obtain rfl:=Option.some.inj h
      have ew:wr (v+1)=v+1:=inext (N:=(bT.length:Int)) (by omega) (by omega) (by omega)
      rw [ew]
      exact hK_8 _ (Can.kp (by kernel_rfl))
  ·obtain ⟨Top,Bottom⟩:=s_8
   subst hout
   refine Sa (sT [pR 2 1,pR 3 2,pR 4 3,pR 7 5,pR 8 6,(24,.d (.sl 4 (List.map e103 bT))),(25,jI (bT.length:Int)),(26,jI v),(27,.d (.bool (decide (v<(bT.length:Int)))))] (y18 Top Bottom c bB bT bL m0) 7 1) ?_
   refine AW.seqK (fun K_25 hK_25=>?_)
   refine AW.cond rfl (fun hb_26=>False.elim (by have:=of_decide_eq_true hb_26;omega)) (fun hb_26=>?_)
   refine AW.exit ?_
   refine hK_6 _ ?_
   refine AW.sdrwK fokW (fun Q_27 hQ_27=>?_)
   refine aX 4 (sT [pR 2 1,pR 3 2,pR 4 3,(58,.map 0),(59,.agg [jI c.weight,jI c.lean]),(60,.agg [jI Top,jI Bottom])] (y18 Top Bottom c bB bT bL m0) 7 1) ?_
   obtain ⟨r0_3,hx_28,h⟩:=bsome h
   refine r_call trivial rfl (k110 (StandRatio.mk Top Bottom) _ hx_28) rfl rfl ?_
   obtain ⟨m,hv_29,h⟩:=bsome h
   refine r_mput q105 e105 (fun x=>DV.a (e43 x)) trivial rfl rfl rfl rfl ft105 q105_ok (fun _=>rfl) rfl hv_29 ?_
   refine Fi (sT [pR 2 1,pR 3 2,pR 4 3] [(0,.mp (List.map m105_43 m)),(3,.var 43 [jI 0,jI 0]),(2,.var 105 [jI c.weight,jI c.lean]),(1,.var 96 (catV (cv25 bB) [.d (.sl 4 (List.map e103 bT)),jI bL.weight,jI bL.along,jI bL.high,.map 0]))] 7 1) ?_
   refine hQ_27 _ ?_
   refine AW.srwK (fun Q_30 hQ_30=>?_)
   refine Au 3 (sT [pR 4 3,(63,.map 0),(64,.agg [jI c.weight,jI c.lean])] [(0,.mp (List.map m105_43 m)),(3,.var 43 [jI 0,jI 0])] 7 1) ?_
   refine RW.one fokW (r_lookA q105 e105 e43 m c (StandRatio.mk 0 0) trivial rfl rfl rfl ft105 q105_ok (fun _=>rfl) rfl (r_end ?_))
   refine Au 1 (sT [pR 4 3] [(3,.var 43 [jI (((mget q105 m c).getD (StandRatio.mk 0 0)).Top),jI (((mget q105 m c).getD (StandRatio.mk 0 0)).Bottom)]),(0,.mp (List.map m105_43 m))] 7 1) ?_
   refine RW.nil (hQ_30 _ ?_)
   obtain rfl:=Option.some.inj h
   exact rT hR_0 (.cons (.agg rfl rfl (Nat.le_of_ble_eq_true rfl)) .nil)
def g13 (x:StandBook) (weight:Int) (lean:Int):Option (StandRatio×Int):=((g54 x weight).bind fun r0_1=>bif r0_1 then ((g55 x lean).bind fun r0_1_1=>(g53 x r0_1_1).bind fun r_8=>match r_8 with | .next (r0B5,r0T5,r0L5,r1_2)=>(must (decide (r1_2≠0))).bind fun _=>some (.next (r1_2,r0B5.Kind,r0B5.Front,r0B5.Back,r0B5.Radius,r0B5.Parts,r0B5.Along,r0B5.High,r0B5.Lean_,r0B5.Limit,r0B5.Trials,r0T5,r0L5.weight,r0L5.along,r0L5.high)) | .brk (r0B6,r0T6,r0L6,r1_3,m4_1)=>some (.brk (r1_3,r0B6.Kind,r0B6.Front,r0B6.Back,r0B6.Radius,r0B6.Parts,r0B6.Along,r0B6.High,r0B6.Lean_,r0B6.Limit,r0B6.Trials,r0T6,r0L6.weight,r0L6.along,r0L6.high,m4_1))) else ((g53 x false).bind fun r_11=>match r_11 with | .next (r0B5_1,r0T5_1,r0L5_1,r1_2_1)=>(must (decide (r1_2_1≠0))).bind fun _=>some (.next (r1_2_1,r0B5_1.Kind,r0B5_1.Front,r0B5_1.Back,r0B5_1.Radius,r0B5_1.Parts,r0B5_1.Along,r0B5_1.High,r0B5_1.Lean_,r0B5_1.Limit,r0B5_1.Trials,r0T5_1,r0L5_1.weight,r0L5_1.along,r0L5_1.high)) | .brk (r0B6_1,r0T6_1,r0L6_1,r1_3_1,m4_1_1)=>some (.brk (r1_3_1,r0B6_1.Kind,r0B6_1.Front,r0B6_1.Back,r0B6_1.Radius,r0B6_1.Parts,r0B6_1.Along,r0B6_1.High,r0B6_1.Lean_,r0B6_1.Limit,r0B6_1.Trials,r0T6_1,r0L6_1.weight,r0L6_1.along,r0L6_1.high,m4_1_1))):Option (Ctl (Int×Int×Int×Int×Int×(List StandPart)×Int×Int×Int×Int×(List StandTrial)×(List (Nat→Int))×Int×Int×Int) (Int×Int×Int×Int×Int×(List StandPart)×Int×Int×Int×Int×(List StandTrial)×(List (Nat→Int))×Int×Int×Int×(List (Stand_child×StandRatio))))).bind fun j_1=>match j_1 with | .next (e,Kind,Front,Back,Radius,Parts,Along,High,Lean_,Limit,Trials,truths,weight1,along,high)=>(must (decide (e≠0))).bind fun _=>some ((StandRatio.mk 0 0),e) | .brk (e1,Kind1,Front1,Back1,Radius1,Parts1,Along1,High1,Lean_1,Limit1,Trials1,truths1,weight2,along1,high1,m)=>bif (decide (e1≠0)) then (some ((StandRatio.mk 0 0),e1)) else ((g57a (StandBook.mk Kind1 Front1 Back1 Radius1 Parts1 Along1 High1 Lean_1 Limit1 Trials1) truths1 (Stand_load.mk weight2 along1 high1) (Stand_child.mk weight lean) m).bind fun (r0_5,m0_2)=>some (r0_5,0))
theorem k13 (x:StandBook) (weight:Int) (lean:Int) (r:StandRatio×Int) (h:g13 x weight lean=some r):SCall Tryd.prog Gs 13 [.agg [jI x.Kind,jI x.Front,jI x.Back,jI x.Radius,.d (.sl 4 (List.map e36 x.Parts)),jI x.Along,jI x.High,jI x.Lean_,jI x.Limit,.d (.sl 3 (List.map e29 x.Trials))],jI weight,jI lean] [] 0 Fr.emp (match r with | (r0_3,r1_4)=>.tup [.agg [jI r0_3.Top,jI r0_3.Bottom],jI r1_4]) [] 0 Fr.emp:=by
 unfold g13 at h
 refine SCall.mkK Tryd.func13 c13 rfl rfl (by kernel_rfl) (fun Q_0 hR_0 hN_0=>?_)
 refine Sa (sT [(1,jI weight),(2,jI lean),pR 3 0,pR 6 1] [(1,.var 43 [jI 0,jI 0]),(0,.var 25 (cv25 x))] 2 0) ?_
 obtain ⟨c_1,hx_1,h⟩:=bsome h
 refine AW.jnSK (fun (j:Ctl (Int×Int×Int×Int×Int×(List StandPart)×Int×Int×Int×Int×(List StandTrial)×(List (Nat→Int))×Int×Int×Int) (Int×Int×Int×Int×Int×(List StandPart)×Int×Int×Int×Int×(List StandTrial)×(List (Nat→Int))×Int×Int×Int×(List (Stand_child×StandRatio))))=>match j with | .next (e,Kind,Front,Back,Radius,Parts,Along,High,Lean_,Limit,Trials,truths,weight1,along,high)=>(sT [(1,jI weight),(2,jI lean),pR 6 1,pR 8 2,(9,jI e)] [(2,.var 96 [jI Kind,jI Front,jI Back,jI Radius,.d (.sl 4 (List.map e36 Parts)),jI Along,jI High,jI Lean_,jI Limit,.d (.sl 3 (List.map e29 Trials)),.d (.sl 4 (List.map e103 truths)),jI weight1,jI along,jI high,.d (.nilMap)]),(1,.var 43 [jI 0,jI 0])] 3 0) | .brk (e1,Kind1,Front1,Back1,Radius1,Parts1,Along1,High1,Lean_1,Limit1,Trials1,truths1,weight2,along1,high1,m)=>(sT [(1,jI weight),(2,jI lean),pR 6 1,pR 8 7,(9,jI e1)] [(7,.var 96 [jI Kind1,jI Front1,jI Back1,jI Radius1,.d (.sl 4 (List.map e36 Parts1)),jI Along1,jI High1,jI Lean_1,jI Limit1,.d (.sl 3 (List.map e29 Trials1)),.d (.sl 4 (List.map e103 truths1)),jI weight2,jI along1,jI high1,.map 6]),(6,.mp (List.map m105_43 m)),(1,.var 43 [jI 0,jI 0])] 8 0)) (c:=c_1) (fun K_1 hK_1=>?_) ?_
 ·have h:=hx_1
  refine AW.drw fokW ?_
  refine aX 3 (sT [(1,jI weight),(2,jI lean),pR 3 0,pR 6 1,(11,.agg [jI x.Kind,jI x.Front,jI x.Back,jI x.Radius,.d (.sl 4 (List.map e36 x.Parts)),jI x.Along,jI x.High,jI x.Lean_,jI x.Limit,.d (.sl 3 (List.map e29 x.Trials))]),(12,.agg [jI x.Kind,jI x.Front,jI x.Back,jI x.Radius,.d (.sl 4 (List.map e36 x.Parts)),jI x.Along,jI x.High,jI x.Lean_,jI x.Limit,.d (.sl 3 (List.map e29 x.Trials))]),(13,jI weight)] [(1,.var 43 [jI 0,jI 0]),(0,.var 25 (cv25 x))] 2 0) ?_
  obtain ⟨r0_1,hx_3,h⟩:=bsome h
  refine r_call trivial rfl (k54 x weight _ hx_3) rfl rfl ?_
  refine aX 1 (sT [(1,jI weight),(2,jI lean),pR 3 0,pR 6 1,(11,.agg [jI x.Kind,jI x.Front,jI x.Back,jI x.Radius,.d (.sl 4 (List.map e36 x.Parts)),jI x.Along,jI x.High,jI x.Lean_,jI x.Limit,.d (.sl 3 (List.map e29 x.Trials))]),(15,.d (.bool r0_1))] [(1,.var 43 [jI 0,jI 0]),(0,.var 25 (cv25 x))] 2 0) ?_
  refine r_split 15 rfl (fun hb_4=>?_) (fun hb_4=>?_)
  ·have h:=ifT hb_4 h
   refine aX 2 (sT [(1,jI weight),(2,jI lean),pR 6 1,(11,.agg [jI x.Kind,jI x.Front,jI x.Back,jI x.Radius,.d (.sl 4 (List.map e36 x.Parts)),jI x.Along,jI x.High,jI x.Lean_,jI x.Limit,.d (.sl 3 (List.map e29 x.Trials))]),(15,.d (.bool true)),(16,.agg [jI x.Kind,jI x.Front,jI x.Back,jI x.Radius,.d (.sl 4 (List.map e36 x.Parts)),jI x.Along,jI x.High,jI x.Lean_,jI x.Limit,.d (.sl 3 (List.map e29 x.Trials))]),(17,jI lean)] [(1,.var 43 [jI 0,jI 0]),(0,.var 25 (cv25 x))] 2 0) ?_
   obtain ⟨r0_1_1,hx_5,h⟩:=bsome h
   refine r_call rfl rfl (k55 x lean _ hx_5) rfl rfl ?_
   refine aX 1 (sT [(1,jI weight),(2,jI lean),pR 6 1,(11,.agg [jI x.Kind,jI x.Front,jI x.Back,jI x.Radius,.d (.sl 4 (List.map e36 x.Parts)),jI x.Along,jI x.High,jI x.Lean_,jI x.Limit,.d (.sl 3 (List.map e29 x.Trials))]),(19,.d (.bool r0_1_1))] [(1,.var 43 [jI 0,jI 0]),(0,.var 25 (cv25 x))] 2 0) ?_
   obtain ⟨r_8,hx_6,h⟩:=bsome h
   rcases r_8 with (⟨r0B5,r0T5,r0L5,r1_2⟩ | (⟨r0B6,r0T6,r0L6,r1_3,m4_1⟩))
   ·refine r_callS (zr:=[]) [] trivial rfl (k53 x r0_1_1 _ hx_6) trivial rfl rfl ⟨.refl _,.refl _,trivial⟩ rfl rfl rfl ?_
    obtain ⟨_,hv_7,h⟩:=bsome h
    have hf_8:=must_ok hv_7
    refine aX 6 (sT [(1,jI weight),(2,jI lean),pR 6 1,pR 8 2,(9,jI r1_2)] [(2,.var 96 (catV (cv25 r0B5) [.d (.sl 4 (List.map e103 r0T5)),jI r0L5.weight,jI r0L5.along,jI r0L5.high,.d (.nilMap)])),(1,.var 43 [jI 0,jI 0]),(0,.var 25 (cv25 x))] 3 0) ?_
    refine Fi (sT [(1,jI weight),(2,jI lean),pR 6 1,pR 8 2,(9,jI r1_2)] [(2,.var 96 (catV (cv25 r0B5) [.d (.sl 4 (List.map e103 r0T5)),jI r0L5.weight,jI r0L5.along,jI r0L5.high,.d (.nilMap)])),(1,.var 43 [jI 0,jI 0])] 3 0) ?_
    obtain rfl:=Option.some.inj h
    exact hK_1 _ (Can.kp (by kernel_rfl))
   ·refine r_callS (zr:=[]) [] trivial rfl (k53 x r0_1_1 _ hx_6) trivial rfl rfl ⟨.refl _,.refl _,trivial⟩ rfl rfl rfl ?_
    refine aX 6 (sT [(1,jI weight),(2,jI lean),pR 6 1,pR 8 7,(9,jI r1_3)] [(7,.var 96 (catV (cv25 r0B6) [.d (.sl 4 (List.map e103 r0T6)),jI r0L6.weight,jI r0L6.along,jI r0L6.high,.map 6])),(6,.mp (List.map m105_43 m4_1)),(1,.var 43 [jI 0,jI 0]),(0,.var 25 (cv25 x))] 8 0) ?_
    refine Fi (sT [(1,jI weight),(2,jI lean),pR 6 1,pR 8 7,(9,jI r1_3)] [(7,.var 96 (catV (cv25 r0B6) [.d (.sl 4 (List.map e103 r0T6)),jI r0L6.weight,jI r0L6.along,jI r0L6.high,.map 6])),(6,.mp (List.map m105_43 m4_1)),(1,.var 43 [jI 0,jI 0])] 8 0) ?_
    obtain rfl:=Option.some.inj h
    exact hK_1 _ (Can.kp (by kernel_rfl))
  ·have h:=ifF hb_4 h
   refine aX 4 (sT [(1,jI weight),(2,jI lean),pR 6 1,(11,.agg [jI x.Kind,jI x.Front,jI x.Back,jI x.Radius,.d (.sl 4 (List.map e36 x.Parts)),jI x.Along,jI x.High,jI x.Lean_,jI x.Limit,.d (.sl 3 (List.map e29 x.Trials))]),(19,.d (.bool false))] [(1,.var 43 [jI 0,jI 0]),(0,.var 25 (cv25 x))] 2 0) ?_
   obtain ⟨r_11,hx_9,h⟩:=bsome h
   rcases r_11 with (⟨r0B5_1,r0T5_1,r0L5_1,r1_2_1⟩ | (⟨r0B6_1,r0T6_1,r0L6_1,r1_3_1,m4_1_1⟩))
   ·refine r_callS (zr:=[]) [] trivial rfl (k53 x false _ hx_9) trivial rfl rfl ⟨.refl _,.refl _,trivial⟩ rfl rfl rfl ?_
    obtain ⟨_,hv_10,h⟩:=bsome h
    have hf_11:=must_ok hv_10
    refine aX 6 (sT [(1,jI weight),(2,jI lean),pR 6 1,pR 8 2,(9,jI r1_2_1)] [(2,.var 96 (catV (cv25 r0B5_1) [.d (.sl 4 (List.map e103 r0T5_1)),jI r0L5_1.weight,jI r0L5_1.along,jI r0L5_1.high,.d (.nilMap)])),(1,.var 43 [jI 0,jI 0]),(0,.var 25 (cv25 x))] 3 0) ?_
    refine Fi (sT [(1,jI weight),(2,jI lean),pR 6 1,pR 8 2,(9,jI r1_2_1)] [(2,.var 96 (catV (cv25 r0B5_1) [.d (.sl 4 (List.map e103 r0T5_1)),jI r0L5_1.weight,jI r0L5_1.along,jI r0L5_1.high,.d (.nilMap)])),(1,.var 43 [jI 0,jI 0])] 3 0) ?_
    obtain rfl:=Option.some.inj h
    exact hK_1 _ (Can.kp (by kernel_rfl))
   ·refine r_callS (zr:=[]) [] trivial rfl (k53 x false _ hx_9) trivial rfl rfl ⟨.refl _,.refl _,trivial⟩ rfl rfl rfl ?_
    refine aX 6 (sT [(1,jI weight),(2,jI lean),pR 6 1,pR 8 7,(9,jI r1_3_1)] [(7,.var 96 (catV (cv25 r0B6_1) [.d (.sl 4 (List.map e103 r0T6_1)),jI r0L6_1.weight,jI r0L6_1.along,jI r0L6_1.high,.map 6])),(6,.mp (List.map m105_43 m4_1_1)),(1,.var 43 [jI 0,jI 0]),(0,.var 25 (cv25 x))] 8 0) ?_
    refine Fi (sT [(1,jI weight),(2,jI lean),pR 6 1,pR 8 7,(9,jI r1_3_1)] [(7,.var 96 (catV (cv25 r0B6_1) [.d (.sl 4 (List.map e103 r0T6_1)),jI r0L6_1.weight,jI r0L6_1.along,jI r0L6_1.high,.map 6])),(6,.mp (List.map m105_43 m4_1_1)),(1,.var 43 [jI 0,jI 0])] 8 0) ?_
    obtain rfl:=Option.some.inj h
    exact hK_1 _ (Can.kp (by kernel_rfl))
 ·rcases c_1 with (⟨e,Kind,Front,Back,Radius,Parts,Along,High,Lean_,Limit,Trials,truths,weight1,along,high⟩ | ⟨e1,Kind1,Front1,Back1,Radius1,Parts1,Along1,High1,Lean_1,Limit1,Trials1,truths1,weight2,along1,high1,m⟩)
  ·obtain ⟨_,hv_12,h⟩:=bsome h
   have hf_13:=must_ok hv_12
   refine AW.seqK (fun K_14 hK_14=>?_)
   refine Sa (sT [(1,jI weight),(2,jI lean),pR 6 1,pR 8 2,(9,jI e),(24,.d (.bool (decide (e≠0))))] [(2,.var 96 [jI Kind,jI Front,jI Back,jI Radius,.d (.sl 4 (List.map e36 Parts)),jI Along,jI High,jI Lean_,jI Limit,.d (.sl 3 (List.map e29 Trials)),.d (.sl 4 (List.map e103 truths)),jI weight1,jI along,jI high,.d (.nilMap)]),(1,.var 43 [jI 0,jI 0])] 3 0) ?_
   refine AW.cond rfl (fun hb_15=>?_) (fun hb_15=>False.elim (by rw [hf_13] at hb_15;cases hb_15))
   refine Sa (sT [pR 6 1,(7,jI e)] [(1,.var 43 [jI 0,jI 0])] 3 0) ?_
   obtain rfl:=Option.some.inj h
   exact rT hR_0 (.cons (.agg rfl rfl (Nat.le_of_ble_eq_true rfl)) (.cons (.tmp rfl) .nil))
  ·refine AW.seqK (fun K_16 hK_16=>?_)
   refine Sa (sT [(1,jI weight),(2,jI lean),pR 6 1,pR 8 7,(9,jI e1),(24,.d (.bool (decide (e1≠0))))] [(7,.var 96 [jI Kind1,jI Front1,jI Back1,jI Radius1,.d (.sl 4 (List.map e36 Parts1)),jI Along1,jI High1,jI Lean_1,jI Limit1,.d (.sl 3 (List.map e29 Trials1)),.d (.sl 4 (List.map e103 truths1)),jI weight2,jI along1,jI high1,.map 6]),(6,.mp (List.map m105_43 m)),(1,.var 43 [jI 0,jI 0])] 8 0) ?_
   refine AW.cond rfl (fun hb_17=>?_) (fun hb_17=>?_)
   ·have h:=ifT hb_17 h
    refine Sa (sT [pR 6 1,(7,jI e1)] [(1,.var 43 [jI 0,jI 0])] 8 0) ?_
    obtain rfl:=Option.some.inj h
    exact rT hR_0 (.cons (.agg rfl rfl (Nat.le_of_ble_eq_true rfl)) (.cons (.tmp rfl) .nil))
   ·have h:=ifF hb_17 h
    refine AW.skip (hK_16 _ ?_)
    refine AW.srwK (fun Q_18 hQ_18=>?_)
    refine Au 4 (sT [pR 6 1,(27,.agg [jI Kind1,jI Front1,jI Back1,jI Radius1,.d (.sl 4 (List.map e36 Parts1)),jI Along1,jI High1,jI Lean_1,jI Limit1,.d (.sl 3 (List.map e29 Trials1)),.d (.sl 4 (List.map e103 truths1)),jI weight2,jI along1,jI high1,.map 6]),(30,.agg [jI weight,jI lean])] [(6,.mp (List.map m105_43 m)),(1,.var 43 [jI 0,jI 0])] 8 0) ?_
    obtain ⟨⟨r0_5,m0_2⟩,hx_19,h⟩:=bsome h
    refine RW.one fokW (r_callS (zr:=[]) [6] trivial rfl (k57a (StandBook.mk Kind1 Front1 Back1 Radius1 Parts1 Along1 High1 Lean_1 Limit1 Trials1) truths1 (Stand_load.mk weight2 along1 high1) (Stand_child.mk weight lean) m _ hx_19) ⟨rfl,trivial⟩ rfl rfl ⟨.refl _,.refl _,trivial⟩ rfl rfl rfl (r_end ?_))
    refine Au 2 (sT [pR 6 1,(7,jI 0)] [(1,.var 43 [jI r0_5.Top,jI r0_5.Bottom])] 8 0) ?_
    refine RW.nil (hQ_18 _ ?_)
    obtain rfl:=Option.some.inj h
    exact rT hR_0 (.cons (.agg rfl rfl (Nat.le_of_ble_eq_true rfl)) (.cons (.tmp rfl) .nil))
def g58a (bB:StandBook) (bT:(List (Nat→Int))) (bL:Stand_load) (weight:Int) (m0:List (Stand_child×StandRatio)):Option (Bool×(List (Stand_child×StandRatio))):=(g57a bB bT bL (Stand_child.mk weight (wr (-bB.Lean_))) m0).bind fun (r0_5,m0_2)=>(bif (decide (0≤r0_5.Top)) then ((g57a bB bT bL (Stand_child.mk weight bB.Lean_) m0_2).bind fun (r0_5_1,m0_2_1)=>some ((decide (0≤r0_5_1.Top)),m0_2_1)) else (some (false,m0_2))).bind fun (v,m)=>some (v,m)
def y19 (m0_2:List (Stand_child×StandRatio)) (bB:StandBook) (bT:(List (Nat→Int))) (bL:Stand_load):List (Nat×Blk):=[(0,.mp (List.map m105_43 m0_2)),(1,.var 96 (catV (cv25 bB) [.d (.sl 4 (List.map e103 bT)),jI bL.weight,jI bL.along,jI bL.high,.map 0]))]
theorem k58a (bB:StandBook) (bT:(List (Nat→Int))) (bL:Stand_load) (weight:Int) (m0:List (Stand_child×StandRatio)) (r:Bool×(List (Stand_child×StandRatio))) (h:g58a bB bT bL weight m0=some r):SCall Tryd.prog Gs 58 [.agg [jI bB.Kind,jI bB.Front,jI bB.Back,jI bB.Radius,.d (.sl 4 (List.map e36 bB.Parts)),jI bB.Along,jI bB.High,jI bB.Lean_,jI bB.Limit,.d (.sl 3 (List.map e29 bB.Trials)),.d (.sl 4 (List.map e103 bT)),jI bL.weight,jI bL.along,jI bL.high,.map 0],jI weight] [(0,.mp (List.map m105_43 m0))] 1 Fr.emp (match r with | (r0,m0_1)=>.d (.bool r0)) (match r with | (r0,m0_1)=>[(0,.mp (List.map m105_43 m0_1))]) 1 Fr.emp:=by
 unfold g58a at h
 refine SCall.mkK Tryd.func58 c58 rfl rfl (by kernel_rfl) (fun Q_0 hR_0 hN_0=>?_)
 refine Sa (sT [(1,jI weight),pR 2 1] [(1,.var 96 (catV (cv25 bB) [.d (.sl 4 (List.map e103 bT)),jI bL.weight,jI bL.along,jI bL.high,.map 0])),(0,.mp (List.map m105_43 m0))] 2 1) ?_
 refine AW.srwK (fun Q_1 hQ_1=>?_)
 refine Au 7 (sT [(1,jI weight),pR 2 1,(5,.agg [jI bB.Kind,jI bB.Front,jI bB.Back,jI bB.Radius,.d (.sl 4 (List.map e36 bB.Parts)),jI bB.Along,jI bB.High,jI bB.Lean_,jI bB.Limit,.d (.sl 3 (List.map e29 bB.Trials)),.d (.sl 4 (List.map e103 bT)),jI bL.weight,jI bL.along,jI bL.high,.map 0]),(11,.agg [jI weight,jI (wr (-bB.Lean_))])] [(1,.var 96 (catV (cv25 bB) [.d (.sl 4 (List.map e103 bT)),jI bL.weight,jI bL.along,jI bL.high,.map 0])),(0,.mp (List.map m105_43 m0))] 2 1) ?_
 obtain ⟨⟨r0_5,m0_2⟩,hx_2,h⟩:=bsome h
 refine RW.one fokW (r_callS (zr:=[]) [0] trivial rfl (k57a bB bT bL (Stand_child.mk weight (wr (-bB.Lean_))) m0 _ hx_2) ⟨rfl,trivial⟩ rfl rfl ⟨.refl _,.refl _,trivial⟩ rfl rfl rfl (r_end ?_))
 refine Au 3 (sT [(1,jI weight),pR 2 1,(15,.d (.bool (decide (0≤r0_5.Top))))] (y19 m0_2 bB bT bL) 2 1) ?_
 obtain ⟨c_3,hx_3,h⟩:=bsome h
 refine RW.cut fokW 10 (match c_3 with | (v,m)=>(sT [(25,.d (.bool v))] [(0,.mp (List.map m105_43 m))] 2 1)) ?_ ?_
 ·refine r_split 15 rfl (fun hb_5=>?_) (fun hb_5=>?_)
  ·have h:=ifT hb_5 hx_3
   refine aX 6 (sT [(15,.d (.bool true)),(16,.agg [jI bB.Kind,jI bB.Front,jI bB.Back,jI bB.Radius,.d (.sl 4 (List.map e36 bB.Parts)),jI bB.Along,jI bB.High,jI bB.Lean_,jI bB.Limit,.d (.sl 3 (List.map e29 bB.Trials)),.d (.sl 4 (List.map e103 bT)),jI bL.weight,jI bL.along,jI bL.high,.map 0]),(21,.agg [jI weight,jI bB.Lean_])] (y19 m0_2 bB bT bL) 2 1) ?_
   obtain ⟨⟨r0_5_1,m0_2_1⟩,hx_4,h⟩:=bsome h
   refine r_callS (zr:=[]) [0] rfl rfl (k57a bB bT bL (Stand_child.mk weight bB.Lean_) m0_2 _ hx_4) ⟨rfl,trivial⟩ rfl rfl ⟨.refl _,.refl _,trivial⟩ rfl rfl rfl ?_
   refine aX 3 (sT [(25,.d (.bool (decide (0≤r0_5_1.Top))))] [(0,.mp (List.map m105_43 m0_2_1)),(1,.var 96 (catV (cv25 bB) [.d (.sl 4 (List.map e103 bT)),jI bL.weight,jI bL.along,jI bL.high,.map 0]))] 2 1) ?_
   obtain rfl:=Option.some.inj h
   refine RunC.finJ (Can.kp (by kernel_rfl))
  ·have h:=ifF hb_5 hx_3
   refine aX 10 (sT [(25,.d (.bool false))] (y19 m0_2 bB bT bL) 2 1) ?_
   obtain rfl:=Option.some.inj h
   refine RunC.finJ (Can.kp (by kernel_rfl))
 ·obtain ⟨v,m⟩:=c_3
  refine Au 1 (sT [(4,.d (.bool v))] [(0,.mp (List.map m105_43 m))] 2 1) ?_
  refine RW.nil (hQ_1 _ ?_)
  obtain rfl:=Option.some.inj h
  exact rT hR_0 (.cons (.tmp rfl) .nil)
def g14 (x:StandBook) (weight:Int):Option (Bool×Int):=(g54 x weight).bind fun r0_1=>(g53 x r0_1).bind fun r_11=>match r_11 with | .next (r0B5,r0T5,r0L5,r1_2)=>(must (decide (r1_2≠0))).bind fun _=>some (false,r1_2) | .brk (r0B6,r0T6,r0L6,r1_3,m4_1)=>bif (decide (r1_3≠0)) then (some (false,r1_3)) else ((g58a r0B6 r0T6 r0L6 weight m4_1).bind fun (r0,m0_1)=>some (r0,0))
theorem k14 (x:StandBook) (weight:Int) (r:Bool×Int) (h:g14 x weight=some r):SCall Tryd.prog Gs 14 [.agg [jI x.Kind,jI x.Front,jI x.Back,jI x.Radius,.d (.sl 4 (List.map e36 x.Parts)),jI x.Along,jI x.High,jI x.Lean_,jI x.Limit,.d (.sl 3 (List.map e29 x.Trials))],jI weight] [] 0 Fr.emp (match r with | (r0_4,r1_4)=>.tup [.d (.bool r0_4),jI r1_4]) [] 0 Fr.emp:=by
 unfold g14 at h
 refine SCall.mkK Tryd.func14 c14 rfl rfl (by kernel_rfl) (fun Q_0 hR_0 hN_0=>?_)
 refine Sa (sT [(1,jI weight),pR 2 0] [(0,.var 25 (cv25 x))] 1 0) ?_
 refine AW.sdrwK fokW (fun Q_1 hQ_1=>?_)
 refine aX 3 (sT [(1,jI weight),(9,.agg [jI x.Kind,jI x.Front,jI x.Back,jI x.Radius,.d (.sl 4 (List.map e36 x.Parts)),jI x.Along,jI x.High,jI x.Lean_,jI x.Limit,.d (.sl 3 (List.map e29 x.Trials))]),(10,.agg [jI x.Kind,jI x.Front,jI x.Back,jI x.Radius,.d (.sl 4 (List.map e36 x.Parts)),jI x.Along,jI x.High,jI x.Lean_,jI x.Limit,.d (.sl 3 (List.map e29 x.Trials))]),(11,jI weight)] [(0,.var 25 (cv25 x))] 1 0) ?_
 obtain ⟨r0_1,hx_2,h⟩:=bsome h
 refine r_call trivial rfl (k54 x weight _ hx_2) rfl rfl ?_
 obtain ⟨r_11,hx_3,h⟩:=bsome h
 rcases r_11 with (⟨r0B5,r0T5,r0L5,r1_2⟩ | (⟨r0B6,r0T6,r0L6,r1_3,m4_1⟩))
 ·refine r_callS (zr:=[]) [] trivial rfl (k53 x r0_1 _ hx_3) trivial rfl rfl ⟨.refl _,.refl _,trivial⟩ rfl rfl rfl ?_
  obtain ⟨_,hv_4,h⟩:=bsome h
  have hf_5:=must_ok hv_4
  refine aX 6 (sT [(1,jI weight),pR 6 1,(7,jI r1_2)] [(1,.var 96 (catV (cv25 r0B5) [.d (.sl 4 (List.map e103 r0T5)),jI r0L5.weight,jI r0L5.along,jI r0L5.high,.d (.nilMap)])),(0,.var 25 (cv25 x))] 2 0) ?_
  refine Fi (sT [(1,jI weight),pR 6 1,(7,jI r1_2)] [(1,.var 96 (catV (cv25 r0B5) [.d (.sl 4 (List.map e103 r0T5)),jI r0L5.weight,jI r0L5.along,jI r0L5.high,.d (.nilMap)]))] 2 0) ?_
  refine hQ_1 _ ?_
  refine AW.seqK (fun K_6 hK_6=>?_)
  refine Sa (sT [(1,jI weight),pR 6 1,(7,jI r1_2),(17,.d (.bool (decide (r1_2≠0))))] [(1,.var 96 (catV (cv25 r0B5) [.d (.sl 4 (List.map e103 r0T5)),jI r0L5.weight,jI r0L5.along,jI r0L5.high,.d (.nilMap)]))] 2 0) ?_
  refine AW.cond rfl (fun hb_7=>?_) (fun hb_7=>False.elim (by rw [hf_5] at hb_7;cases hb_7))
  refine Sa (sT [(4,.d (.bool false)),(5,jI r1_2)] [] 2 0) ?_
  obtain rfl:=Option.some.inj h
  exact rT hR_0 (.cons (.tmp rfl) (.cons (.tmp rfl) .nil))
 ·refine r_callS (zr:=[]) [] trivial rfl (k53 x r0_1 _ hx_3) trivial rfl rfl ⟨.refl _,.refl _,trivial⟩ rfl rfl rfl ?_
  refine aX 6 (sT [(1,jI weight),pR 6 6,(7,jI r1_3)] [(6,.var 96 (catV (cv25 r0B6) [.d (.sl 4 (List.map e103 r0T6)),jI r0L6.weight,jI r0L6.along,jI r0L6.high,.map 5])),(5,.mp (List.map m105_43 m4_1)),(0,.var 25 (cv25 x))] 7 0) ?_
  refine Fi (sT [(1,jI weight),pR 6 6,(7,jI r1_3)] [(6,.var 96 (catV (cv25 r0B6) [.d (.sl 4 (List.map e103 r0T6)),jI r0L6.weight,jI r0L6.along,jI r0L6.high,.map 5])),(5,.mp (List.map m105_43 m4_1))] 7 0) ?_
  refine hQ_1 _ ?_
  refine AW.seqK (fun K_8 hK_8=>?_)
  refine Sa (sT [(1,jI weight),pR 6 6,(7,jI r1_3),(17,.d (.bool (decide (r1_3≠0))))] [(6,.var 96 (catV (cv25 r0B6) [.d (.sl 4 (List.map e103 r0T6)),jI r0L6.weight,jI r0L6.along,jI r0L6.high,.map 5])),(5,.mp (List.map m105_43 m4_1))] 7 0) ?_
  refine AW.cond rfl (fun hb_9=>?_) (fun hb_9=>?_)
  ·have h:=ifT hb_9 h
   refine Sa (sT [(4,.d (.bool false)),(5,jI r1_3)] [] 7 0) ?_
   obtain rfl:=Option.some.inj h
   exact rT hR_0 (.cons (.tmp rfl) (.cons (.tmp rfl) .nil))
  ·have h:=ifF hb_9 h
   refine AW.skip (hK_8 _ ?_)
   refine AW.srwK (fun Q_10 hQ_10=>?_)
   refine Au 2 (sT [(19,.agg [jI r0B6.Kind,jI r0B6.Front,jI r0B6.Back,jI r0B6.Radius,.d (.sl 4 (List.map e36 r0B6.Parts)),jI r0B6.Along,jI r0B6.High,jI r0B6.Lean_,jI r0B6.Limit,.d (.sl 3 (List.map e29 r0B6.Trials)),.d (.sl 4 (List.map e103 r0T6)),jI r0L6.weight,jI r0L6.along,jI r0L6.high,.map 5]),(20,jI weight)] [(5,.mp (List.map m105_43 m4_1))] 7 0) ?_
   obtain ⟨⟨r0,m0_1⟩,hx_11,h⟩:=bsome h
   refine RW.one fokW (r_callS (zr:=[]) [5] trivial rfl (k58a r0B6 r0T6 r0L6 weight m4_1 _ hx_11) ⟨rfl,trivial⟩ rfl rfl ⟨.refl _,.refl _,trivial⟩ rfl rfl rfl (r_end ?_))
   refine Au 2 (sT [(4,.d (.bool r0)),(5,jI 0)] [] 7 0) ?_
   refine RW.nil (hQ_10 _ ?_)
   obtain rfl:=Option.some.inj h
   exact rT hR_0 (.cons (.tmp rfl) (.cons (.tmp rfl) .nil))
def g15_10 (r0B6:StandBook) (r0T6:(List (Nat→Int))) (r0L6:Stand_load):Int→(List (Stand_child×StandRatio))→Option (Ctl (List (Stand_child×StandRatio)) (Int×Int)):=fun v m=>(g58a r0B6 r0T6 r0L6 (wr (v+1)) m).bind fun (r0,m0_1)=>bif (!r0) then (some (.brk ((wr (v+1)),0))) else (some (.next m0_1))
def g15 (x:StandBook):Option (Int×Int):=(g53 x true).bind fun r_18=>match r_18 with | .next (r0B5,r0T5,r0L5,r1_2)=>(must (decide (r1_2≠0))).bind fun _=>some (0,r1_2) | .brk (r0B6,r0T6,r0L6,r1_3,m4_1)=>bif (decide (r1_3≠0)) then (some (0,r1_3)) else ((must (decide (x.Limit≤9223372036854775807))).bind fun _=>bindC (forC (g15_10 r0B6 r0T6 r0L6) (((x.Limit:Int) - 0).toNat) 0 m4_1) fun m=>some (0,4))
theorem k15 (x:StandBook) (r:Int×Int) (h:g15 x=some r):SCall Tryd.prog Gs 15 [.agg [jI x.Kind,jI x.Front,jI x.Back,jI x.Radius,.d (.sl 4 (List.map e36 x.Parts)),jI x.Along,jI x.High,jI x.Lean_,jI x.Limit,.d (.sl 3 (List.map e29 x.Trials))]] [] 0 Fr.emp (match r with | (r0_4,r1_5)=>.tup [jI r0_4,jI r1_5]) [] 0 Fr.emp:=by
 unfold g15 at h
 refine SCall.mkK Tryd.func15 c15 rfl rfl (by kernel_rfl) (fun Q_0 hR_0 hN_0=>?_)
 refine Sa (sT [pR 1 0] [(0,.var 25 (cv25 x))] 1 0) ?_
 refine AW.srwK (fun Q_1 hQ_1=>?_)
 refine Au 1 (sT [pR 1 0,(8,.agg [jI x.Kind,jI x.Front,jI x.Back,jI x.Radius,.d (.sl 4 (List.map e36 x.Parts)),jI x.Along,jI x.High,jI x.Lean_,jI x.Limit,.d (.sl 3 (List.map e29 x.Trials))])] [(0,.var 25 (cv25 x))] 1 0) ?_
 obtain ⟨r_18,hx_2,h⟩:=bsome h
 rcases r_18 with (⟨r0B5,r0T5,r0L5,r1_2⟩ | (⟨r0B6,r0T6,r0L6,r1_3,m4_1⟩))
 ·refine RW.one fokW (r_callS (zr:=[]) [] trivial rfl (k53 x true _ hx_2) trivial rfl rfl ⟨.refl _,.refl _,trivial⟩ rfl rfl rfl (r_end ?_))
  obtain ⟨_,hv_3,h⟩:=bsome h
  have hf_4:=must_ok hv_3
  refine Au 6 (sT [pR 1 0,pR 4 1,(5,jI r1_2)] [(1,.var 96 (catV (cv25 r0B5) [.d (.sl 4 (List.map e103 r0T5)),jI r0L5.weight,jI r0L5.along,jI r0L5.high,.d (.nilMap)])),(0,.var 25 (cv25 x))] 2 0) ?_
  refine RW.nil (hQ_1 _ ?_)
  refine AW.seqK (fun K_5 hK_5=>?_)
  refine Sa (sT [pR 1 0,pR 4 1,(5,jI r1_2),(13,.d (.bool (decide (r1_2≠0))))] [(1,.var 96 (catV (cv25 r0B5) [.d (.sl 4 (List.map e103 r0T5)),jI r0L5.weight,jI r0L5.along,jI r0L5.high,.d (.nilMap)])),(0,.var 25 (cv25 x))] 2 0) ?_
  refine AW.cond rfl (fun hb_6=>?_) (fun hb_6=>False.elim (by rw [hf_4] at hb_6;cases hb_6))
  refine Sa (sT [(2,jI 0),(3,jI r1_2)] [] 2 0) ?_
  obtain rfl:=Option.some.inj h
  exact rT hR_0 (.cons (.tmp rfl) (.cons (.tmp rfl) .nil))
 ·refine RW.one fokW (r_callS (zr:=[]) [] trivial rfl (k53 x true _ hx_2) trivial rfl rfl ⟨.refl _,.refl _,trivial⟩ rfl rfl rfl (r_end ?_))
  refine Au 6 (sT [pR 1 0,pR 4 6,(5,jI r1_3)] [(6,.var 96 (catV (cv25 r0B6) [.d (.sl 4 (List.map e103 r0T6)),jI r0L6.weight,jI r0L6.along,jI r0L6.high,.map 5])),(5,.mp (List.map m105_43 m4_1)),(0,.var 25 (cv25 x))] 7 0) ?_
  refine RW.nil (hQ_1 _ ?_)
  refine AW.seqK (fun K_7 hK_7=>?_)
  refine Sa (sT [pR 1 0,pR 4 6,(5,jI r1_3),(13,.d (.bool (decide (r1_3≠0))))] [(6,.var 96 (catV (cv25 r0B6) [.d (.sl 4 (List.map e103 r0T6)),jI r0L6.weight,jI r0L6.along,jI r0L6.high,.map 5])),(5,.mp (List.map m105_43 m4_1)),(0,.var 25 (cv25 x))] 7 0) ?_
  refine AW.cond rfl (fun hb_8=>?_) (fun hb_8=>?_)
  ·have h:=ifT hb_8 h
   refine Sa (sT [(2,jI 0),(3,jI r1_3)] [] 7 0) ?_
   obtain rfl:=Option.some.inj h
   exact rT hR_0 (.cons (.tmp rfl) (.cons (.tmp rfl) .nil))
  ·have h:=ifF hb_8 h
   refine AW.skip (hK_7 _ ?_)
   refine AW.seqK (fun K_9 hK_9=>?_)
   refine Sa (sT [pR 4 6,(16,jI x.Limit),(17,jI 0)] [(6,.var 96 (catV (cv25 r0B6) [.d (.sl 4 (List.map e103 r0T6)),jI r0L6.weight,jI r0L6.along,jI r0L6.high,.map 5])),(5,.mp (List.map m105_43 m4_1))] 7 0) ?_
   refine AW.block ?_
   obtain ⟨_,hN_10,h⟩:=bsome h
   have hN_10:=of_decide_eq_true (must_ok hN_10)
   obtain ⟨out_10,hx_10,hk_10⟩:=bsomeC h
   refine AW.lpCK (fun (v:Int) (m:List (Stand_child×StandRatio))=>(sT [pR 4 6,(16,jI x.Limit),(17,jI v)] [(6,.var 96 (catV (cv25 r0B6) [.d (.sl 4 (List.map e103 r0T6)),jI r0L6.weight,jI r0L6.along,jI r0L6.high,.map 5])),(5,.mp (List.map m105_43 m))] 7 0)) (g15_10 r0B6 r0T6 r0L6) (x.Limit) hx_10 (Can.kp (by kernel_rfl)) (fun v m hi_10 hl_10 c_10 h hb_10 K_10 hK_10=>?_) (fun v m hi_10 hl_10 hout=>?_)
   ·unfold g15_10 at h
    refine Sa (sT [pR 4 6,(16,jI x.Limit),(17,jI v),(18,.d (.bool (decide (v<x.Limit))))] [(6,.var 96 (catV (cv25 r0B6) [.d (.sl 4 (List.map e103 r0T6)),jI r0L6.weight,jI r0L6.along,jI r0L6.high,.map 5])),(5,.mp (List.map m105_43 m))] 7 0) ?_
    refine AW.seqK (fun K_11 hK_11=>?_)
    refine AW.cond rfl (fun hb_12=>?_) (fun hb_12=>False.elim (by have:=of_decide_eq_false hb_12;omega))
    refine AW.skip (hK_11 _ ?_)
    refine AW.seqK (fun K_13 hK_13=>?_)
    refine AW.block ?_
    refine Sa (sT [pR 4 6,(6,jI v),(16,jI x.Limit),(17,jI v)] [(6,.var 96 (catV (cv25 r0B6) [.d (.sl 4 (List.map e103 r0T6)),jI r0L6.weight,jI r0L6.along,jI r0L6.high,.map 5])),(5,.mp (List.map m105_43 m))] 7 0) ?_
    refine AW.srwK (fun Q_14 hQ_14=>?_)
    refine Au 3 (sT [pR 4 6,(6,jI v),(16,jI x.Limit),(17,jI v),(20,.agg [jI r0B6.Kind,jI r0B6.Front,jI r0B6.Back,jI r0B6.Radius,.d (.sl 4 (List.map e36 r0B6.Parts)),jI r0B6.Along,jI r0B6.High,jI r0B6.Lean_,jI r0B6.Limit,.d (.sl 3 (List.map e29 r0B6.Trials)),.d (.sl 4 (List.map e103 r0T6)),jI r0L6.weight,jI r0L6.along,jI r0L6.high,.map 5]),(22,jI (wr (v+1)))] [(6,.var 96 (catV (cv25 r0B6) [.d (.sl 4 (List.map e103 r0T6)),jI r0L6.weight,jI r0L6.along,jI r0L6.high,.map 5])),(5,.mp (List.map m105_43 m))] 7 0) ?_
    obtain ⟨⟨r0,m0_1⟩,hx_15,h⟩:=bsome h
    refine RW.one fokW (r_callS (zr:=[]) [5] trivial rfl (k58a r0B6 r0T6 r0L6 (wr (v+1)) m _ hx_15) ⟨rfl,trivial⟩ rfl rfl ⟨.refl _,.refl _,trivial⟩ rfl rfl rfl (r_end ?_))
    refine Au 1 (sT [pR 4 6,(6,jI v),(16,jI x.Limit),(17,jI v),(24,.d (.bool (!r0)))] [(5,.mp (List.map m105_43 m0_1)),(6,.var 96 (catV (cv25 r0B6) [.d (.sl 4 (List.map e103 r0T6)),jI r0L6.weight,jI r0L6.along,jI r0L6.high,.map 5]))] 7 0) ?_
    refine RW.nil (hQ_14 _ ?_)
    refine AW.cond rfl (fun hb_16=>?_) (fun hb_16=>?_)
    ·have h:=ifT hb_16 h
     refine Sa (sT [(2,jI (wr (v+1))),(3,jI 0)] [] 7 0) ?_
     obtain rfl:=Option.some.inj h
     have e_1:=hb_10 _ rfl
     subst e_1
     obtain rfl:=Aft.bk hk_10
     exact rT hR_0 (.cons (.tmp rfl) (.cons (.tmp rfl) .nil))
    ·have h:=ifF hb_16 h
     refine AW.skip (hK_13 _ ?_)
     refine Ra (sT [pR 4 6,(16,jI x.Limit),(17,jI (wr (v+1)))] [(5,.mp (List.map m105_43 m0_1)),(6,.var 96 (catV (cv25 r0B6) [.d (.sl 4 (List.map e103 r0T6)),jI r0L6.weight,jI r0L6.along,jI r0L6.high,.map 5]))] 7 0) ?_
     obtain rfl:=Option.some.inj h
     have ew:wr (v+1)=v+1:=inext (N:=x.Limit) (by omega) (by omega) (by omega)
     rw [ew]
     exact hK_10 _ _ rfl (Can.kp (by kernel_rfl))
   ·subst hout
    have h:=Aft.nx hk_10
    refine Sa (sT [pR 4 6,(16,jI x.Limit),(17,jI v),(18,.d (.bool (decide (v<x.Limit))))] [(6,.var 96 (catV (cv25 r0B6) [.d (.sl 4 (List.map e103 r0T6)),jI r0L6.weight,jI r0L6.along,jI r0L6.high,.map 5])),(5,.mp (List.map m105_43 m))] 7 0) ?_
    refine AW.seqK (fun K_17 hK_17=>?_)
    refine AW.cond rfl (fun hb_18=>False.elim (by have:=of_decide_eq_true hb_18;omega)) (fun hb_18=>?_)
    refine AW.exit ?_
    refine hK_9 _ ?_
    refine Sa (sT [(2,jI 0),(3,jI 4)] [] 7 0) ?_
    obtain rfl:=Option.some.inj h
    exact rT hR_0 (.cons (.tmp rfl) (.cons (.tmp rfl) .nil))
end Go.Proofs.Tk
