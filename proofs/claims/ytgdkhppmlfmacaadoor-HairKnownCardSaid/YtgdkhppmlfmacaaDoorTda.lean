/- Told functions, and that the program does so, part 1. Conditions: none. -/
import Derived.Test.YtgdkhppmlfmacaaDoorDa
set_option linter.unusedVariables false
set_option linter.unusedSimpArgs false
namespace Go.Proofs.Tl
open Go Go.Abs Go.Proofs
def g10 (low:Int) (high:Int):Option Span:=some (Span.mk low high)
theorem k10 (low:Int) (high:Int) (r:Span) (h:g10 low high=some r):SCall Tryd.prog Gs 10 [jI low,jI high] [] 0 Fr.emp (.agg [jI r.Low,jI r.High]) [] 0 Fr.emp:=by
 unfold g10 at h
 refine SCall.mkK Tryd.func10 c10 rfl rfl (by kernel_rfl) (fun Q_0 hR_0 hN_0=>?_)
 refine Sa (sT [(0,jI low),(1,jI high),pR 4 0] [(0,.var 33 [jI 0,jI 0])] 1 0) ?_
 refine Sa (sT [pR 4 0] [(0,.var 33 [jI low,jI high])] 1 0) ?_
 obtain rfl:=Option.some.inj h
 exact rT hR_0 (.cons (.agg rfl rfl (Nat.le_of_ble_eq_true rfl)) .nil)
def g65 (weight:Span) (shade:Span):Option HairHank:=some (HairHank.mk weight shade)
theorem k65 (weight:Span) (shade:Span) (r:HairHank) (h:g65 weight shade=some r):SCall Tryd.prog Gs 65 [.agg [jI weight.Low,jI weight.High],.agg [jI shade.Low,jI shade.High]] [] 0 Fr.emp (.agg [jI r.Weight.Low,jI r.Weight.High,jI r.Shade.Low,jI r.Shade.High]) [] 0 Fr.emp:=by
 unfold g65 at h
 refine SCall.mkK Tryd.func65 c65 rfl rfl (by kernel_rfl) (fun Q_0 hR_0 hN_0=>?_)
 refine Sa (sT [pR 2 0,pR 3 1,pR 4 2] [(2,.var 65 [jI 0,jI 0,jI 0,jI 0]),(1,.var 33 [jI shade.Low,jI shade.High]),(0,.var 33 [jI weight.Low,jI weight.High])] 3 0) ?_
 refine Sa (sT [pR 4 2] [(2,.var 65 [jI weight.Low,jI weight.High,jI shade.Low,jI shade.High])] 3 0) ?_
 obtain rfl:=Option.some.inj h
 exact rT hR_0 (.cons (.agg rfl rfl (Nat.le_of_ble_eq_true rfl)) .nil)
def g24 (n:Int):Option Span:=some (Span.mk n n)
theorem k24 (n:Int) (r:Span) (h:g24 n=some r):SCall Tryd.prog Gs 24 [jI n] [] 0 Fr.emp (.agg [jI r.Low,jI r.High]) [] 0 Fr.emp:=by
 unfold g24 at h
 refine SCall.mkK Tryd.func24 c24 rfl rfl (by kernel_rfl) (fun Q_0 hR_0 hN_0=>?_)
 refine Sa (sT [(0,jI n),pR 2 0] [(0,.var 33 [jI 0,jI 0])] 1 0) ?_
 refine Sa (sT [pR 2 0] [(0,.var 33 [jI n,jI n])] 1 0) ?_
 obtain rfl:=Option.some.inj h
 exact rT hR_0 (.cons (.agg rfl rfl (Nat.le_of_ble_eq_true rfl)) .nil)
def g66 (mane:Int) (tail:Int) (shade:Int):Option HairHorse:=some (HairHorse.mk mane tail shade)
theorem k66 (mane:Int) (tail:Int) (shade:Int) (r:HairHorse) (h:g66 mane tail shade=some r):SCall Tryd.prog Gs 66 [jI mane,jI tail,jI shade] [] 0 Fr.emp (.agg [jI r.Mane,jI r.Tail,jI r.Shade]) [] 0 Fr.emp:=by
 unfold g66 at h
 refine SCall.mkK Tryd.func66 c66 rfl rfl (by kernel_rfl) (fun Q_0 hR_0 hN_0=>?_)
 refine Sa (sT [(0,jI mane),(1,jI tail),(2,jI shade),pR 6 0] [(0,.var 67 [jI 0,jI 0,jI 0])] 1 0) ?_
 refine Sa (sT [pR 6 0] [(0,.var 67 [jI mane,jI tail,jI shade])] 1 0) ?_
 obtain rfl:=Option.some.inj h
 exact rT hR_0 (.cons (.agg rfl rfl (Nat.le_of_ble_eq_true rfl)) .nil)
def g26 :Option ((List HairHank)×(List HairHorse)×Int×Int×Int):=(g10 10 11).bind fun r0=>(g10 4 5).bind fun r0_1=>(g65 r0 r0_1).bind fun r0_2=>(g10 8 9).bind fun r0_3=>(g24 6).bind fun r0_4=>(g65 r0_3 r0_4).bind fun r0_5=>(g10 20 22).bind fun r0_6=>(g24 3).bind fun r0_7=>(g65 r0_6 r0_7).bind fun r0_8=>(g66 6 4 6).bind fun r0_9=>(g66 5 3 7).bind fun r0_10=>some ([r0_2,r0_5,r0_8],[r0_9,r0_10],2,1,1)
theorem k26  (r:(List HairHank)×(List HairHorse)×Int×Int×Int) (h:g26=some r):SCall Tryd.prog Gs 26 [] [] 0 Fr.emp (match r with | (r0_Hanks,r0_Horses,r0_Dark,r0_Near,r0_Match)=>.agg [.own 1 (List.map e65 r0_Hanks).length,.own 2 (List.map e67 r0_Horses).length,jI r0_Dark,jI r0_Near,jI r0_Match]) (match r with | (r0_Hanks,r0_Horses,r0_Dark,r0_Near,r0_Match)=>[(1,.row 65 4 (List.map e65 r0_Hanks)),(2,.row 67 3 (List.map e67 r0_Horses))]) 3 Fr.emp:=by
 unfold g26 at h
 refine SCall.mkK Tryd.func26 c26 rfl rfl (by kernel_rfl) (fun Q_0 hR_0 hN_0=>?_)
 refine Sa (sT [pR 0 0] [(0,.var 61 [.d (.nilSl),.d (.nilSl),jI 0,jI 0,jI 0])] 1 0) ?_
 refine AW.srwK (fun Q_1 hQ_1=>?_)
 obtain ⟨r0,hx_2,h⟩:=bsome h
 refine rC (k10 10 11 _ hx_2) ?_
 obtain ⟨r0_1,hx_3,h⟩:=bsome h
 refine rC (k10 4 5 _ hx_3) ?_
 obtain ⟨r0_2,hx_4,h⟩:=bsome h
 refine rC (k65 r0 r0_1 _ hx_4) ?_
 obtain ⟨r0_3,hx_5,h⟩:=bsome h
 refine rC (k10 8 9 _ hx_5) ?_
 obtain ⟨r0_4,hx_6,h⟩:=bsome h
 refine rC (k24 6 _ hx_6) ?_
 obtain ⟨r0_5,hx_7,h⟩:=bsome h
 refine rC (k65 r0_3 r0_4 _ hx_7) ?_
 obtain ⟨r0_6,hx_8,h⟩:=bsome h
 refine rC (k10 20 22 _ hx_8) ?_
 obtain ⟨r0_7,hx_9,h⟩:=bsome h
 refine rC (k24 3 _ hx_9) ?_
 obtain ⟨r0_8,hx_10,h⟩:=bsome h
 refine rC (k65 r0_6 r0_7 _ hx_10) ?_
 refine Au 1 (sT [pR 0 0,(10,.own 1 (List.map e65 [r0_2,r0_5,r0_8]).length)] [(1,.row 65 4 (List.map e65 [r0_2,r0_5,r0_8])),(0,.var 61 [.d (.nilSl),.d (.nilSl),jI 0,jI 0,jI 0])] 2 0) ?_
 obtain ⟨r0_9,hx_11,h⟩:=bsome h
 refine rC (k66 6 4 6 _ hx_11) ?_
 obtain ⟨r0_10,hx_12,h⟩:=bsome h
 refine rC (k66 5 3 7 _ hx_12) ?_
 refine Au 3 (sT [pR 0 0] [(0,.var 61 [.own 1 (List.map e65 [r0_2,r0_5,r0_8]).length,.own 2 (List.map e67 [r0_9,r0_10]).length,jI 2,jI 1,jI 1]),(2,.row 67 3 (List.map e67 [r0_9,r0_10])),(1,.row 65 4 (List.map e65 [r0_2,r0_5,r0_8]))] 3 0) ?_
 refine RW.nil (hQ_1 _ ?_)
 obtain rfl:=Option.some.inj h
 exact rT hR_0 (.cons (.agg rfl rfl (Nat.le_of_ble_eq_true rfl)) .nil)
def g26a :Option HairBook:=(g10 10 11).bind fun r0=>(g10 4 5).bind fun r0_1=>(g65 r0 r0_1).bind fun r0_2=>(g10 8 9).bind fun r0_3=>(g24 6).bind fun r0_4=>(g65 r0_3 r0_4).bind fun r0_5=>(g10 20 22).bind fun r0_6=>(g24 3).bind fun r0_7=>(g65 r0_6 r0_7).bind fun r0_8=>(g66 6 4 6).bind fun r0_9=>(g66 5 3 7).bind fun r0_10=>some (HairBook.mk [r0_2,r0_5,r0_8] [r0_9,r0_10] 2 1 1)
theorem k26a  (r:HairBook) (h:g26a=some r):SCall Tryd.prog Gs 26 [] [] 0 Fr.emp (.agg [.d (.sl 4 (List.map e65 r.Hanks)),.d (.sl 3 (List.map e67 r.Horses)),jI r.Dark,jI r.Near,jI r.Match]) [] 0 Fr.emp:=by
 unfold g26a at h
 refine SCall.mkK Tryd.func26 c26 rfl rfl (by kernel_rfl) (fun Q_0 hR_0 hN_0=>?_)
 refine Sa (sT [pR 0 0] [(0,.var 61 [.d (.nilSl),.d (.nilSl),jI 0,jI 0,jI 0])] 1 0) ?_
 refine AW.srwK (fun Q_1 hQ_1=>?_)
 obtain ⟨r0,hx_2,h⟩:=bsome h
 refine rC (k10 10 11 _ hx_2) ?_
 obtain ⟨r0_1,hx_3,h⟩:=bsome h
 refine rC (k10 4 5 _ hx_3) ?_
 obtain ⟨r0_2,hx_4,h⟩:=bsome h
 refine rC (k65 r0 r0_1 _ hx_4) ?_
 obtain ⟨r0_3,hx_5,h⟩:=bsome h
 refine rC (k10 8 9 _ hx_5) ?_
 obtain ⟨r0_4,hx_6,h⟩:=bsome h
 refine rC (k24 6 _ hx_6) ?_
 obtain ⟨r0_5,hx_7,h⟩:=bsome h
 refine rC (k65 r0_3 r0_4 _ hx_7) ?_
 obtain ⟨r0_6,hx_8,h⟩:=bsome h
 refine rC (k10 20 22 _ hx_8) ?_
 obtain ⟨r0_7,hx_9,h⟩:=bsome h
 refine rC (k24 3 _ hx_9) ?_
 obtain ⟨r0_8,hx_10,h⟩:=bsome h
 refine rC (k65 r0_6 r0_7 _ hx_10) ?_
 refine Au 1 (sT [pR 0 0,(10,.own 1 (List.map e65 [r0_2,r0_5,r0_8]).length)] [(1,.row 65 4 (List.map e65 [r0_2,r0_5,r0_8])),(0,.var 61 [.d (.nilSl),.d (.nilSl),jI 0,jI 0,jI 0])] 2 0) ?_
 obtain ⟨r0_9,hx_11,h⟩:=bsome h
 refine rC (k66 6 4 6 _ hx_11) ?_
 obtain ⟨r0_10,hx_12,h⟩:=bsome h
 refine rC (k66 5 3 7 _ hx_12) ?_
 refine Au 3 (sT [pR 0 0] [(0,.var 61 [.own 1 (List.map e65 [r0_2,r0_5,r0_8]).length,.own 2 (List.map e67 [r0_9,r0_10]).length,jI 2,jI 1,jI 1]),(2,.row 67 3 (List.map e67 [r0_9,r0_10])),(1,.row 65 4 (List.map e65 [r0_2,r0_5,r0_8]))] 3 0) ?_
 refine RW.nil (hQ_1 _ ?_)
 obtain rfl:=Option.some.inj h
 exact AW.ret (hR_0 _ (retX (.cons (.agg rfl rfl (Nat.le_of_ble_eq_true rfl)) .nil) (Frz.agg_of ⟨(.own rfl rfl),(.own rfl rfl),.refl _,.refl _,.refl _,trivial⟩) rfl (by kernel_rfl) (by kernel_rfl)))
def g69 (n:Int) (low:Int) (high:Int):Option Bool:=some ((decide (low≤n))&&(decide (n≤high)))
theorem k69 (n:Int) (low:Int) (high:Int) (r:Bool) (h:g69 n low high=some r):SCall Tryd.prog Gs 69 [jI n,jI low,jI high] [] 0 Fr.emp (.d (.bool r)) [] 0 Fr.emp:=by
 unfold g69 at h
 refine SCall.mkK Tryd.func69 c69 rfl rfl (by kernel_rfl) (fun Q_0 hR_0 hN_0=>?_)
 refine Sa (sT [(0,jI n),(1,jI low),(2,jI high)] [] 0 0) ?_
 refine AW.sa fokW [10] (sT [(6,.d (.bool ((decide (low≤n))&&(decide (n≤high)))))] [] 0 0) (by kernel_rfl) ?_
 obtain rfl:=Option.some.inj h
 exact rT hR_0 (.cons (.tmp rfl) .nil)
def g89 (s:Span) (low:Int) (high:Int) (wide:Int):Option Bool:=some ((((decide (low≤s.Low))&&(decide (s.Low≤s.High)))&&(decide (s.High≤high)))&&(decide ((wr (s.High - s.Low))≤wide)))
theorem k89 (s:Span) (low:Int) (high:Int) (wide:Int) (r:Bool) (h:g89 s low high wide=some r):SCall Tryd.prog Gs 89 [.agg [jI s.Low,jI s.High],jI low,jI high,jI wide] [] 0 Fr.emp (.d (.bool r)) [] 0 Fr.emp:=by
 unfold g89 at h
 refine SCall.mkK Tryd.func89 c89 rfl rfl (by kernel_rfl) (fun Q_0 hR_0 hN_0=>?_)
 refine Sa (sT [(1,jI low),(2,jI high),(3,jI wide),pR 4 0] [(0,.var 33 [jI s.Low,jI s.High])] 1 0) ?_
 refine AW.sa fokW [13,20,26] (sT [(8,.d (.bool ((((decide (low≤s.Low))&&(decide (s.Low≤s.High)))&&(decide (s.High≤high)))&&(decide ((wr (s.High - s.Low))≤wide)))))] [] 1 0) (by kernel_rfl) ?_
 obtain rfl:=Option.some.inj h
 exact rT hR_0 (.cons (.tmp rfl) .nil)
def g35_31:Int→HairHorse→Bool→Option Bool:=fun v7 p1 ok1=>(bif ok1 then ((g69 p1.Mane 1 30).bind fun r0_5=>some r0_5) else (some false)).bind fun v8=>(bif v8 then ((g69 p1.Tail 1 30).bind fun r0_6=>some r0_6) else (some false)).bind fun v9=>(bif v9 then ((g69 p1.Shade 0 25).bind fun r0_7=>some r0_7) else (some false)).bind fun v10=>some v10
def g35_15:Int→HairHank→Bool→Option Bool:=fun v4 p ok=>(bif ok then ((g89 p.Weight 1 60 4).bind fun r0_3=>some r0_3) else (some false)).bind fun v5=>(bif v5 then ((g89 p.Shade 0 20 2).bind fun r0_4=>some r0_4) else (some false)).bind fun v6=>some v6
def g35 (b:HairBook):Option Int:=(bif (decide ((b.Hanks.length:Int)≤4)) then (some (decide ((b.Horses.length:Int)≤3))) else (some false)).bind fun v=>(bif v then ((g69 b.Dark 0 4).bind fun r0=>some r0) else (some false)).bind fun v1=>(bif v1 then ((g69 b.Near 0 3).bind fun r0_1=>some r0_1) else (some false)).bind fun v2=>(bif v2 then ((g69 b.Match 0 3).bind fun r0_2=>some r0_2) else (some false)).bind fun v3=>(eachS g35_15 b.Hanks 0 v3).bind fun ok=>(eachS g35_31 b.Horses 0 ok).bind fun ok1=>bif (!ok1) then (some 60) else (some 0)
theorem k35 (b:HairBook) (r:Int) (h:g35 b=some r):SCall Tryd.prog Gs 35 [.agg [.d (.sl 4 (List.map e65 b.Hanks)),.d (.sl 3 (List.map e67 b.Horses)),jI b.Dark,jI b.Near,jI b.Match]] [] 0 Fr.emp (jI r) [] 0 Fr.emp:=by
 unfold g35 at h
 refine SCall.mkK Tryd.func35 c35 rfl rfl (by kernel_rfl) (fun Q_0 hR_0 hN_0=>?_)
 refine Sa (sT [pR 1 0] [(0,.var 61 (cv61 b))] 1 0) ?_
 refine AW.srwK (fun Q_1 hQ_1=>?_)
 refine Au 2 (sT [pR 1 0,(9,.d (.sl 4 (List.map e65 b.Hanks)))] [(0,.var 61 (cv61 b))] 1 0) ?_
 refine rL rfl ?_
 refine Au 2 (sT [pR 1 0,(12,.d (.bool (decide ((b.Hanks.length:Int)≤4))))] [(0,.var 61 (cv61 b))] 1 0) ?_
 obtain ⟨v,hx_2,h⟩:=bsome h
 refine RW.cut fokW 5 ((sT [pR 1 0,(17,.d (.bool v))] [(0,.var 61 (cv61 b))] 1 0)) ?_ ?_
 ·refine r_split 12 rfl (fun hb_3=>?_) (fun hb_3=>?_)
  ·have h:=ifT hb_3 hx_2
   refine aX 2 (sT [pR 1 0,(12,.d (.bool true)),(14,.d (.sl 3 (List.map e67 b.Horses)))] [(0,.var 61 (cv61 b))] 1 0) ?_
   refine r_lenX rfl rfl lenm ?_
   refine aX 2 (sT [pR 1 0,(17,.d (.bool (decide ((b.Horses.length:Int)≤3))))] [(0,.var 61 (cv61 b))] 1 0) ?_
   obtain rfl:=Option.some.inj h
   refine RunC.finJ (Can.kp (by kernel_rfl))
  ·have h:=ifF hb_3 hx_2
   refine aX 5 (sT [pR 1 0,(17,.d (.bool false))] [(0,.var 61 (cv61 b))] 1 0) ?_
   obtain rfl:=Option.some.inj h
   refine RunC.finJ (Can.kp (by kernel_rfl))
 ·refine Au 1 (sT [pR 1 0,(18,.d (.bool v))] [(0,.var 61 (cv61 b))] 1 0) ?_
  obtain ⟨v1,hx_4,h⟩:=bsome h
  refine RW.cut fokW 4 ((sT [pR 1 0,(22,.d (.bool v1))] [(0,.var 61 (cv61 b))] 1 0)) ?_ ?_
  ·refine r_split 18 rfl (fun hb_6=>?_) (fun hb_6=>?_)
   ·have h:=ifT hb_6 hx_4
    refine aX 2 (sT [pR 1 0,(18,.d (.bool true)),(20,jI b.Dark)] [(0,.var 61 (cv61 b))] 1 0) ?_
    obtain ⟨r0,hx_5,h⟩:=bsome h
    refine r_call rfl rfl (k69 b.Dark 0 4 _ hx_5) rfl rfl ?_
    refine aX 1 (sT [pR 1 0,(22,.d (.bool r0))] [(0,.var 61 (cv61 b))] 1 0) ?_
    obtain rfl:=Option.some.inj h
    refine RunC.finJ (Can.kp (by kernel_rfl))
   ·have h:=ifF hb_6 hx_4
    refine aX 4 (sT [pR 1 0,(22,.d (.bool false))] [(0,.var 61 (cv61 b))] 1 0) ?_
    obtain rfl:=Option.some.inj h
    refine RunC.finJ (Can.kp (by kernel_rfl))
  ·refine Au 1 (sT [pR 1 0,(23,.d (.bool v1))] [(0,.var 61 (cv61 b))] 1 0) ?_
   obtain ⟨v2,hx_7,h⟩:=bsome h
   refine RW.cut fokW 4 ((sT [pR 1 0,(27,.d (.bool v2))] [(0,.var 61 (cv61 b))] 1 0)) ?_ ?_
   ·refine r_split 23 rfl (fun hb_9=>?_) (fun hb_9=>?_)
    ·have h:=ifT hb_9 hx_7
     refine aX 2 (sT [pR 1 0,(23,.d (.bool true)),(25,jI b.Near)] [(0,.var 61 (cv61 b))] 1 0) ?_
     obtain ⟨r0_1,hx_8,h⟩:=bsome h
     refine r_call rfl rfl (k69 b.Near 0 3 _ hx_8) rfl rfl ?_
     refine aX 1 (sT [pR 1 0,(27,.d (.bool r0_1))] [(0,.var 61 (cv61 b))] 1 0) ?_
     obtain rfl:=Option.some.inj h
     refine RunC.finJ (Can.kp (by kernel_rfl))
    ·have h:=ifF hb_9 hx_7
     refine aX 4 (sT [pR 1 0,(27,.d (.bool false))] [(0,.var 61 (cv61 b))] 1 0) ?_
     obtain rfl:=Option.some.inj h
     refine RunC.finJ (Can.kp (by kernel_rfl))
   ·refine Au 1 (sT [pR 1 0,(28,.d (.bool v2))] [(0,.var 61 (cv61 b))] 1 0) ?_
    obtain ⟨v3,hx_10,h⟩:=bsome h
    refine RW.cut fokW 4 ((sT [pR 1 0,(32,.d (.bool v3))] [(0,.var 61 (cv61 b))] 1 0)) ?_ ?_
    ·refine r_split 28 rfl (fun hb_12=>?_) (fun hb_12=>?_)
     ·have h:=ifT hb_12 hx_10
      refine aX 2 (sT [pR 1 0,(28,.d (.bool true)),(30,jI b.Match)] [(0,.var 61 (cv61 b))] 1 0) ?_
      obtain ⟨r0_2,hx_11,h⟩:=bsome h
      refine r_call rfl rfl (k69 b.Match 0 3 _ hx_11) rfl rfl ?_
      refine aX 1 (sT [pR 1 0,(32,.d (.bool r0_2))] [(0,.var 61 (cv61 b))] 1 0) ?_
      obtain rfl:=Option.some.inj h
      refine RunC.finJ (Can.kp (by kernel_rfl))
     ·have h:=ifF hb_12 hx_10
      refine aX 4 (sT [pR 1 0,(32,.d (.bool false))] [(0,.var 61 (cv61 b))] 1 0) ?_
      obtain rfl:=Option.some.inj h
      refine RunC.finJ (Can.kp (by kernel_rfl))
    ·refine Au 1 (sT [pR 1 0,(3,.d (.bool v3))] [(0,.var 61 (cv61 b))] 1 0) ?_
     refine RW.nil (hQ_1 _ ?_)
     refine AW.seqK fun K_13 hK_13=>AW.srwK fun Q_14 hQ_14=>?_
     refine Au 2 (sT [pR 1 0,(3,.d (.bool v3)),(34,.d (.sl 4 (List.map e65 b.Hanks)))] [(0,.var 61 (cv61 b))] 1 0) ?_
     refine rL rfl ?_
     refine Au 1 (sT [pR 1 0,(3,.d (.bool v3)),(34,.d (.sl 4 (List.map e65 b.Hanks))),(35,jI (b.Hanks.length:Int)),(36,jI 0)] [(0,.var 61 (cv61 b))] 1 0) ?_
     refine RW.nil (hQ_14 _ ?_)
     refine AW.block ?_
     refine AW.sln (t:=34) rfl (fun hN_15=>?_)
     rw [List.length_map] at hN_15
     obtain ⟨out_15,hx_15,h⟩:=bsome h
     refine AW.evSK (fun (v4:Int) (ok:Bool)=>(sT [pR 1 0,(3,.d (.bool ok)),(34,.d (.sl 4 (List.map e65 b.Hanks))),(35,jI (b.Hanks.length:Int)),(36,jI v4)] [(0,.var 61 (cv61 b))] 1 0)) g35_15 hx_15 (Can.kp (by kernel_rfl)) (fun v4 p ok hi_15 hl_15 hp_15 c_15 h K_15 hK_15=>?_) (fun v4 ok hi_15 hl_15 hout=>?_)
     ·unfold g35_15 at h
      refine Sa (sT [pR 1 0,(3,.d (.bool ok)),(34,.d (.sl 4 (List.map e65 b.Hanks))),(35,jI (b.Hanks.length:Int)),(36,jI v4),(37,.d (.bool (decide (v4<(b.Hanks.length:Int)))))] [(0,.var 61 (cv61 b))] 1 0) ?_
      refine AW.seqK (fun K_16 hK_16=>?_)
      refine AW.cond rfl (fun hb_17=>?_) (fun hb_17=>False.elim (by have:=of_decide_eq_false hb_17;omega))
      refine AW.skip (hK_16 _ ?_)
      refine AW.seqK (fun K_18 hK_18=>?_)
      refine AW.block ?_
      refine AW.srwK (fun Q_19 hQ_19=>?_)
      refine RW.one fokW (r_iaD trivial rfl rfl hi_15 (row:=e65 p) (mapget hp_15) (r_end ?_))
      refine Au 3 (sT [pR 1 0,(3,.d (.bool ok)),pR 5 1,(34,.d (.sl 4 (List.map e65 b.Hanks))),(35,jI (b.Hanks.length:Int)),(36,jI v4)] [(1,.var 65 (cv65 p)),(0,.var 61 (cv61 b))] 2 0) ?_
      refine RW.nil (hQ_19 _ ?_)
      refine AW.rw ?_
      refine Au 2 (sT [pR 1 0,pR 5 1,(34,.d (.sl 4 (List.map e65 b.Hanks))),(35,jI (b.Hanks.length:Int)),(36,jI v4),(41,.d (.bool ok))] [(1,.var 65 (cv65 p)),(0,.var 61 (cv61 b))] 2 0) ?_
      obtain ⟨v5,hx_21,h⟩:=bsome h
      refine RW.cut fokW 4 ((sT [pR 1 0,pR 5 1,(34,.d (.sl 4 (List.map e65 b.Hanks))),(35,jI (b.Hanks.length:Int)),(36,jI v4),(45,.d (.bool v5))] [(1,.var 65 (cv65 p)),(0,.var 61 (cv61 b))] 2 0)) ?_ ?_
      ·refine r_split 41 rfl (fun hb_23=>?_) (fun hb_23=>?_)
       ·have h:=ifT hb_23 hx_21
        refine aX 2 (sT [pR 1 0,pR 5 1,(34,.d (.sl 4 (List.map e65 b.Hanks))),(35,jI (b.Hanks.length:Int)),(36,jI v4),(41,.d (.bool true)),(43,.agg [jI p.Weight.Low,jI p.Weight.High])] [(1,.var 65 (cv65 p)),(0,.var 61 (cv61 b))] 2 0) ?_
        obtain ⟨r0_3,hx_22,h⟩:=bsome h
        refine r_call rfl rfl (k89 p.Weight 1 60 4 _ hx_22) rfl rfl ?_
        refine aX 1 (sT [pR 1 0,pR 5 1,(34,.d (.sl 4 (List.map e65 b.Hanks))),(35,jI (b.Hanks.length:Int)),(36,jI v4),(45,.d (.bool r0_3))] [(1,.var 65 (cv65 p)),(0,.var 61 (cv61 b))] 2 0) ?_
        obtain rfl:=Option.some.inj h
        refine RunC.finJ (Can.kp (by kernel_rfl))
       ·have h:=ifF hb_23 hx_21
        refine aX 4 (sT [pR 1 0,pR 5 1,(34,.d (.sl 4 (List.map e65 b.Hanks))),(35,jI (b.Hanks.length:Int)),(36,jI v4),(45,.d (.bool false))] [(1,.var 65 (cv65 p)),(0,.var 61 (cv61 b))] 2 0) ?_
        obtain rfl:=Option.some.inj h
        refine RunC.finJ (Can.kp (by kernel_rfl))
      ·refine Au 1 (sT [pR 1 0,pR 5 1,(34,.d (.sl 4 (List.map e65 b.Hanks))),(35,jI (b.Hanks.length:Int)),(36,jI v4),(46,.d (.bool v5))] [(1,.var 65 (cv65 p)),(0,.var 61 (cv61 b))] 2 0) ?_
       obtain ⟨v6,hx_24,h⟩:=bsome h
       refine RW.cut fokW 4 ((sT [pR 1 0,(34,.d (.sl 4 (List.map e65 b.Hanks))),(35,jI (b.Hanks.length:Int)),(36,jI v4),(50,.d (.bool v6))] [(0,.var 61 (cv61 b))] 2 0)) ?_ ?_
       ·refine r_split 46 rfl (fun hb_26=>?_) (fun hb_26=>?_)
        ·have h:=ifT hb_26 hx_24
         refine aX 2 (sT [pR 1 0,(34,.d (.sl 4 (List.map e65 b.Hanks))),(35,jI (b.Hanks.length:Int)),(36,jI v4),(46,.d (.bool true)),(48,.agg [jI p.Shade.Low,jI p.Shade.High])] [(1,.var 65 (cv65 p)),(0,.var 61 (cv61 b))] 2 0) ?_
         obtain ⟨r0_4,hx_25,h⟩:=bsome h
         refine r_call rfl rfl (k89 p.Shade 0 20 2 _ hx_25) rfl rfl ?_
         refine aX 1 (sT [pR 1 0,(34,.d (.sl 4 (List.map e65 b.Hanks))),(35,jI (b.Hanks.length:Int)),(36,jI v4),(50,.d (.bool r0_4))] [(1,.var 65 (cv65 p)),(0,.var 61 (cv61 b))] 2 0) ?_
         obtain rfl:=Option.some.inj h
         refine RunC.finJ (Can.kp (by kernel_rfl))
        ·have h:=ifF hb_26 hx_24
         refine aX 4 (sT [pR 1 0,(34,.d (.sl 4 (List.map e65 b.Hanks))),(35,jI (b.Hanks.length:Int)),(36,jI v4),(50,.d (.bool false))] [(1,.var 65 (cv65 p)),(0,.var 61 (cv61 b))] 2 0) ?_
         obtain rfl:=Option.some.inj h
         refine RunC.finJ (Can.kp (by kernel_rfl))
       ·refine Au 1 (sT [pR 1 0,(3,.d (.bool v6)),(34,.d (.sl 4 (List.map e65 b.Hanks))),(35,jI (b.Hanks.length:Int)),(36,jI v4)] [(0,.var 61 (cv61 b))] 2 0) ?_
        refine RW.nil ?_
        refine hK_18 _ ?_
        refine Ra (sT [pR 1 0,(3,.d (.bool v6)),(34,.d (.sl 4 (List.map e65 b.Hanks))),(35,jI (b.Hanks.length:Int)),(36,jI (wr (v4+1)))] [(0,.var 61 (cv61 b))] 2 0) ?_
        obtain rfl:=Option.some.inj h
        have ew:wr (v4+1)=v4+1:=inext (N:=(b.Hanks.length:Int)) (by omega) (by omega) (by omega)
        rw [ew]
        exact hK_15 _ (Can.kp (by kernel_rfl))
     ·subst hout
      refine Sa (sT [pR 1 0,(3,.d (.bool ok)),(34,.d (.sl 4 (List.map e65 b.Hanks))),(35,jI (b.Hanks.length:Int)),(36,jI v4),(37,.d (.bool (decide (v4<(b.Hanks.length:Int)))))] [(0,.var 61 (cv61 b))] 1 0) ?_
      refine AW.seqK (fun K_27 hK_27=>?_)
      refine AW.cond rfl (fun hb_28=>False.elim (by have:=of_decide_eq_true hb_28;omega)) (fun hb_28=>?_)
      refine AW.exit ?_
      refine hK_13 _ ?_
      refine AW.seqK fun K_29 hK_29=>AW.srwK fun Q_30 hQ_30=>?_
      refine Au 2 (sT [(3,.d (.bool ok)),(53,.d (.sl 3 (List.map e67 b.Horses)))] [] 1 0) ?_
      refine rL rfl ?_
      refine Au 1 (sT [(3,.d (.bool ok)),(53,.d (.sl 3 (List.map e67 b.Horses))),(54,jI (b.Horses.length:Int)),(55,jI 0)] [] 1 0) ?_
      refine RW.nil (hQ_30 _ ?_)
      refine AW.block ?_
      refine AW.sln (t:=53) rfl (fun hN_31=>?_)
      rw [List.length_map] at hN_31
      obtain ⟨out_31,hx_31,h⟩:=bsome h
      refine AW.evSK (fun (v7:Int) (ok1:Bool)=>(sT [(3,.d (.bool ok1)),(53,.d (.sl 3 (List.map e67 b.Horses))),(54,jI (b.Horses.length:Int)),(55,jI v7)] [] 1 0)) g35_31 hx_31 (Can.kp (by kernel_rfl)) (fun v7 p1 ok1 hi_31 hl_31 hp_31 c_31 h K_31 hK_31=>?_) (fun v7 ok1 hi_31 hl_31 hout=>?_)
      ·unfold g35_31 at h
       refine Sa (sT [(3,.d (.bool ok1)),(53,.d (.sl 3 (List.map e67 b.Horses))),(54,jI (b.Horses.length:Int)),(55,jI v7),(56,.d (.bool (decide (v7<(b.Horses.length:Int)))))] [] 1 0) ?_
       refine AW.seqK (fun K_32 hK_32=>?_)
       refine AW.cond rfl (fun hb_33=>?_) (fun hb_33=>False.elim (by have:=of_decide_eq_false hb_33;omega))
       refine AW.skip (hK_32 _ ?_)
       refine AW.seqK (fun K_34 hK_34=>?_)
       refine AW.block ?_
       refine AW.srwK (fun Q_35 hQ_35=>?_)
       refine RW.one fokW (r_iaD trivial rfl rfl hi_31 (row:=e67 p1) (mapget hp_31) (r_end ?_))
       refine Au 3 (sT [(3,.d (.bool ok1)),pR 7 1,(53,.d (.sl 3 (List.map e67 b.Horses))),(54,jI (b.Horses.length:Int)),(55,jI v7)] [(1,.var 67 [jI p1.Mane,jI p1.Tail,jI p1.Shade])] 2 0) ?_
       refine RW.nil (hQ_35 _ ?_)
       refine AW.rw ?_
       refine Au 2 (sT [pR 7 1,(53,.d (.sl 3 (List.map e67 b.Horses))),(54,jI (b.Horses.length:Int)),(55,jI v7),(60,.d (.bool ok1))] [(1,.var 67 [jI p1.Mane,jI p1.Tail,jI p1.Shade])] 2 0) ?_
       obtain ⟨v8,hx_37,h⟩:=bsome h
       refine RW.cut fokW 4 ((sT [pR 7 1,(53,.d (.sl 3 (List.map e67 b.Horses))),(54,jI (b.Horses.length:Int)),(55,jI v7),(64,.d (.bool v8))] [(1,.var 67 [jI p1.Mane,jI p1.Tail,jI p1.Shade])] 2 0)) ?_ ?_
       ·refine r_split 60 rfl (fun hb_39=>?_) (fun hb_39=>?_)
        ·have h:=ifT hb_39 hx_37
         refine aX 2 (sT [pR 7 1,(53,.d (.sl 3 (List.map e67 b.Horses))),(54,jI (b.Horses.length:Int)),(55,jI v7),(60,.d (.bool true)),(62,jI p1.Mane)] [(1,.var 67 [jI p1.Mane,jI p1.Tail,jI p1.Shade])] 2 0) ?_
         obtain ⟨r0_5,hx_38,h⟩:=bsome h
         refine r_call rfl rfl (k69 p1.Mane 1 30 _ hx_38) rfl rfl ?_
         refine aX 1 (sT [pR 7 1,(53,.d (.sl 3 (List.map e67 b.Horses))),(54,jI (b.Horses.length:Int)),(55,jI v7),(64,.d (.bool r0_5))] [(1,.var 67 [jI p1.Mane,jI p1.Tail,jI p1.Shade])] 2 0) ?_
         obtain rfl:=Option.some.inj h
         refine RunC.finJ (Can.kp (by kernel_rfl))
        ·have h:=ifF hb_39 hx_37
         refine aX 4 (sT [pR 7 1,(53,.d (.sl 3 (List.map e67 b.Horses))),(54,jI (b.Horses.length:Int)),(55,jI v7),(64,.d (.bool false))] [(1,.var 67 [jI p1.Mane,jI p1.Tail,jI p1.Shade])] 2 0) ?_
         obtain rfl:=Option.some.inj h
         refine RunC.finJ (Can.kp (by kernel_rfl))
       ·refine Au 1 (sT [pR 7 1,(53,.d (.sl 3 (List.map e67 b.Horses))),(54,jI (b.Horses.length:Int)),(55,jI v7),(65,.d (.bool v8))] [(1,.var 67 [jI p1.Mane,jI p1.Tail,jI p1.Shade])] 2 0) ?_
        obtain ⟨v9,hx_40,h⟩:=bsome h
        refine RW.cut fokW 4 ((sT [pR 7 1,(53,.d (.sl 3 (List.map e67 b.Horses))),(54,jI (b.Horses.length:Int)),(55,jI v7),(69,.d (.bool v9))] [(1,.var 67 [jI p1.Mane,jI p1.Tail,jI p1.Shade])] 2 0)) ?_ ?_
        ·refine r_split 65 rfl (fun hb_42=>?_) (fun hb_42=>?_)
         ·have h:=ifT hb_42 hx_40
          refine aX 2 (sT [pR 7 1,(53,.d (.sl 3 (List.map e67 b.Horses))),(54,jI (b.Horses.length:Int)),(55,jI v7),(65,.d (.bool true)),(67,jI p1.Tail)] [(1,.var 67 [jI p1.Mane,jI p1.Tail,jI p1.Shade])] 2 0) ?_
          obtain ⟨r0_6,hx_41,h⟩:=bsome h
          refine r_call rfl rfl (k69 p1.Tail 1 30 _ hx_41) rfl rfl ?_
          refine aX 1 (sT [pR 7 1,(53,.d (.sl 3 (List.map e67 b.Horses))),(54,jI (b.Horses.length:Int)),(55,jI v7),(69,.d (.bool r0_6))] [(1,.var 67 [jI p1.Mane,jI p1.Tail,jI p1.Shade])] 2 0) ?_
          obtain rfl:=Option.some.inj h
          refine RunC.finJ (Can.kp (by kernel_rfl))
         ·have h:=ifF hb_42 hx_40
          refine aX 4 (sT [pR 7 1,(53,.d (.sl 3 (List.map e67 b.Horses))),(54,jI (b.Horses.length:Int)),(55,jI v7),(69,.d (.bool false))] [(1,.var 67 [jI p1.Mane,jI p1.Tail,jI p1.Shade])] 2 0) ?_
          obtain rfl:=Option.some.inj h
          refine RunC.finJ (Can.kp (by kernel_rfl))
        ·refine Au 1 (sT [pR 7 1,(53,.d (.sl 3 (List.map e67 b.Horses))),(54,jI (b.Horses.length:Int)),(55,jI v7),(70,.d (.bool v9))] [(1,.var 67 [jI p1.Mane,jI p1.Tail,jI p1.Shade])] 2 0) ?_
         obtain ⟨v10,hx_43,h⟩:=bsome h
         refine RW.cut fokW 4 ((sT [(53,.d (.sl 3 (List.map e67 b.Horses))),(54,jI (b.Horses.length:Int)),(55,jI v7),(74,.d (.bool v10))] [] 2 0)) ?_ ?_
         ·refine r_split 70 rfl (fun hb_45=>?_) (fun hb_45=>?_)
          ·have h:=ifT hb_45 hx_43
           refine aX 2 (sT [(53,.d (.sl 3 (List.map e67 b.Horses))),(54,jI (b.Horses.length:Int)),(55,jI v7),(70,.d (.bool true)),(72,jI p1.Shade)] [(1,.var 67 [jI p1.Mane,jI p1.Tail,jI p1.Shade])] 2 0) ?_
           obtain ⟨r0_7,hx_44,h⟩:=bsome h
           refine r_call rfl rfl (k69 p1.Shade 0 25 _ hx_44) rfl rfl ?_
           refine aX 1 (sT [(53,.d (.sl 3 (List.map e67 b.Horses))),(54,jI (b.Horses.length:Int)),(55,jI v7),(74,.d (.bool r0_7))] [(1,.var 67 [jI p1.Mane,jI p1.Tail,jI p1.Shade])] 2 0) ?_
           obtain rfl:=Option.some.inj h
           refine RunC.finJ (Can.kp (by kernel_rfl))
          ·have h:=ifF hb_45 hx_43
           refine aX 4 (sT [(53,.d (.sl 3 (List.map e67 b.Horses))),(54,jI (b.Horses.length:Int)),(55,jI v7),(74,.d (.bool false))] [(1,.var 67 [jI p1.Mane,jI p1.Tail,jI p1.Shade])] 2 0) ?_
           obtain rfl:=Option.some.inj h
           refine RunC.finJ (Can.kp (by kernel_rfl))
         ·refine Au 1 (sT [(3,.d (.bool v10)),(53,.d (.sl 3 (List.map e67 b.Horses))),(54,jI (b.Horses.length:Int)),(55,jI v7)] [] 2 0) ?_
          refine RW.nil ?_
          refine hK_34 _ ?_
          refine Ra (sT [(3,.d (.bool v10)),(53,.d (.sl 3 (List.map e67 b.Horses))),(54,jI (b.Horses.length:Int)),(55,jI (wr (v7+1)))] [] 2 0) ?_
          obtain rfl:=Option.some.inj h
          have ew:wr (v7+1)=v7+1:=inext (N:=(b.Horses.length:Int)) (by omega) (by omega) (by omega)
          rw [ew]
          exact hK_31 _ (Can.kp (by kernel_rfl))
      ·subst hout
       refine Sa (sT [(3,.d (.bool ok1)),(53,.d (.sl 3 (List.map e67 b.Horses))),(54,jI (b.Horses.length:Int)),(55,jI v7),(56,.d (.bool (decide (v7<(b.Horses.length:Int)))))] [] 1 0) ?_
       refine AW.seqK (fun K_46 hK_46=>?_)
       refine AW.cond rfl (fun hb_47=>False.elim (by have:=of_decide_eq_true hb_47;omega)) (fun hb_47=>?_)
       refine AW.exit ?_
       refine hK_29 _ ?_
       refine AW.seqK (fun K_48 hK_48=>?_)
       refine Sa (sT [(77,.d (.bool (!ok1)))] [] 1 0) ?_
       refine AW.cond rfl (fun hb_49=>?_) (fun hb_49=>?_)
       ·have h:=ifT hb_49 h
        refine Sa (sT [(2,jI 60)] [] 1 0) ?_
        obtain rfl:=Option.some.inj h
        exact rT hR_0 (.cons (.tmp rfl) .nil)
       ·have h:=ifF hb_49 h
        refine AW.skip (hK_48 _ ?_)
        refine Sa (sT [(2,jI 0)] [] 1 0) ?_
        obtain rfl:=Option.some.inj h
        exact rT hR_0 (.cons (.tmp rfl) .nil)
def g81_8 (v:Int) (p:HairHank):Int→(List (Hair_dye×Span))→Option (List (Hair_dye×Span)):=fun v1 m1=>(mput q124 m1 (Hair_dye.mk v v1) (Span.mk (wr (p.Shade.Low+v1)) (wr (p.Shade.High+v1)))).bind fun m2=>some m2
def g81_3 (x:HairBook):Int→HairHank→(List (Hair_dye×Span))→Option (List (Hair_dye×Span)):=fun v p m=>(forS (g81_8 v p) ((((wr (x.Dark+1)):Int) - 0).toNat) 0 m).bind fun m1=>some m1
def g81 (x:HairBook):Option (HairBook×(List (Hair_dye×Span))):=(eachS (g81_3 x) x.Hanks 0 ([]:List (Hair_dye×Span))).bind fun m=>some (x,m)
theorem k81 (x:HairBook) (r:HairBook×(List (Hair_dye×Span))) (h:g81 x=some r):SCall Tryd.prog Gs 81 [.agg [.d (.sl 4 (List.map e65 x.Hanks)),.d (.sl 3 (List.map e67 x.Horses)),jI x.Dark,jI x.Near,jI x.Match]] [] 0 Fr.emp (match r with | (r0_HairBook,mf)=>.agg [.d (.sl 4 (List.map e65 r0_HairBook.Hanks)),.d (.sl 3 (List.map e67 r0_HairBook.Horses)),jI r0_HairBook.Dark,jI r0_HairBook.Near,jI r0_HairBook.Match,.fmp (List.map m124_33 mf)]) [] 0 Fr.emp:=by
 unfold g81 at h
 refine SCall.mkK Tryd.func81 c81 rfl rfl (by kernel_rfl) (fun Q_0 hR_0 hN_0=>?_)
 refine Sa (sT [pR 1 0,pR 2 1] [(1,.var 119 [.d (.nilSl),.d (.nilSl),jI 0,jI 0,jI 0,.d (.nilMap)]),(0,.var 61 (cv61 x))] 2 0) ?_
 refine Sa (sT [pR 1 0,pR 2 1,pR 3 3] [(3,.var 119 (catV (cv61 x) [.map 2])),(2,.mp (List.map m124_33 [])),(1,.var 119 [.d (.nilSl),.d (.nilSl),jI 0,jI 0,jI 0,.d (.nilMap)]),(0,.var 61 (cv61 x))] 4 0) ?_
 refine AW.seqK fun K_1 hK_1=>AW.srwK fun Q_2 hQ_2=>?_
 refine Au 2 (sT [pR 1 0,pR 2 1,pR 3 3,(11,.d (.sl 4 (List.map e65 x.Hanks)))] [(3,.var 119 (catV (cv61 x) [.map 2])),(2,.mp (List.map m124_33 [])),(1,.var 119 [.d (.nilSl),.d (.nilSl),jI 0,jI 0,jI 0,.d (.nilMap)]),(0,.var 61 (cv61 x))] 4 0) ?_
 refine rL rfl ?_
 refine Au 1 (sT [pR 1 0,pR 2 1,pR 3 3,(11,.d (.sl 4 (List.map e65 x.Hanks))),(12,jI (x.Hanks.length:Int)),(13,jI 0)] [(3,.var 119 (catV (cv61 x) [.map 2])),(2,.mp (List.map m124_33 [])),(1,.var 119 [.d (.nilSl),.d (.nilSl),jI 0,jI 0,jI 0,.d (.nilMap)]),(0,.var 61 (cv61 x))] 4 0) ?_
 refine RW.nil (hQ_2 _ ?_)
 refine AW.block ?_
 refine AW.sln (t:=11) rfl (fun hN_3=>?_)
 rw [List.length_map] at hN_3
 obtain ⟨out_3,hx_3,h⟩:=bsome h
 refine AW.evSK (fun (v:Int) (m:List (Hair_dye×Span))=>(sT [pR 1 0,pR 2 1,pR 3 3,(11,.d (.sl 4 (List.map e65 x.Hanks))),(12,jI (x.Hanks.length:Int)),(13,jI v)] [(3,.var 119 (catV (cv61 x) [.map 2])),(2,.mp (List.map m124_33 m)),(1,.var 119 [.d (.nilSl),.d (.nilSl),jI 0,jI 0,jI 0,.d (.nilMap)]),(0,.var 61 (cv61 x))] 4 0)) (g81_3 x) hx_3 (Can.kp (by kernel_rfl)) (fun v p m hi_3 hl_3 hp_3 c_3 h K_3 hK_3=>?_) (fun v m hi_3 hl_3 hout=>?_)
 ·unfold g81_3 at h
  refine Sa (sT [pR 1 0,pR 2 1,pR 3 3,(11,.d (.sl 4 (List.map e65 x.Hanks))),(12,jI (x.Hanks.length:Int)),(13,jI v),(14,.d (.bool (decide (v<(x.Hanks.length:Int)))))] [(3,.var 119 (catV (cv61 x) [.map 2])),(2,.mp (List.map m124_33 m)),(1,.var 119 [.d (.nilSl),.d (.nilSl),jI 0,jI 0,jI 0,.d (.nilMap)]),(0,.var 61 (cv61 x))] 4 0) ?_
  refine AW.seqK (fun K_4 hK_4=>?_)
  refine AW.cond rfl (fun hb_5=>?_) (fun hb_5=>False.elim (by have:=of_decide_eq_false hb_5;omega))
  refine AW.skip (hK_4 _ ?_)
  refine AW.seqK (fun K_6 hK_6=>?_)
  refine AW.block ?_
  refine AW.srwK (fun Q_7 hQ_7=>?_)
  refine Au 1 (sT [pR 1 0,pR 2 1,pR 3 3,(11,.d (.sl 4 (List.map e65 x.Hanks))),(12,jI (x.Hanks.length:Int)),(13,jI v),(15,jI v)] [(3,.var 119 (catV (cv61 x) [.map 2])),(2,.mp (List.map m124_33 m)),(1,.var 119 [.d (.nilSl),.d (.nilSl),jI 0,jI 0,jI 0,.d (.nilMap)]),(0,.var 61 (cv61 x))] 4 0) ?_
  refine RW.one fokW (r_iaD trivial rfl rfl hi_3 (row:=e65 p) (mapget hp_3) (r_end ?_))
  refine Au 4 (sT [pR 1 0,pR 2 1,pR 3 3,(4,jI v),pR 5 4,(11,.d (.sl 4 (List.map e65 x.Hanks))),(12,jI (x.Hanks.length:Int)),(13,jI v)] [(4,.var 65 (cv65 p)),(3,.var 119 (catV (cv61 x) [.map 2])),(2,.mp (List.map m124_33 m)),(1,.var 119 [.d (.nilSl),.d (.nilSl),jI 0,jI 0,jI 0,.d (.nilMap)]),(0,.var 61 (cv61 x))] 5 0) ?_
  refine RW.nil (hQ_7 _ ?_)
  refine Sa (sT [pR 1 0,pR 2 1,pR 3 3,(4,jI v),pR 5 4,(11,.d (.sl 4 (List.map e65 x.Hanks))),(12,jI (x.Hanks.length:Int)),(13,jI v),(20,jI (wr (x.Dark+1))),(21,jI 0)] [(4,.var 65 (cv65 p)),(3,.var 119 (catV (cv61 x) [.map 2])),(2,.mp (List.map m124_33 m)),(1,.var 119 [.d (.nilSl),.d (.nilSl),jI 0,jI 0,jI 0,.d (.nilMap)]),(0,.var 61 (cv61 x))] 5 0) ?_
  refine AW.block ?_
  have hN_8:(wr (x.Dark+1))≤9223372036854775807:=(wr_range _).2
  obtain ⟨out_8,hx_8,h⟩:=bsome h
  refine AW.lpSK (fun (v1:Int) (m1:List (Hair_dye×Span))=>(sT [pR 1 0,pR 2 1,pR 3 3,(4,jI v),pR 5 4,(11,.d (.sl 4 (List.map e65 x.Hanks))),(12,jI (x.Hanks.length:Int)),(13,jI v),(20,jI (wr (x.Dark+1))),(21,jI v1)] [(4,.var 65 (cv65 p)),(3,.var 119 (catV (cv61 x) [.map 2])),(2,.mp (List.map m124_33 m1)),(1,.var 119 [.d (.nilSl),.d (.nilSl),jI 0,jI 0,jI 0,.d (.nilMap)]),(0,.var 61 (cv61 x))] 5 0)) (g81_8 v p) ((wr (x.Dark+1))) hx_8 (Can.kp (by kernel_rfl)) (fun v1 m1 hi_8 hl_8 c_8 h K_8 hK_8=>?_) (fun v1 m1 hi_8 hl_8 hout=>?_)
  ·unfold g81_8 at h
   refine Sa (sT [pR 1 0,pR 2 1,pR 3 3,(4,jI v),pR 5 4,(11,.d (.sl 4 (List.map e65 x.Hanks))),(12,jI (x.Hanks.length:Int)),(13,jI v),(20,jI (wr (x.Dark+1))),(21,jI v1),(22,.d (.bool (decide (v1<(wr (x.Dark+1))))))] [(4,.var 65 (cv65 p)),(3,.var 119 (catV (cv61 x) [.map 2])),(2,.mp (List.map m124_33 m1)),(1,.var 119 [.d (.nilSl),.d (.nilSl),jI 0,jI 0,jI 0,.d (.nilMap)]),(0,.var 61 (cv61 x))] 5 0) ?_
   refine AW.seqK (fun K_9 hK_9=>?_)
   refine AW.cond rfl (fun hb_10=>?_) (fun hb_10=>False.elim (by have:=of_decide_eq_false hb_10;omega))
   refine AW.skip (hK_9 _ ?_)
   refine AW.seqK (fun K_11 hK_11=>?_)
   refine AW.block ?_
   refine Sa (sT [pR 1 0,pR 2 1,pR 3 3,(4,jI v),pR 5 4,(6,jI v1),(11,.d (.sl 4 (List.map e65 x.Hanks))),(12,jI (x.Hanks.length:Int)),(13,jI v),(20,jI (wr (x.Dark+1))),(21,jI v1)] [(4,.var 65 (cv65 p)),(3,.var 119 (catV (cv61 x) [.map 2])),(2,.mp (List.map m124_33 m1)),(1,.var 119 [.d (.nilSl),.d (.nilSl),jI 0,jI 0,jI 0,.d (.nilMap)]),(0,.var 61 (cv61 x))] 5 0) ?_
   refine AW.rw ?_
   refine Au 16 (sT [pR 1 0,pR 2 1,pR 3 3,(4,jI v),pR 5 4,(11,.d (.sl 4 (List.map e65 x.Hanks))),(12,jI (x.Hanks.length:Int)),(13,jI v),(20,jI (wr (x.Dark+1))),(21,jI v1),(25,.map 2),(28,.agg [jI v,jI v1]),(39,.agg [jI (wr (p.Shade.Low+v1)),jI (wr (p.Shade.High+v1))])] [(4,.var 65 (cv65 p)),(3,.var 119 (catV (cv61 x) [.map 2])),(2,.mp (List.map m124_33 m1)),(1,.var 119 [.d (.nilSl),.d (.nilSl),jI 0,jI 0,jI 0,.d (.nilMap)]),(0,.var 61 (cv61 x))] 5 0) ?_
   obtain ⟨m2,hv_13,h⟩:=bsome h
   refine RW.one fokW (r_mput q124 e124 (fun x=>DV.a (e33 x)) trivial rfl rfl rfl rfl ft124 q124_ok (fun _=>rfl) rfl hv_13 (r_end ?_))
   refine RW.nil ?_
   refine hK_11 _ ?_
   refine Ra (sT [pR 1 0,pR 2 1,pR 3 3,(4,jI v),pR 5 4,(11,.d (.sl 4 (List.map e65 x.Hanks))),(12,jI (x.Hanks.length:Int)),(13,jI v),(20,jI (wr (x.Dark+1))),(21,jI (wr (v1+1)))] [(2,.mp (List.map m124_33 m2)),(4,.var 65 (cv65 p)),(3,.var 119 (catV (cv61 x) [.map 2])),(1,.var 119 [.d (.nilSl),.d (.nilSl),jI 0,jI 0,jI 0,.d (.nilMap)]),(0,.var 61 (cv61 x))] 5 0) ?_
   obtain rfl:=Option.some.inj h
   have ew:wr (v1+1)=v1+1:=inext (N:=(wr (x.Dark+1))) (by omega) (by omega) (by omega)
   rw [ew]
   exact hK_8 _ (Can.kp (by kernel_rfl))
  ·subst hout
   refine Sa (sT [pR 1 0,pR 2 1,pR 3 3,(4,jI v),pR 5 4,(11,.d (.sl 4 (List.map e65 x.Hanks))),(12,jI (x.Hanks.length:Int)),(13,jI v),(20,jI (wr (x.Dark+1))),(21,jI v1),(22,.d (.bool (decide (v1<(wr (x.Dark+1))))))] [(4,.var 65 (cv65 p)),(3,.var 119 (catV (cv61 x) [.map 2])),(2,.mp (List.map m124_33 m1)),(1,.var 119 [.d (.nilSl),.d (.nilSl),jI 0,jI 0,jI 0,.d (.nilMap)]),(0,.var 61 (cv61 x))] 5 0) ?_
   refine AW.seqK (fun K_14 hK_14=>?_)
   refine AW.cond rfl (fun hb_15=>False.elim (by have:=of_decide_eq_true hb_15;omega)) (fun hb_15=>?_)
   refine AW.exit ?_
   refine hK_6 _ ?_
   refine Ra (sT [pR 1 0,pR 2 1,pR 3 3,(11,.d (.sl 4 (List.map e65 x.Hanks))),(12,jI (x.Hanks.length:Int)),(13,jI (wr (v+1)))] [(3,.var 119 (catV (cv61 x) [.map 2])),(2,.mp (List.map m124_33 m1)),(1,.var 119 [.d (.nilSl),.d (.nilSl),jI 0,jI 0,jI 0,.d (.nilMap)]),(0,.var 61 (cv61 x))] 5 0) ?_
   obtain rfl:=Option.some.inj h
   have ew:wr (v+1)=v+1:=inext (N:=(x.Hanks.length:Int)) (by omega) (by omega) (by omega)
   rw [ew]
   exact hK_3 _ (Can.kp (by kernel_rfl))
 ·subst hout
  refine Sa (sT [pR 1 0,pR 2 1,pR 3 3,(11,.d (.sl 4 (List.map e65 x.Hanks))),(12,jI (x.Hanks.length:Int)),(13,jI v),(14,.d (.bool (decide (v<(x.Hanks.length:Int)))))] [(3,.var 119 (catV (cv61 x) [.map 2])),(2,.mp (List.map m124_33 m)),(1,.var 119 [.d (.nilSl),.d (.nilSl),jI 0,jI 0,jI 0,.d (.nilMap)]),(0,.var 61 (cv61 x))] 4 0) ?_
  refine AW.seqK (fun K_16 hK_16=>?_)
  refine AW.cond rfl (fun hb_17=>False.elim (by have:=of_decide_eq_true hb_17;omega)) (fun hb_17=>?_)
  refine AW.exit ?_
  refine hK_1 _ ?_
  refine Sa (sT [pR 2 1] [(1,.var 119 (catV (cv61 x) [.map 2])),(2,.mp (List.map m124_33 m))] 4 0) ?_
  obtain rfl:=Option.some.inj h
  exact AW.ret (hR_0 _ (retXM (.cons (.agg rfl rfl (Nat.le_of_ble_eq_true rfl)) .nil) (FrzR.agg_of ⟨.of (.refl _),.of (.refl _),.of (.refl _),.of (.refl _),.of (.refl _),.mp rfl,trivial⟩) rfl (by kernel_rfl) (by kernel_rfl)))
def g70 (b_HairBook:HairBook) (mf:List (Hair_dye×Span)) (n:Int):Option Bool:=(g69 n 0 (wr ((b_HairBook.Hanks.length:Int) - 1))).bind fun r0=>some r0
theorem k70 (b_HairBook:HairBook) (mf:List (Hair_dye×Span)) (n:Int) (r:Bool) (h:g70 b_HairBook mf n=some r):SCall Tryd.prog Gs 70 [.agg [.d (.sl 4 (List.map e65 b_HairBook.Hanks)),.d (.sl 3 (List.map e67 b_HairBook.Horses)),jI b_HairBook.Dark,jI b_HairBook.Near,jI b_HairBook.Match,.fmp (List.map m124_33 mf)],jI n] [] 0 Fr.emp (.d (.bool r)) [] 0 Fr.emp:=by
 unfold g70 at h
 refine SCall.mkK Tryd.func70 c70 rfl rfl (by kernel_rfl) (fun Q_0 hR_0 hN_0=>?_)
 refine Sa (sT [(1,jI n),pR 2 0] [(0,.var 119 (catV (cv61 b_HairBook) [.fmp (List.map m124_33 mf)]))] 1 0) ?_
 refine AW.srwK (fun Q_1 hQ_1=>?_)
 refine Au 4 (sT [(5,jI n),(8,.d (.sl 4 (List.map e65 b_HairBook.Hanks)))] [] 1 0) ?_
 refine rL rfl ?_
 refine Au 1 (sT [(5,jI n),(10,jI (wr ((b_HairBook.Hanks.length:Int) - 1)))] [] 1 0) ?_
 obtain ⟨r0,hx_2,h⟩:=bsome h
 refine rC (k69 n 0 (wr ((b_HairBook.Hanks.length:Int) - 1)) _ hx_2) ?_
 refine Au 1 (sT [(4,.d (.bool r0))] [] 1 0) ?_
 refine RW.nil (hQ_1 _ ?_)
 obtain rfl:=Option.some.inj h
 exact rT hR_0 (.cons (.tmp rfl) .nil)
def g68 (b_HairBook:HairBook) (mf:List (Hair_dye×Span)) (o0:Int) (o1:HairBook) (o2:Int) (o3:Int):Option Bool:=(g69 o0 0 (wr ((o1.Horses.length:Int) - 1))).bind fun r0=>(bif r0 then ((g70 b_HairBook mf o2).bind fun r0_1=>some r0_1) else (some false)).bind fun v=>(bif v then ((g70 b_HairBook mf o3).bind fun r0_1_1=>some r0_1_1) else (some false)).bind fun v1=>some v1
theorem k68 (b_HairBook:HairBook) (mf:List (Hair_dye×Span)) (o0:Int) (o1:HairBook) (o2:Int) (o3:Int) (r:Bool) (h:g68 b_HairBook mf o0 o1 o2 o3=some r):SCall Tryd.prog Gs 68 [.agg [.d (.sl 4 (List.map e65 b_HairBook.Hanks)),.d (.sl 3 (List.map e67 b_HairBook.Horses)),jI b_HairBook.Dark,jI b_HairBook.Near,jI b_HairBook.Match,.fmp (List.map m124_33 mf)],.ptr 0 0,.ptr 1 0,.ptr 2 0,.ptr 3 0] [(0,.var 3 [jI o0]),(1,.var 61 (cv61 o1)),(2,.var 3 [jI o2]),(3,.var 3 [jI o3])] 4 Fr.emp (.d (.bool r)) [(0,.var 3 [jI o0]),(1,.var 61 (cv61 o1)),(2,.var 3 [jI o2]),(3,.var 3 [jI o3])] 4 Fr.emp:=by
 unfold g68 at h
 refine SCall.mkK Tryd.func68 c68 rfl rfl (by kernel_rfl) (fun Q_0 hR_0 hN_0=>?_)
 refine Sa (sT [pR 1 0,pR 2 1,pR 3 2,pR 4 3,pR 5 4] [(4,.var 119 (catV (cv61 b_HairBook) [.fmp (List.map m124_33 mf)])),(0,.var 3 [jI o0]),(1,.var 61 (cv61 o1)),(2,.var 3 [jI o2]),(3,.var 3 [jI o3])] 5 4) ?_
 refine AW.srwK (fun Q_1 hQ_1=>?_)
 refine Au 3 (sT [pR 3 2,pR 4 3,pR 5 4,(7,jI o0),(9,.d (.sl 3 (List.map e67 o1.Horses)))] [(4,.var 119 (catV (cv61 b_HairBook) [.fmp (List.map m124_33 mf)])),(0,.var 3 [jI o0]),(1,.var 61 (cv61 o1)),(2,.var 3 [jI o2]),(3,.var 3 [jI o3])] 5 4) ?_
 refine rL rfl ?_
 refine Au 1 (sT [pR 3 2,pR 4 3,pR 5 4,(7,jI o0),(11,jI (wr ((o1.Horses.length:Int) - 1)))] [(4,.var 119 (catV (cv61 b_HairBook) [.fmp (List.map m124_33 mf)])),(0,.var 3 [jI o0]),(1,.var 61 (cv61 o1)),(2,.var 3 [jI o2]),(3,.var 3 [jI o3])] 5 4) ?_
 obtain ⟨r0,hx_2,h⟩:=bsome h
 refine rC (k69 o0 0 (wr ((o1.Horses.length:Int) - 1)) _ hx_2) ?_
 refine Au 1 (sT [pR 3 2,pR 4 3,pR 5 4,(13,.d (.bool r0))] [(4,.var 119 (catV (cv61 b_HairBook) [.fmp (List.map m124_33 mf)])),(0,.var 3 [jI o0]),(1,.var 61 (cv61 o1)),(2,.var 3 [jI o2]),(3,.var 3 [jI o3])] 5 4) ?_
 obtain ⟨v,hx_3,h⟩:=bsome h
 refine RW.cut fokW 4 ((sT [pR 4 3,pR 5 4,(17,.d (.bool v))] [(4,.var 119 (catV (cv61 b_HairBook) [.fmp (List.map m124_33 mf)])),(0,.var 3 [jI o0]),(1,.var 61 (cv61 o1)),(2,.var 3 [jI o2]),(3,.var 3 [jI o3])] 5 4)) ?_ ?_
 ·refine r_split 13 rfl (fun hb_5=>?_) (fun hb_5=>?_)
  ·have h:=ifT hb_5 hx_3
   refine aX 2 (sT [pR 4 3,pR 5 4,(13,.d (.bool true)),(14,.agg [.d (.sl 4 (List.map e65 b_HairBook.Hanks)),.d (.sl 3 (List.map e67 b_HairBook.Horses)),jI b_HairBook.Dark,jI b_HairBook.Near,jI b_HairBook.Match,.fmp (List.map m124_33 mf)]),(15,jI o2)] [(4,.var 119 (catV (cv61 b_HairBook) [.fmp (List.map m124_33 mf)])),(0,.var 3 [jI o0]),(1,.var 61 (cv61 o1)),(2,.var 3 [jI o2]),(3,.var 3 [jI o3])] 5 4) ?_
   obtain ⟨r0_1,hx_4,h⟩:=bsome h
   refine r_call rfl rfl (k70 b_HairBook mf o2 _ hx_4) rfl rfl ?_
   refine aX 1 (sT [pR 4 3,pR 5 4,(17,.d (.bool r0_1))] [(4,.var 119 (catV (cv61 b_HairBook) [.fmp (List.map m124_33 mf)])),(0,.var 3 [jI o0]),(1,.var 61 (cv61 o1)),(2,.var 3 [jI o2]),(3,.var 3 [jI o3])] 5 4) ?_
   obtain rfl:=Option.some.inj h
   refine RunC.finJ (Can.kp (by kernel_rfl))
  ·have h:=ifF hb_5 hx_3
   refine aX 4 (sT [pR 4 3,pR 5 4,(17,.d (.bool false))] [(4,.var 119 (catV (cv61 b_HairBook) [.fmp (List.map m124_33 mf)])),(0,.var 3 [jI o0]),(1,.var 61 (cv61 o1)),(2,.var 3 [jI o2]),(3,.var 3 [jI o3])] 5 4) ?_
   obtain rfl:=Option.some.inj h
   refine RunC.finJ (Can.kp (by kernel_rfl))
 ·refine Au 1 (sT [pR 4 3,pR 5 4,(18,.d (.bool v))] [(4,.var 119 (catV (cv61 b_HairBook) [.fmp (List.map m124_33 mf)])),(0,.var 3 [jI o0]),(1,.var 61 (cv61 o1)),(2,.var 3 [jI o2]),(3,.var 3 [jI o3])] 5 4) ?_
  obtain ⟨v1,hx_6,h⟩:=bsome h
  refine RW.cut fokW 4 ((sT [(22,.d (.bool v1))] [(0,.var 3 [jI o0]),(1,.var 61 (cv61 o1)),(2,.var 3 [jI o2]),(3,.var 3 [jI o3])] 5 4)) ?_ ?_
  ·refine r_split 18 rfl (fun hb_8=>?_) (fun hb_8=>?_)
   ·have h:=ifT hb_8 hx_6
    refine aX 2 (sT [(18,.d (.bool true)),(19,.agg [.d (.sl 4 (List.map e65 b_HairBook.Hanks)),.d (.sl 3 (List.map e67 b_HairBook.Horses)),jI b_HairBook.Dark,jI b_HairBook.Near,jI b_HairBook.Match,.fmp (List.map m124_33 mf)]),(20,jI o3)] [(4,.var 119 (catV (cv61 b_HairBook) [.fmp (List.map m124_33 mf)])),(0,.var 3 [jI o0]),(1,.var 61 (cv61 o1)),(2,.var 3 [jI o2]),(3,.var 3 [jI o3])] 5 4) ?_
    obtain ⟨r0_1_1,hx_7,h⟩:=bsome h
    refine r_call rfl rfl (k70 b_HairBook mf o3 _ hx_7) rfl rfl ?_
    refine aX 1 (sT [(22,.d (.bool r0_1_1))] [(4,.var 119 (catV (cv61 b_HairBook) [.fmp (List.map m124_33 mf)])),(0,.var 3 [jI o0]),(1,.var 61 (cv61 o1)),(2,.var 3 [jI o2]),(3,.var 3 [jI o3])] 5 4) ?_
    obtain rfl:=Option.some.inj h
    refine RunC.finJ (Can.kp (by kernel_rfl))
   ·have h:=ifF hb_8 hx_6
    refine aX 4 (sT [(22,.d (.bool false))] [(4,.var 119 (catV (cv61 b_HairBook) [.fmp (List.map m124_33 mf)])),(0,.var 3 [jI o0]),(1,.var 61 (cv61 o1)),(2,.var 3 [jI o2]),(3,.var 3 [jI o3])] 5 4) ?_
    obtain rfl:=Option.some.inj h
    refine RunC.finJ (Can.kp (by kernel_rfl))
  ·refine Au 1 (sT [(6,.d (.bool v1))] [(0,.var 3 [jI o0]),(1,.var 61 (cv61 o1)),(2,.var 3 [jI o2]),(3,.var 3 [jI o3])] 5 4) ?_
   refine RW.nil (hQ_1 _ ?_)
   obtain rfl:=Option.some.inj h
   exact rT hR_0 (.cons (.tmp rfl) .nil)
def g67 (x:HairBook) (o0:Int) (o1:HairBook) (o2:Int) (o3:Int):Option (Ctl (HairBook×Int) (HairBook×(List (Hair_dye×Span))×Int)):=(g35 x).bind fun r0_9=>bif (decide (r0_9≠0)) then (some (.next ((HairBook.mk [] [] 0 0 0),r0_9))) else ((g81 x).bind fun (r0_HairBook,mf)=>(g68 r0_HairBook mf o0 o1 o2 o3).bind fun r0_2=>bif (!r0_2) then (some (.brk (r0_HairBook,mf,61))) else (some (.brk (r0_HairBook,mf,0))))
theorem k67 (x:HairBook) (o0:Int) (o1:HairBook) (o2:Int) (o3:Int) (r:Ctl (HairBook×Int) (HairBook×(List (Hair_dye×Span))×Int)) (h:g67 x o0 o1 o2 o3=some r):SCall Tryd.prog Gs 67 [.agg [.d (.sl 4 (List.map e65 x.Hanks)),.d (.sl 3 (List.map e67 x.Horses)),jI x.Dark,jI x.Near,jI x.Match],.clo 68 [] [.ptr 0 0,.ptr 1 0,.ptr 2 0,.ptr 3 0]] [(0,.var 3 [jI o0]),(1,.var 61 (cv61 o1)),(2,.var 3 [jI o2]),(3,.var 3 [jI o3])] 4 Fr.emp (match r with | .next (r0_HairBook4,r1_1)=>.tup [.agg [.d (.sl 4 (List.map e65 r0_HairBook4.Hanks)),.d (.sl 3 (List.map e67 r0_HairBook4.Horses)),jI r0_HairBook4.Dark,jI r0_HairBook4.Near,jI r0_HairBook4.Match,.d (.nilMap)],jI r1_1] | .brk (r0_HairBook5,mf2,r1_2)=>.tup [.agg [.d (.sl 4 (List.map e65 r0_HairBook5.Hanks)),.d (.sl 3 (List.map e67 r0_HairBook5.Horses)),jI r0_HairBook5.Dark,jI r0_HairBook5.Near,jI r0_HairBook5.Match,.fmp (List.map m124_33 mf2)],jI r1_2]) (match r with | .next (r0_HairBook4,r1_1)=>[(0,.var 3 [jI o0]),(1,.var 61 (cv61 o1)),(2,.var 3 [jI o2]),(3,.var 3 [jI o3])] | .brk (r0_HairBook5,mf2,r1_2)=>[(0,.var 3 [jI o0]),(1,.var 61 (cv61 o1)),(2,.var 3 [jI o2]),(3,.var 3 [jI o3])]) 4 Fr.emp:=by
 unfold g67 at h
 refine SCall.mkK Tryd.func67 c67 rfl (by rcases r with _ | _<;>rfl) (by rcases r with _ | _<;>kernel_rfl) (fun Q_0 hR_0 hN_0=>?_)
 refine Sa (sT [(1,.clo 68 [] [.ptr 0 0,.ptr 1 0,.ptr 2 0,.ptr 3 0]),pR 2 4,pR 4 5] [(5,.var 119 [.d (.nilSl),.d (.nilSl),jI 0,jI 0,jI 0,.d (.nilMap)]),(4,.var 61 (cv61 x)),(0,.var 3 [jI o0]),(1,.var 61 (cv61 o1)),(2,.var 3 [jI o2]),(3,.var 3 [jI o3])] 6 4) ?_
 refine AW.seqK fun K_1 hK_1=>AW.srwK fun Q_2 hQ_2=>?_
 refine Au 1 (sT [(1,.clo 68 [] [.ptr 0 0,.ptr 1 0,.ptr 2 0,.ptr 3 0]),pR 2 4,pR 4 5,(8,.agg [.d (.sl 4 (List.map e65 x.Hanks)),.d (.sl 3 (List.map e67 x.Horses)),jI x.Dark,jI x.Near,jI x.Match])] [(5,.var 119 [.d (.nilSl),.d (.nilSl),jI 0,jI 0,jI 0,.d (.nilMap)]),(4,.var 61 (cv61 x)),(0,.var 3 [jI o0]),(1,.var 61 (cv61 o1)),(2,.var 3 [jI o2]),(3,.var 3 [jI o3])] 6 4) ?_
 obtain ⟨r0_9,hx_3,h⟩:=bsome h
 refine rC (k35 x _ hx_3) ?_
 refine Au 1 (sT [(1,.clo 68 [] [.ptr 0 0,.ptr 1 0,.ptr 2 0,.ptr 3 0]),pR 2 4,pR 4 5,(6,jI r0_9)] [(5,.var 119 [.d (.nilSl),.d (.nilSl),jI 0,jI 0,jI 0,.d (.nilMap)]),(4,.var 61 (cv61 x)),(0,.var 3 [jI o0]),(1,.var 61 (cv61 o1)),(2,.var 3 [jI o2]),(3,.var 3 [jI o3])] 6 4) ?_
 refine RW.nil (hQ_2 _ ?_)
 refine Sa (sT [(1,.clo 68 [] [.ptr 0 0,.ptr 1 0,.ptr 2 0,.ptr 3 0]),pR 2 4,pR 4 5,(6,jI r0_9),(11,.d (.bool (decide (r0_9≠0))))] [(5,.var 119 [.d (.nilSl),.d (.nilSl),jI 0,jI 0,jI 0,.d (.nilMap)]),(4,.var 61 (cv61 x)),(0,.var 3 [jI o0]),(1,.var 61 (cv61 o1)),(2,.var 3 [jI o2]),(3,.var 3 [jI o3])] 6 4) ?_
 refine AW.cond rfl (fun hb_4=>?_) (fun hb_4=>?_)
 ·have h:=ifT hb_4 h
  refine Sa (sT [pR 4 5,(5,jI r0_9)] [(5,.var 119 [.d (.nilSl),.d (.nilSl),jI 0,jI 0,jI 0,.d (.nilMap)]),(0,.var 3 [jI o0]),(1,.var 61 (cv61 o1)),(2,.var 3 [jI o2]),(3,.var 3 [jI o3])] 6 4) ?_
  obtain rfl:=Option.some.inj h
  exact AW.ret (hR_0 _ (retX (.cons (.agg rfl rfl (Nat.le_of_ble_eq_true rfl)) (.cons (.tmp rfl) .nil)) (Frz.tup_of ⟨Frz.agg_of ⟨(.nil 4),(.nil 3),.refl _,.refl _,.refl _,.refl _,trivial⟩,.refl _,trivial⟩) rfl (by kernel_rfl) (by kernel_rfl)))
 ·have h:=ifF hb_4 h
  refine AW.skip (hK_1 _ ?_)
  refine AW.srwK (fun Q_5 hQ_5=>?_)
  refine Au 1 (sT [(1,.clo 68 [] [.ptr 0 0,.ptr 1 0,.ptr 2 0,.ptr 3 0]),pR 4 5,(14,.agg [.d (.sl 4 (List.map e65 x.Hanks)),.d (.sl 3 (List.map e67 x.Horses)),jI x.Dark,jI x.Near,jI x.Match])] [(5,.var 119 [.d (.nilSl),.d (.nilSl),jI 0,jI 0,jI 0,.d (.nilMap)]),(0,.var 3 [jI o0]),(1,.var 61 (cv61 o1)),(2,.var 3 [jI o2]),(3,.var 3 [jI o3])] 6 4) ?_
  obtain ⟨⟨r0_HairBook,mf⟩,hx_6,h⟩:=bsome h
  refine rC (k81 x _ hx_6) ?_
  refine Au 2 (sT [(1,.clo 68 [] [.ptr 0 0,.ptr 1 0,.ptr 2 0,.ptr 3 0]),pR 4 5,pR 7 6] [(6,.var 119 (catV (cv61 r0_HairBook) [.fmp (List.map m124_33 mf)])),(5,.var 119 [.d (.nilSl),.d (.nilSl),jI 0,jI 0,jI 0,.d (.nilMap)]),(0,.var 3 [jI o0]),(1,.var 61 (cv61 o1)),(2,.var 3 [jI o2]),(3,.var 3 [jI o3])] 7 4) ?_
  refine RW.nil (hQ_5 _ ?_)
  refine AW.seqK fun K_7 hK_7=>AW.srwK fun Q_8 hQ_8=>?_
  refine Au 2 (sT [pR 4 5,pR 7 6,(16,.clo 68 [] [.ptr 0 0,.ptr 1 0,.ptr 2 0,.ptr 3 0]),(17,.agg [.d (.sl 4 (List.map e65 r0_HairBook.Hanks)),.d (.sl 3 (List.map e67 r0_HairBook.Horses)),jI r0_HairBook.Dark,jI r0_HairBook.Near,jI r0_HairBook.Match,.fmp (List.map m124_33 mf)])] [(6,.var 119 (catV (cv61 r0_HairBook) [.fmp (List.map m124_33 mf)])),(5,.var 119 [.d (.nilSl),.d (.nilSl),jI 0,jI 0,jI 0,.d (.nilMap)]),(0,.var 3 [jI o0]),(1,.var 61 (cv61 o1)),(2,.var 3 [jI o2]),(3,.var 3 [jI o3])] 7 4) ?_
  obtain ⟨r0_2,hx_9,h⟩:=bsome h
  refine RW.one fokW (r_callvE (zr:=[]) [0,1,2,3] trivial rfl (.clo _ _ _) (by kernel_rfl) rfl (k68 r0_HairBook mf o0 o1 o2 o3 _ hx_9) ⟨rfl,rfl,rfl,rfl,trivial⟩ rfl rfl ⟨.refl _,.refl _,.refl _,.refl _,.refl _,trivial⟩ rfl rfl rfl (r_end ?_))
  refine Au 1 (sT [pR 4 5,pR 7 6,(19,.d (.bool (!r0_2)))] [(0,.var 3 [jI o0]),(1,.var 61 (cv61 o1)),(2,.var 3 [jI o2]),(3,.var 3 [jI o3]),(6,.var 119 (catV (cv61 r0_HairBook) [.fmp (List.map m124_33 mf)])),(5,.var 119 [.d (.nilSl),.d (.nilSl),jI 0,jI 0,jI 0,.d (.nilMap)])] 7 4) ?_
  refine RW.nil (hQ_8 _ ?_)
  refine AW.cond rfl (fun hb_10=>?_) (fun hb_10=>?_)
  ·have h:=ifT hb_10 h
   refine Sa (sT [pR 4 5,(5,jI 61)] [(5,.var 119 (catV (cv61 r0_HairBook) [.fmp (List.map m124_33 mf)])),(0,.var 3 [jI o0]),(1,.var 61 (cv61 o1)),(2,.var 3 [jI o2]),(3,.var 3 [jI o3])] 7 4) ?_
   obtain rfl:=Option.some.inj h
   exact rT hR_0 (.cons (.agg rfl rfl (Nat.le_of_ble_eq_true rfl)) (.cons (.tmp rfl) .nil))
  ·have h:=ifF hb_10 h
   refine AW.skip (hK_7 _ ?_)
   refine Sa (sT [pR 4 5,(5,jI 0)] [(5,.var 119 (catV (cv61 r0_HairBook) [.fmp (List.map m124_33 mf)])),(0,.var 3 [jI o0]),(1,.var 61 (cv61 o1)),(2,.var 3 [jI o2]),(3,.var 3 [jI o3])] 7 4) ?_
   obtain rfl:=Option.some.inj h
   exact rT hR_0 (.cons (.agg rfl rfl (Nat.le_of_ble_eq_true rfl)) (.cons (.tmp rfl) .nil))
def g135_3:Int→Int→Int→Option Int:=fun v p first1=>some (max first1 p)
def g135 (first:Int) (l:(List Int)):Option Int:=(eachS g135_3 l 0 first).bind fun first1=>some first1
theorem k135 (first:Int) (l:(List Int)) (r:Int) (h:g135 first l=some r):SCall Tryd.prog Gs 135 [jI first,.d (.sl 1 (List.map e3 l))] [] 0 Fr.emp (jI r) [] 0 Fr.emp:=by
 unfold g135 at h
 refine SCall.mkK Tryd.func135 c135 rfl rfl (by kernel_rfl) (fun Q_0 hR_0 hN_0=>?_)
 refine Sa (sT [(0,jI first),(1,.d (.sl 1 (List.map e3 l)))] [] 0 0) ?_
 refine AW.seqK fun K_1 hK_1=>AW.srwK fun Q_2 hQ_2=>?_
 refine Au 1 (sT [(0,jI first),(7,.d (.sl 1 (List.map e3 l)))] [] 0 0) ?_
 refine rL rfl ?_
 refine Au 1 (sT [(0,jI first),(7,.d (.sl 1 (List.map e3 l))),(8,jI (l.length:Int)),(9,jI 0)] [] 0 0) ?_
 refine RW.nil (hQ_2 _ ?_)
 refine AW.block ?_
 refine AW.sln (t:=7) rfl (fun hN_3=>?_)
 rw [List.length_map] at hN_3
 obtain ⟨out_3,hx_3,h⟩:=bsome h
 refine AW.evSK (fun (v:Int) (first1:Int)=>(sT [(0,jI first1),(7,.d (.sl 1 (List.map e3 l))),(8,jI (l.length:Int)),(9,jI v)] [] 0 0)) g135_3 hx_3 (Can.kp (by kernel_rfl)) (fun v p first1 hi_3 hl_3 hp_3 c_3 h K_3 hK_3=>?_) (fun v first1 hi_3 hl_3 hout=>?_)
 ·unfold g135_3 at h
  refine Sa (sT [(0,jI first1),(7,.d (.sl 1 (List.map e3 l))),(8,jI (l.length:Int)),(9,jI v),(10,.d (.bool (decide (v<(l.length:Int)))))] [] 0 0) ?_
  refine AW.seqK (fun K_4 hK_4=>?_)
  refine AW.cond rfl (fun hb_5=>?_) (fun hb_5=>False.elim (by have:=of_decide_eq_false hb_5;omega))
  refine AW.skip (hK_4 _ ?_)
  refine AW.seqK (fun K_6 hK_6=>?_)
  refine AW.block ?_
  refine AW.srwK (fun Q_7 hQ_7=>?_)
  refine RW.one fokW (r_iaD trivial rfl rfl hi_3 (row:=e3 p) (mapget hp_3) (r_end ?_))
  refine Au 2 (sT [(0,jI first1),(6,jI p),(7,.d (.sl 1 (List.map e3 l))),(8,jI (l.length:Int)),(9,jI v)] [] 0 0) ?_
  refine RW.nil (hQ_7 _ ?_)
  refine Ra (sT [(0,jI (max first1 p)),(7,.d (.sl 1 (List.map e3 l))),(8,jI (l.length:Int)),(9,jI v)] [] 0 0) ?_
  refine hK_6 _ ?_
  refine Ra (sT [(0,jI (max first1 p)),(7,.d (.sl 1 (List.map e3 l))),(8,jI (l.length:Int)),(9,jI (wr (v+1)))] [] 0 0) ?_
  obtain rfl:=Option.some.inj h
  have ew:wr (v+1)=v+1:=inext (N:=(l.length:Int)) (by omega) (by omega) (by omega)
  rw [ew]
  exact hK_3 _ (Can.kp (by kernel_rfl))
 ·subst hout
  refine Sa (sT [(0,jI first1),(7,.d (.sl 1 (List.map e3 l))),(8,jI (l.length:Int)),(9,jI v),(10,.d (.bool (decide (v<(l.length:Int)))))] [] 0 0) ?_
  refine AW.seqK (fun K_8 hK_8=>?_)
  refine AW.cond rfl (fun hb_9=>False.elim (by have:=of_decide_eq_true hb_9;omega)) (fun hb_9=>?_)
  refine AW.exit ?_
  refine hK_1 _ ?_
  refine Sa (sT [(4,jI first1)] [] 0 0) ?_
  obtain rfl:=Option.some.inj h
  exact rT hR_0 (.cons (.tmp rfl) .nil)
def g114 (b_HairBook:HairBook) (mf:List (Hair_dye×Span)) (horse:Int) (mane:Hair_dye) (tail:Hair_dye):Option Bool:=(ixL b_HairBook.Horses horse).bind fun p=>(g135 (wr ((((mget q124 mf mane).getD (Span.mk 0 0)).High) - p.Shade)) [(wr (p.Shade - (((mget q124 mf mane).getD (Span.mk 0 0)).Low))),(wr ((((mget q124 mf tail).getD (Span.mk 0 0)).High) - p.Shade)),(wr (p.Shade - (((mget q124 mf tail).getD (Span.mk 0 0)).Low)))]).bind fun r0=>bif (decide (b_HairBook.Near<r0)) then (some false) else (bif (decide (mane.hank=tail.hank)) then ((bif (false != ((mane.hank==tail.hank)&&((mane.steps==tail.steps)&&true))) then (some true) else ((g69 (wr (mane.steps - tail.steps)) (wr (-b_HairBook.Match)) b_HairBook.Match).bind fun r0_1=>some r0_1)).bind fun v=>some v) else ((g135 (wr ((((mget q124 mf mane).getD (Span.mk 0 0)).High) - (((mget q124 mf tail).getD (Span.mk 0 0)).Low))) [(wr ((((mget q124 mf tail).getD (Span.mk 0 0)).High) - (((mget q124 mf mane).getD (Span.mk 0 0)).Low)))]).bind fun r0_2=>some (decide (r0_2≤b_HairBook.Match))))
theorem k114 (b_HairBook:HairBook) (mf:List (Hair_dye×Span)) (horse:Int) (mane:Hair_dye) (tail:Hair_dye) (r:Bool) (h:g114 b_HairBook mf horse mane tail=some r):SCall Tryd.prog Gs 114 [.agg [.d (.sl 4 (List.map e65 b_HairBook.Hanks)),.d (.sl 3 (List.map e67 b_HairBook.Horses)),jI b_HairBook.Dark,jI b_HairBook.Near,jI b_HairBook.Match,.fmp (List.map m124_33 mf)],jI horse,.agg [jI mane.hank,jI mane.steps],.agg [jI tail.hank,jI tail.steps]] [] 0 Fr.emp (.d (.bool r)) [] 0 Fr.emp:=by
 unfold g114 at h
 refine SCall.mkK Tryd.func114 c114 rfl rfl (by kernel_rfl) (fun Q_0 hR_0 hN_0=>?_)
 refine Sa (sT [(1,jI horse),pR 4 0,pR 6 1,pR 7 2] [(2,.var 124 [jI tail.hank,jI tail.steps]),(1,.var 124 [jI mane.hank,jI mane.steps]),(0,.var 119 (catV (cv61 b_HairBook) [.fmp (List.map m124_33 mf)]))] 3 0) ?_
 refine AW.srwK (fun Q_1 hQ_1=>?_)
 refine Au 4 (sT [pR 4 0,pR 6 1,pR 7 2,(14,.d (.sl 3 (List.map e67 b_HairBook.Horses))),(15,jI horse)] [(2,.var 124 [jI tail.hank,jI tail.steps]),(1,.var 124 [jI mane.hank,jI mane.steps]),(0,.var 119 (catV (cv61 b_HairBook) [.fmp (List.map m124_33 mf)]))] 3 0) ?_
 obtain ⟨p,hv_2,h⟩:=bsome h
 refine RW.one fokW (r_iaD trivial rfl rfl (ixL_ok hv_2).1 (row:=e67 p) (mapget (ixL_ok hv_2).2) (r_end ?_))
 refine Au 3 (sT [pR 4 0,pR 6 1,pR 7 2,(9,jI p.Shade)] [(2,.var 124 [jI tail.hank,jI tail.steps]),(1,.var 124 [jI mane.hank,jI mane.steps]),(0,.var 119 (catV (cv61 b_HairBook) [.fmp (List.map m124_33 mf)]))] 3 0) ?_
 refine RW.nil (hQ_1 _ ?_)
 refine AW.sdrwK fokW (fun Q_3 hQ_3=>?_)
 refine aX 3 (sT [pR 4 0,pR 6 1,pR 7 2,(9,jI p.Shade),(20,.fmp (List.map m124_33 mf)),(21,.agg [jI mane.hank,jI mane.steps])] [(2,.var 124 [jI tail.hank,jI tail.steps]),(1,.var 124 [jI mane.hank,jI mane.steps]),(0,.var 119 (catV (cv61 b_HairBook) [.fmp (List.map m124_33 mf)]))] 3 0) ?_
 refine r_lookFA q124 e124 e33 mf mane (Span.mk 0 0) trivial rfl rfl ft124 q124_ok (fun _=>rfl) rfl ?_
 refine aX 3 (sT [pR 4 0,pR 6 1,pR 7 2,(9,jI p.Shade),(22,.agg [jI (((mget q124 mf mane).getD (Span.mk 0 0)).Low),jI (((mget q124 mf mane).getD (Span.mk 0 0)).High)]),(24,.fmp (List.map m124_33 mf)),(25,.agg [jI tail.hank,jI tail.steps])] [(2,.var 124 [jI tail.hank,jI tail.steps]),(1,.var 124 [jI mane.hank,jI mane.steps]),(0,.var 119 (catV (cv61 b_HairBook) [.fmp (List.map m124_33 mf)]))] 3 0) ?_
 refine r_lookFA q124 e124 e33 mf tail (Span.mk 0 0) trivial rfl rfl ft124 q124_ok (fun _=>rfl) rfl ?_
 refine aX 4 (sT [pR 4 0,pR 6 1,pR 7 2,(9,jI p.Shade),pR 10 3,pR 11 4] [(4,.var 33 [jI (((mget q124 mf tail).getD (Span.mk 0 0)).Low),jI (((mget q124 mf tail).getD (Span.mk 0 0)).High)]),(3,.var 33 [jI (((mget q124 mf mane).getD (Span.mk 0 0)).Low),jI (((mget q124 mf mane).getD (Span.mk 0 0)).High)]),(2,.var 124 [jI tail.hank,jI tail.steps]),(1,.var 124 [jI mane.hank,jI mane.steps]),(0,.var 119 (catV (cv61 b_HairBook) [.fmp (List.map m124_33 mf)]))] 5 0) ?_
 refine Fi (sT [pR 4 0,pR 6 1,pR 7 2,(9,jI p.Shade),pR 10 3,pR 11 4] [(4,.var 33 [jI (((mget q124 mf tail).getD (Span.mk 0 0)).Low),jI (((mget q124 mf tail).getD (Span.mk 0 0)).High)]),(3,.var 33 [jI (((mget q124 mf mane).getD (Span.mk 0 0)).Low),jI (((mget q124 mf mane).getD (Span.mk 0 0)).High)]),(2,.var 124 [jI tail.hank,jI tail.steps]),(1,.var 124 [jI mane.hank,jI mane.steps]),(0,.var 119 (catV (cv61 b_HairBook) [.fmp (List.map m124_33 mf)]))] 5 0) ?_
 refine hQ_3 _ ?_
 refine AW.seqK (fun K_4 hK_4=>?_)
 refine AW.sdrwK fokW (fun Q_5 hQ_5=>?_)
 refine aX 17 (sT [pR 4 0,pR 6 1,pR 7 2,pR 10 3,pR 11 4,(30,jI (wr ((((mget q124 mf mane).getD (Span.mk 0 0)).High) - p.Shade))),(43,.own 5 (List.map e3 [(wr (p.Shade - (((mget q124 mf mane).getD (Span.mk 0 0)).Low))),(wr ((((mget q124 mf tail).getD (Span.mk 0 0)).High) - p.Shade)),(wr (p.Shade - (((mget q124 mf tail).getD (Span.mk 0 0)).Low)))]).length)] [(5,.row 3 1 (List.map e3 [(wr (p.Shade - (((mget q124 mf mane).getD (Span.mk 0 0)).Low))),(wr ((((mget q124 mf tail).getD (Span.mk 0 0)).High) - p.Shade)),(wr (p.Shade - (((mget q124 mf tail).getD (Span.mk 0 0)).Low)))])),(4,.var 33 [jI (((mget q124 mf tail).getD (Span.mk 0 0)).Low),jI (((mget q124 mf tail).getD (Span.mk 0 0)).High)]),(3,.var 33 [jI (((mget q124 mf mane).getD (Span.mk 0 0)).Low),jI (((mget q124 mf mane).getD (Span.mk 0 0)).High)]),(2,.var 124 [jI tail.hank,jI tail.steps]),(1,.var 124 [jI mane.hank,jI mane.steps]),(0,.var 119 (catV (cv61 b_HairBook) [.fmp (List.map m124_33 mf)]))] 6 0) ?_
 obtain ⟨r0,hx_6,h⟩:=bsome h
 refine r_callF (rs:=[(5,.row 3 1 (List.map e3 [(wr (p.Shade - (((mget q124 mf mane).getD (Span.mk 0 0)).Low))),(wr ((((mget q124 mf tail).getD (Span.mk 0 0)).High) - p.Shade)),(wr (p.Shade - (((mget q124 mf tail).getD (Span.mk 0 0)).Low)))]))]) trivial rfl (k135 (wr ((((mget q124 mf mane).getD (Span.mk 0 0)).High) - p.Shade)) [(wr (p.Shade - (((mget q124 mf mane).getD (Span.mk 0 0)).Low))),(wr ((((mget q124 mf tail).getD (Span.mk 0 0)).High) - p.Shade)),(wr (p.Shade - (((mget q124 mf tail).getD (Span.mk 0 0)).Low)))] _ hx_6) ⟨rfl,trivial⟩ ⟨.refl _,(.own rfl rfl),trivial⟩ rfl rfl rfl ?_
 refine aX 4 (sT [pR 4 0,pR 6 1,pR 7 2,pR 10 3,pR 11 4,(48,.d (.bool (decide (b_HairBook.Near<r0))))] [(5,.row 3 1 (List.map e3 [(wr (p.Shade - (((mget q124 mf mane).getD (Span.mk 0 0)).Low))),(wr ((((mget q124 mf tail).getD (Span.mk 0 0)).High) - p.Shade)),(wr (p.Shade - (((mget q124 mf tail).getD (Span.mk 0 0)).Low)))])),(4,.var 33 [jI (((mget q124 mf tail).getD (Span.mk 0 0)).Low),jI (((mget q124 mf tail).getD (Span.mk 0 0)).High)]),(3,.var 33 [jI (((mget q124 mf mane).getD (Span.mk 0 0)).Low),jI (((mget q124 mf mane).getD (Span.mk 0 0)).High)]),(2,.var 124 [jI tail.hank,jI tail.steps]),(1,.var 124 [jI mane.hank,jI mane.steps]),(0,.var 119 (catV (cv61 b_HairBook) [.fmp (List.map m124_33 mf)]))] 6 0) ?_
 refine Fi (sT [pR 4 0,pR 6 1,pR 7 2,pR 10 3,pR 11 4,(48,.d (.bool (decide (b_HairBook.Near<r0))))] [(4,.var 33 [jI (((mget q124 mf tail).getD (Span.mk 0 0)).Low),jI (((mget q124 mf tail).getD (Span.mk 0 0)).High)]),(3,.var 33 [jI (((mget q124 mf mane).getD (Span.mk 0 0)).Low),jI (((mget q124 mf mane).getD (Span.mk 0 0)).High)]),(2,.var 124 [jI tail.hank,jI tail.steps]),(1,.var 124 [jI mane.hank,jI mane.steps]),(0,.var 119 (catV (cv61 b_HairBook) [.fmp (List.map m124_33 mf)]))] 6 0) ?_
 refine hQ_5 _ ?_
 refine AW.cond rfl (fun hb_7=>?_) (fun hb_7=>?_)
 ·have h:=ifT hb_7 h
  refine Sa (sT [(8,.d (.bool false))] [] 6 0) ?_
  obtain rfl:=Option.some.inj h
  exact rT hR_0 (.cons (.tmp rfl) .nil)
 ·have h:=ifF hb_7 h
  refine AW.skip (hK_4 _ ?_)
  refine AW.seqK (fun K_8 hK_8=>?_)
  refine Sa (sT [pR 4 0,pR 6 1,pR 7 2,pR 10 3,pR 11 4,(53,.d (.bool (decide (mane.hank=tail.hank))))] [(4,.var 33 [jI (((mget q124 mf tail).getD (Span.mk 0 0)).Low),jI (((mget q124 mf tail).getD (Span.mk 0 0)).High)]),(3,.var 33 [jI (((mget q124 mf mane).getD (Span.mk 0 0)).Low),jI (((mget q124 mf mane).getD (Span.mk 0 0)).High)]),(2,.var 124 [jI tail.hank,jI tail.steps]),(1,.var 124 [jI mane.hank,jI mane.steps]),(0,.var 119 (catV (cv61 b_HairBook) [.fmp (List.map m124_33 mf)]))] 6 0) ?_
  refine AW.cond rfl (fun hb_9=>?_) (fun hb_9=>?_)
  ·have h:=ifT hb_9 h
   refine AW.srwK (fun Q_10 hQ_10=>?_)
   refine Au 2 (sT [pR 4 0,pR 6 1,pR 7 2,(54,.agg [jI mane.hank,jI mane.steps]),(55,.agg [jI tail.hank,jI tail.steps])] [(2,.var 124 [jI tail.hank,jI tail.steps]),(1,.var 124 [jI mane.hank,jI mane.steps]),(0,.var 119 (catV (cv61 b_HairBook) [.fmp (List.map m124_33 mf)]))] 6 0) ?_
   refine RW.one fokW (r_aeq trivial rfl rfl rfl rfl ft124 rfl rfl rfl (r_end ?_))
   refine Au 1 (sT [pR 4 0,pR 6 1,pR 7 2,(57,.d (.bool (false != ((mane.hank==tail.hank)&&((mane.steps==tail.steps)&&true)))))] [(2,.var 124 [jI tail.hank,jI tail.steps]),(1,.var 124 [jI mane.hank,jI mane.steps]),(0,.var 119 (catV (cv61 b_HairBook) [.fmp (List.map m124_33 mf)]))] 6 0) ?_
   obtain ⟨v,hx_11,h⟩:=bsome h
   refine RW.cut fokW 14 ((sT [(71,.d (.bool v))] [] 6 0)) ?_ ?_
   ·refine r_split 57 rfl (fun hb_13=>?_) (fun hb_13=>?_)
    ·have h:=ifT hb_13 hx_11
     refine aX 14 (sT [(71,.d (.bool true))] [(2,.var 124 [jI tail.hank,jI tail.steps]),(1,.var 124 [jI mane.hank,jI mane.steps]),(0,.var 119 (catV (cv61 b_HairBook) [.fmp (List.map m124_33 mf)]))] 6 0) ?_
     obtain rfl:=Option.some.inj h
     refine RunC.finJ (Can.kp (by kernel_rfl))
    ·have h:=ifF hb_13 hx_11
     refine aX 12 (sT [(57,.d (.bool false)),(62,jI (wr (mane.steps - tail.steps))),(66,jI (wr (-b_HairBook.Match))),(69,jI b_HairBook.Match)] [(2,.var 124 [jI tail.hank,jI tail.steps]),(1,.var 124 [jI mane.hank,jI mane.steps]),(0,.var 119 (catV (cv61 b_HairBook) [.fmp (List.map m124_33 mf)]))] 6 0) ?_
     obtain ⟨r0_1,hx_12,h⟩:=bsome h
     refine r_call rfl rfl (k69 (wr (mane.steps - tail.steps)) (wr (-b_HairBook.Match)) b_HairBook.Match _ hx_12) rfl rfl ?_
     refine aX 1 (sT [(71,.d (.bool r0_1))] [(2,.var 124 [jI tail.hank,jI tail.steps]),(1,.var 124 [jI mane.hank,jI mane.steps]),(0,.var 119 (catV (cv61 b_HairBook) [.fmp (List.map m124_33 mf)]))] 6 0) ?_
     obtain rfl:=Option.some.inj h
     refine RunC.finJ (Can.kp (by kernel_rfl))
   ·refine Au 1 (sT [(8,.d (.bool v))] [] 6 0) ?_
    refine RW.nil (hQ_10 _ ?_)
    obtain rfl:=Option.some.inj h
    exact rT hR_0 (.cons (.tmp rfl) .nil)
  ·have h:=ifF hb_9 h
   refine AW.skip (hK_8 _ ?_)
   refine AW.sdrwK fokW (fun Q_14 hQ_14=>?_)
   refine aX 11 (sT [pR 4 0,(76,jI (wr ((((mget q124 mf mane).getD (Span.mk 0 0)).High) - (((mget q124 mf tail).getD (Span.mk 0 0)).Low)))),(82,.own 6 (List.map e3 [(wr ((((mget q124 mf tail).getD (Span.mk 0 0)).High) - (((mget q124 mf mane).getD (Span.mk 0 0)).Low)))]).length)] [(6,.row 3 1 (List.map e3 [(wr ((((mget q124 mf tail).getD (Span.mk 0 0)).High) - (((mget q124 mf mane).getD (Span.mk 0 0)).Low)))])),(4,.var 33 [jI (((mget q124 mf tail).getD (Span.mk 0 0)).Low),jI (((mget q124 mf tail).getD (Span.mk 0 0)).High)]),(3,.var 33 [jI (((mget q124 mf mane).getD (Span.mk 0 0)).Low),jI (((mget q124 mf mane).getD (Span.mk 0 0)).High)]),(2,.var 124 [jI tail.hank,jI tail.steps]),(1,.var 124 [jI mane.hank,jI mane.steps]),(0,.var 119 (catV (cv61 b_HairBook) [.fmp (List.map m124_33 mf)]))] 7 0) ?_
   obtain ⟨r0_2,hx_15,h⟩:=bsome h
   refine r_callF (rs:=[(6,.row 3 1 (List.map e3 [(wr ((((mget q124 mf tail).getD (Span.mk 0 0)).High) - (((mget q124 mf mane).getD (Span.mk 0 0)).Low)))]))]) trivial rfl (k135 (wr ((((mget q124 mf mane).getD (Span.mk 0 0)).High) - (((mget q124 mf tail).getD (Span.mk 0 0)).Low))) [(wr ((((mget q124 mf tail).getD (Span.mk 0 0)).High) - (((mget q124 mf mane).getD (Span.mk 0 0)).Low)))] _ hx_15) ⟨rfl,trivial⟩ ⟨.refl _,(.own rfl rfl),trivial⟩ rfl rfl rfl ?_
   refine aX 5 (sT [(8,.d (.bool (decide (r0_2≤b_HairBook.Match))))] [(6,.row 3 1 (List.map e3 [(wr ((((mget q124 mf tail).getD (Span.mk 0 0)).High) - (((mget q124 mf mane).getD (Span.mk 0 0)).Low)))])),(4,.var 33 [jI (((mget q124 mf tail).getD (Span.mk 0 0)).Low),jI (((mget q124 mf tail).getD (Span.mk 0 0)).High)]),(3,.var 33 [jI (((mget q124 mf mane).getD (Span.mk 0 0)).Low),jI (((mget q124 mf mane).getD (Span.mk 0 0)).High)]),(2,.var 124 [jI tail.hank,jI tail.steps]),(1,.var 124 [jI mane.hank,jI mane.steps]),(0,.var 119 (catV (cv61 b_HairBook) [.fmp (List.map m124_33 mf)]))] 7 0) ?_
   refine Fi (sT [(8,.d (.bool (decide (r0_2≤b_HairBook.Match))))] [] 7 0) ?_
   refine hQ_14 _ ?_
   obtain rfl:=Option.some.inj h
   exact rT hR_0 (.cons (.tmp rfl) .nil)
def g71_6 (b_HairBook:HairBook) (mf:List (Hair_dye×Span)) (horse:Int) (mane:Int) (tail:Int) (v:Int):Int→Unit→Option (Ctl (Unit) (Ctl (Unit) (Hair_dye×Hair_dye×Bool))):=fun v1 _=>(g114 b_HairBook mf horse (Hair_dye.mk mane v) (Hair_dye.mk tail v1)).bind fun r0_5=>bif r0_5 then (some (.brk (.brk ((Hair_dye.mk mane v),(Hair_dye.mk tail v1),true)))) else (some (.next ()))
def g71_2 (b_HairBook:HairBook) (mf:List (Hair_dye×Span)) (horse:Int) (mane:Int) (tail:Int):Int→Unit→Option (Ctl (Unit) (Hair_dye×Hair_dye×Bool)):=fun v _=>bindC (forC (g71_6 b_HairBook mf horse mane tail v) ((((wr (b_HairBook.Dark+1)):Int) - 0).toNat) 0 ()) fun _=>some (.next ())
def g71 (b_HairBook:HairBook) (mf:List (Hair_dye×Span)) (horse:Int) (mane:Int) (tail:Int):Option (Hair_dye×Hair_dye×Bool):=bindC (forC (g71_2 b_HairBook mf horse mane tail) ((((wr (b_HairBook.Dark+1)):Int) - 0).toNat) 0 ()) fun _=>some ((Hair_dye.mk 0 0),(Hair_dye.mk 0 0),false)
theorem k71 (b_HairBook:HairBook) (mf:List (Hair_dye×Span)) (horse:Int) (mane:Int) (tail:Int) (r:Hair_dye×Hair_dye×Bool) (h:g71 b_HairBook mf horse mane tail=some r):SCall Tryd.prog Gs 71 [.agg [.d (.sl 4 (List.map e65 b_HairBook.Hanks)),.d (.sl 3 (List.map e67 b_HairBook.Horses)),jI b_HairBook.Dark,jI b_HairBook.Near,jI b_HairBook.Match,.fmp (List.map m124_33 mf)],jI horse,jI mane,jI tail] [] 0 Fr.emp (match r with | (r0_1,r1_1,r2_1)=>.tup [.agg [jI r0_1.hank,jI r0_1.steps],.agg [jI r1_1.hank,jI r1_1.steps],.d (.bool r2_1)]) [] 0 Fr.emp:=by
 unfold g71 at h
 refine SCall.mkK Tryd.func71 c71 rfl rfl (by kernel_rfl) (fun Q_0 hR_0 hN_0=>?_)
 refine Sa (sT [(1,jI horse),(2,jI mane),(3,jI tail),pR 4 0,pR 8 1,pR 9 2] [(2,.var 124 [jI 0,jI 0]),(1,.var 124 [jI 0,jI 0]),(0,.var 119 (catV (cv61 b_HairBook) [.fmp (List.map m124_33 mf)]))] 3 0) ?_
 refine Sa (sT [(1,jI horse),(2,jI mane),(3,jI tail),pR 4 0,pR 8 1,pR 9 2,(11,.clo 114 [.agg [.d (.sl 4 (List.map e65 b_HairBook.Hanks)),.d (.sl 3 (List.map e67 b_HairBook.Horses)),jI b_HairBook.Dark,jI b_HairBook.Near,jI b_HairBook.Match,.fmp (List.map m124_33 mf)]] [])] [(2,.var 124 [jI 0,jI 0]),(1,.var 124 [jI 0,jI 0]),(0,.var 119 (catV (cv61 b_HairBook) [.fmp (List.map m124_33 mf)]))] 3 0) ?_
 refine AW.seqK (fun K_1 hK_1=>?_)
 refine Sa (sT [(1,jI horse),(2,jI mane),(3,jI tail),pR 4 0,pR 8 1,pR 9 2,(11,.clo 114 [.agg [.d (.sl 4 (List.map e65 b_HairBook.Hanks)),.d (.sl 3 (List.map e67 b_HairBook.Horses)),jI b_HairBook.Dark,jI b_HairBook.Near,jI b_HairBook.Match,.fmp (List.map m124_33 mf)]] []),(19,jI (wr (b_HairBook.Dark+1))),(20,jI 0)] [(2,.var 124 [jI 0,jI 0]),(1,.var 124 [jI 0,jI 0]),(0,.var 119 (catV (cv61 b_HairBook) [.fmp (List.map m124_33 mf)]))] 3 0) ?_
 refine AW.block ?_
 have hN_2:(wr (b_HairBook.Dark+1))≤9223372036854775807:=(wr_range _).2
 obtain ⟨out_2,hx_2,hk_2⟩:=bsomeC h
 refine AW.lpCK (fun (v:Int) (_:Unit)=>(sT [(1,jI horse),(2,jI mane),(3,jI tail),pR 4 0,pR 8 1,pR 9 2,(11,.clo 114 [.agg [.d (.sl 4 (List.map e65 b_HairBook.Hanks)),.d (.sl 3 (List.map e67 b_HairBook.Horses)),jI b_HairBook.Dark,jI b_HairBook.Near,jI b_HairBook.Match,.fmp (List.map m124_33 mf)]] []),(19,jI (wr (b_HairBook.Dark+1))),(20,jI v)] [(2,.var 124 [jI 0,jI 0]),(1,.var 124 [jI 0,jI 0]),(0,.var 119 (catV (cv61 b_HairBook) [.fmp (List.map m124_33 mf)]))] 3 0)) (g71_2 b_HairBook mf horse mane tail) ((wr (b_HairBook.Dark+1))) hx_2 (Can.kp (by kernel_rfl)) (fun v s_2 hi_2 hl_2 c_2 h hb_2 K_2 hK_2=>?_) (fun v s_2 hi_2 hl_2 hout=>?_)
 ·unfold g71_2 at h
  refine Sa (sT [(1,jI horse),(2,jI mane),(3,jI tail),pR 4 0,pR 8 1,pR 9 2,(11,.clo 114 [.agg [.d (.sl 4 (List.map e65 b_HairBook.Hanks)),.d (.sl 3 (List.map e67 b_HairBook.Horses)),jI b_HairBook.Dark,jI b_HairBook.Near,jI b_HairBook.Match,.fmp (List.map m124_33 mf)]] []),(19,jI (wr (b_HairBook.Dark+1))),(20,jI v),(21,.d (.bool (decide (v<(wr (b_HairBook.Dark+1))))))] [(2,.var 124 [jI 0,jI 0]),(1,.var 124 [jI 0,jI 0]),(0,.var 119 (catV (cv61 b_HairBook) [.fmp (List.map m124_33 mf)]))] 3 0) ?_
  refine AW.seqK (fun K_3 hK_3=>?_)
  refine AW.cond rfl (fun hb_4=>?_) (fun hb_4=>False.elim (by have:=of_decide_eq_false hb_4;omega))
  refine AW.skip (hK_3 _ ?_)
  refine AW.seqK (fun K_5 hK_5=>?_)
  refine AW.block ?_
  refine Sa (sT [(1,jI horse),(2,jI mane),(3,jI tail),pR 4 0,pR 8 1,pR 9 2,(11,.clo 114 [.agg [.d (.sl 4 (List.map e65 b_HairBook.Hanks)),.d (.sl 3 (List.map e67 b_HairBook.Horses)),jI b_HairBook.Dark,jI b_HairBook.Near,jI b_HairBook.Match,.fmp (List.map m124_33 mf)]] []),(12,jI v),(19,jI (wr (b_HairBook.Dark+1))),(20,jI v)] [(2,.var 124 [jI 0,jI 0]),(1,.var 124 [jI 0,jI 0]),(0,.var 119 (catV (cv61 b_HairBook) [.fmp (List.map m124_33 mf)]))] 3 0) ?_
  refine Sa (sT [(1,jI horse),(2,jI mane),(3,jI tail),pR 4 0,pR 8 1,pR 9 2,(11,.clo 114 [.agg [.d (.sl 4 (List.map e65 b_HairBook.Hanks)),.d (.sl 3 (List.map e67 b_HairBook.Horses)),jI b_HairBook.Dark,jI b_HairBook.Near,jI b_HairBook.Match,.fmp (List.map m124_33 mf)]] []),(12,jI v),(19,jI (wr (b_HairBook.Dark+1))),(20,jI v),(26,jI (wr (b_HairBook.Dark+1))),(27,jI 0)] [(2,.var 124 [jI 0,jI 0]),(1,.var 124 [jI 0,jI 0]),(0,.var 119 (catV (cv61 b_HairBook) [.fmp (List.map m124_33 mf)]))] 3 0) ?_
  refine AW.block ?_
  have hN_6:(wr (b_HairBook.Dark+1))≤9223372036854775807:=(wr_range _).2
  obtain ⟨out_6,hx_6,hk_6⟩:=bsomeC h
  refine AW.lpCK (fun (v1:Int) (_:Unit)=>(sT [(1,jI horse),(2,jI mane),(3,jI tail),pR 4 0,pR 8 1,pR 9 2,(11,.clo 114 [.agg [.d (.sl 4 (List.map e65 b_HairBook.Hanks)),.d (.sl 3 (List.map e67 b_HairBook.Horses)),jI b_HairBook.Dark,jI b_HairBook.Near,jI b_HairBook.Match,.fmp (List.map m124_33 mf)]] []),(12,jI v),(19,jI (wr (b_HairBook.Dark+1))),(20,jI v),(26,jI (wr (b_HairBook.Dark+1))),(27,jI v1)] [(2,.var 124 [jI 0,jI 0]),(1,.var 124 [jI 0,jI 0]),(0,.var 119 (catV (cv61 b_HairBook) [.fmp (List.map m124_33 mf)]))] 3 0)) (g71_6 b_HairBook mf horse mane tail v) ((wr (b_HairBook.Dark+1))) hx_6 (Can.kp (by kernel_rfl)) (fun v1 s_6 hi_6 hl_6 c_6 h hb_6 K_6 hK_6=>?_) (fun v1 s_6 hi_6 hl_6 hout=>?_)
  ·unfold g71_6 at h
   refine Sa (sT [(1,jI horse),(2,jI mane),(3,jI tail),pR 4 0,pR 8 1,pR 9 2,(11,.clo 114 [.agg [.d (.sl 4 (List.map e65 b_HairBook.Hanks)),.d (.sl 3 (List.map e67 b_HairBook.Horses)),jI b_HairBook.Dark,jI b_HairBook.Near,jI b_HairBook.Match,.fmp (List.map m124_33 mf)]] []),(12,jI v),(19,jI (wr (b_HairBook.Dark+1))),(20,jI v),(26,jI (wr (b_HairBook.Dark+1))),(27,jI v1),(28,.d (.bool (decide (v1<(wr (b_HairBook.Dark+1))))))] [(2,.var 124 [jI 0,jI 0]),(1,.var 124 [jI 0,jI 0]),(0,.var 119 (catV (cv61 b_HairBook) [.fmp (List.map m124_33 mf)]))] 3 0) ?_
   refine AW.seqK (fun K_7 hK_7=>?_)
   refine AW.cond rfl (fun hb_8=>?_) (fun hb_8=>False.elim (by have:=of_decide_eq_false hb_8;omega))
   refine AW.skip (hK_7 _ ?_)
   refine AW.seqK (fun K_9 hK_9=>?_)
   refine AW.block ?_
   refine Sa (sT [(1,jI horse),(2,jI mane),(3,jI tail),pR 4 0,pR 8 1,pR 9 2,(11,.clo 114 [.agg [.d (.sl 4 (List.map e65 b_HairBook.Hanks)),.d (.sl 3 (List.map e67 b_HairBook.Horses)),jI b_HairBook.Dark,jI b_HairBook.Near,jI b_HairBook.Match,.fmp (List.map m124_33 mf)]] []),(12,jI v),(13,jI v1),(19,jI (wr (b_HairBook.Dark+1))),(20,jI v),(26,jI (wr (b_HairBook.Dark+1))),(27,jI v1)] [(2,.var 124 [jI 0,jI 0]),(1,.var 124 [jI 0,jI 0]),(0,.var 119 (catV (cv61 b_HairBook) [.fmp (List.map m124_33 mf)]))] 3 0) ?_
   refine AW.srwK (fun Q_10 hQ_10=>?_)
   refine Au 8 (sT [(1,jI horse),(2,jI mane),(3,jI tail),pR 4 0,pR 8 1,pR 9 2,(11,.clo 114 [.agg [.d (.sl 4 (List.map e65 b_HairBook.Hanks)),.d (.sl 3 (List.map e67 b_HairBook.Horses)),jI b_HairBook.Dark,jI b_HairBook.Near,jI b_HairBook.Match,.fmp (List.map m124_33 mf)]] []),(12,jI v),(13,jI v1),(19,jI (wr (b_HairBook.Dark+1))),(20,jI v),(26,jI (wr (b_HairBook.Dark+1))),(27,jI v1),(30,.clo 114 [.agg [.d (.sl 4 (List.map e65 b_HairBook.Hanks)),.d (.sl 3 (List.map e67 b_HairBook.Horses)),jI b_HairBook.Dark,jI b_HairBook.Near,jI b_HairBook.Match,.fmp (List.map m124_33 mf)]] []),(31,jI horse),(34,.agg [jI mane,jI v]),(37,.agg [jI tail,jI v1])] [(2,.var 124 [jI 0,jI 0]),(1,.var 124 [jI 0,jI 0]),(0,.var 119 (catV (cv61 b_HairBook) [.fmp (List.map m124_33 mf)]))] 3 0) ?_
   obtain ⟨r0_5,hx_11,h⟩:=bsome h
   refine RW.one fokW (r_callvZ (zr:=[]) trivial rfl (.clo _ _ _) (by kernel_rfl) rfl (k114 b_HairBook mf horse (Hair_dye.mk mane v) (Hair_dye.mk tail v1) _ hx_11) trivial ⟨.refl _,.refl _,.refl _,.refl _,trivial⟩ rfl rfl rfl rfl (r_end ?_))
   refine RW.nil (hQ_10 _ ?_)
   refine AW.cond rfl (fun hb_12=>?_) (fun hb_12=>?_)
   ·have h:=ifT hb_12 h
    refine Sa (sT [pR 8 1,pR 9 2,(10,.d (.bool true))] [(2,.var 124 [jI tail,jI v1]),(1,.var 124 [jI mane,jI v])] 3 0) ?_
    obtain rfl:=Option.some.inj h
    have e_2:=hb_6 _ rfl
    subst e_2
    obtain rfl:=Aft.bk hk_6
    have e_1:=hb_2 _ rfl
    subst e_1
    obtain rfl:=Aft.bk hk_2
    exact rT hR_0 (.cons (.agg rfl rfl (Nat.le_of_ble_eq_true rfl)) (.cons (.agg rfl rfl (Nat.le_of_ble_eq_true rfl)) (.cons (.tmp rfl) .nil)))
   ·have h:=ifF hb_12 h
    refine AW.skip (hK_9 _ ?_)
    refine Ra (sT [(1,jI horse),(2,jI mane),(3,jI tail),pR 4 0,pR 8 1,pR 9 2,(11,.clo 114 [.agg [.d (.sl 4 (List.map e65 b_HairBook.Hanks)),.d (.sl 3 (List.map e67 b_HairBook.Horses)),jI b_HairBook.Dark,jI b_HairBook.Near,jI b_HairBook.Match,.fmp (List.map m124_33 mf)]] []),(12,jI v),(19,jI (wr (b_HairBook.Dark+1))),(20,jI v),(26,jI (wr (b_HairBook.Dark+1))),(27,jI (wr (v1+1)))] [(2,.var 124 [jI 0,jI 0]),(1,.var 124 [jI 0,jI 0]),(0,.var 119 (catV (cv61 b_HairBook) [.fmp (List.map m124_33 mf)]))] 3 0) ?_
    obtain rfl:=Option.some.inj h
    have ew:wr (v1+1)=v1+1:=inext (N:=(wr (b_HairBook.Dark+1))) (by omega) (by omega) (by omega)
    rw [ew]
    exact hK_6 _ _ rfl (Can.kp (by kernel_rfl))
  ·subst hout
   have h:=Aft.nx hk_6
   refine Sa (sT [(1,jI horse),(2,jI mane),(3,jI tail),pR 4 0,pR 8 1,pR 9 2,(11,.clo 114 [.agg [.d (.sl 4 (List.map e65 b_HairBook.Hanks)),.d (.sl 3 (List.map e67 b_HairBook.Horses)),jI b_HairBook.Dark,jI b_HairBook.Near,jI b_HairBook.Match,.fmp (List.map m124_33 mf)]] []),(12,jI v),(19,jI (wr (b_HairBook.Dark+1))),(20,jI v),(26,jI (wr (b_HairBook.Dark+1))),(27,jI v1),(28,.d (.bool (decide (v1<(wr (b_HairBook.Dark+1))))))] [(2,.var 124 [jI 0,jI 0]),(1,.var 124 [jI 0,jI 0]),(0,.var 119 (catV (cv61 b_HairBook) [.fmp (List.map m124_33 mf)]))] 3 0) ?_
   refine AW.seqK (fun K_13 hK_13=>?_)
   refine AW.cond rfl (fun hb_14=>False.elim (by have:=of_decide_eq_true hb_14;omega)) (fun hb_14=>?_)
   refine AW.exit ?_
   refine hK_5 _ ?_
   refine Ra (sT [(1,jI horse),(2,jI mane),(3,jI tail),pR 4 0,pR 8 1,pR 9 2,(11,.clo 114 [.agg [.d (.sl 4 (List.map e65 b_HairBook.Hanks)),.d (.sl 3 (List.map e67 b_HairBook.Horses)),jI b_HairBook.Dark,jI b_HairBook.Near,jI b_HairBook.Match,.fmp (List.map m124_33 mf)]] []),(19,jI (wr (b_HairBook.Dark+1))),(20,jI (wr (v+1)))] [(2,.var 124 [jI 0,jI 0]),(1,.var 124 [jI 0,jI 0]),(0,.var 119 (catV (cv61 b_HairBook) [.fmp (List.map m124_33 mf)]))] 3 0) ?_
   obtain rfl:=Option.some.inj h
   have ew:wr (v+1)=v+1:=inext (N:=(wr (b_HairBook.Dark+1))) (by omega) (by omega) (by omega)
   rw [ew]
   exact hK_2 _ _ rfl (Can.kp (by kernel_rfl))
 ·subst hout
  have h:=Aft.nx hk_2
  refine Sa (sT [(1,jI horse),(2,jI mane),(3,jI tail),pR 4 0,pR 8 1,pR 9 2,(11,.clo 114 [.agg [.d (.sl 4 (List.map e65 b_HairBook.Hanks)),.d (.sl 3 (List.map e67 b_HairBook.Horses)),jI b_HairBook.Dark,jI b_HairBook.Near,jI b_HairBook.Match,.fmp (List.map m124_33 mf)]] []),(19,jI (wr (b_HairBook.Dark+1))),(20,jI v),(21,.d (.bool (decide (v<(wr (b_HairBook.Dark+1))))))] [(2,.var 124 [jI 0,jI 0]),(1,.var 124 [jI 0,jI 0]),(0,.var 119 (catV (cv61 b_HairBook) [.fmp (List.map m124_33 mf)]))] 3 0) ?_
  refine AW.seqK (fun K_15 hK_15=>?_)
  refine AW.cond rfl (fun hb_16=>False.elim (by have:=of_decide_eq_true hb_16;omega)) (fun hb_16=>?_)
  refine AW.exit ?_
  refine hK_1 _ ?_
  refine Sa (sT [pR 8 1,pR 9 2,(10,.d (.bool false))] [(2,.var 124 [jI 0,jI 0]),(1,.var 124 [jI 0,jI 0])] 3 0) ?_
  obtain rfl:=Option.some.inj h
  exact rT hR_0 (.cons (.agg rfl rfl (Nat.le_of_ble_eq_true rfl)) (.cons (.agg rfl rfl (Nat.le_of_ble_eq_true rfl)) (.cons (.tmp rfl) .nil)))
def g27 (x:HairBook) (horse:Int) (mane:Int) (tail:Int):Option (Int×Int×Int):=(g67 x horse x mane tail).bind fun r_12=>match r_12 with | .next (r0_HairBook4,r1_1)=>(must (decide (r1_1≠0))).bind fun _=>some (0,0,r1_1) | .brk (r0_HairBook5,mf2,r1_2)=>bif (decide (r1_2≠0)) then (some (0,0,r1_2)) else ((g71 r0_HairBook5 mf2 horse mane tail).bind fun (r0_1,r1_1_1,r2_1)=>bif (!r2_1) then (some (0,0,4)) else (some (r0_1.steps,r1_1_1.steps,0)))
theorem k27 (x:HairBook) (horse:Int) (mane:Int) (tail:Int) (r:Int×Int×Int) (h:g27 x horse mane tail=some r):SCall Tryd.prog Gs 27 [.agg [.d (.sl 4 (List.map e65 x.Hanks)),.d (.sl 3 (List.map e67 x.Horses)),jI x.Dark,jI x.Near,jI x.Match],jI horse,jI mane,jI tail] [] 0 Fr.emp (match r with | (r0_4,r1_5,r2_4)=>.tup [jI r0_4,jI r1_5,jI r2_4]) [] 0 Fr.emp:=by
 unfold g27 at h
 refine SCall.mkK Tryd.func27 c27 rfl rfl (by kernel_rfl) (fun Q_0 hR_0 hN_0=>?_)
 refine Sa (sT [pR 4 0,pR 5 1,pR 6 2,pR 7 3] [(3,.var 3 [jI tail]),(2,.var 3 [jI mane]),(1,.var 3 [jI horse]),(0,.var 61 (cv61 x))] 4 0) ?_
 refine AW.srwK (fun Q_1 hQ_1=>?_)
 refine Au 2 (sT [pR 5 1,pR 6 2,pR 7 3,(17,.agg [.d (.sl 4 (List.map e65 x.Hanks)),.d (.sl 3 (List.map e67 x.Horses)),jI x.Dark,jI x.Near,jI x.Match]),(18,.clo 68 [] [.ptr 1 0,.ptr 0 0,.ptr 2 0,.ptr 3 0])] [(3,.var 3 [jI tail]),(2,.var 3 [jI mane]),(1,.var 3 [jI horse]),(0,.var 61 (cv61 x))] 4 0) ?_
 obtain ⟨r_12,hx_2,h⟩:=bsome h
 rcases r_12 with (⟨r0_HairBook4,r1_1⟩ | (⟨r0_HairBook5,mf2,r1_2⟩))
 ·refine RW.one fokW (r_callS (zr:=[]) [1,0,2,3] trivial rfl (k67 x horse x mane tail _ hx_2) ⟨rfl,rfl,rfl,rfl,trivial⟩ rfl rfl ⟨.refl _,.refl _,trivial⟩ rfl rfl rfl (r_end ?_))
  obtain ⟨_,hv_3,h⟩:=bsome h
  have hf_4:=must_ok hv_3
  refine Au 6 (sT [pR 5 1,pR 6 2,pR 7 3,pR 11 4,(12,jI r1_1)] [(4,.var 119 (catV (cv61 r0_HairBook4) [.d (.nilMap)])),(1,.var 3 [jI horse]),(2,.var 3 [jI mane]),(3,.var 3 [jI tail])] 5 0) ?_
  refine RW.nil (hQ_1 _ ?_)
  refine AW.seqK (fun K_5 hK_5=>?_)
  refine Sa (sT [pR 5 1,pR 6 2,pR 7 3,pR 11 4,(12,jI r1_1),(23,.d (.bool (decide (r1_1≠0))))] [(4,.var 119 (catV (cv61 r0_HairBook4) [.d (.nilMap)])),(1,.var 3 [jI horse]),(2,.var 3 [jI mane]),(3,.var 3 [jI tail])] 5 0) ?_
  refine AW.cond rfl (fun hb_6=>?_) (fun hb_6=>False.elim (by rw [hf_4] at hb_6;cases hb_6))
  refine Sa (sT [(8,jI 0),(9,jI 0),(10,jI r1_1)] [] 5 0) ?_
  obtain rfl:=Option.some.inj h
  exact rT hR_0 (.cons (.tmp rfl) (.cons (.tmp rfl) (.cons (.tmp rfl) .nil)))
 ·refine RW.one fokW (r_callS (zr:=[]) [1,0,2,3] trivial rfl (k67 x horse x mane tail _ hx_2) ⟨rfl,rfl,rfl,rfl,trivial⟩ rfl rfl ⟨.refl _,.refl _,trivial⟩ rfl rfl rfl (r_end ?_))
  refine Au 6 (sT [pR 5 1,pR 6 2,pR 7 3,pR 11 4,(12,jI r1_2)] [(4,.var 119 (catV (cv61 r0_HairBook5) [.fmp (List.map m124_33 mf2)])),(1,.var 3 [jI horse]),(2,.var 3 [jI mane]),(3,.var 3 [jI tail])] 5 0) ?_
  refine RW.nil (hQ_1 _ ?_)
  refine AW.seqK (fun K_7 hK_7=>?_)
  refine Sa (sT [pR 5 1,pR 6 2,pR 7 3,pR 11 4,(12,jI r1_2),(23,.d (.bool (decide (r1_2≠0))))] [(4,.var 119 (catV (cv61 r0_HairBook5) [.fmp (List.map m124_33 mf2)])),(1,.var 3 [jI horse]),(2,.var 3 [jI mane]),(3,.var 3 [jI tail])] 5 0) ?_
  refine AW.cond rfl (fun hb_8=>?_) (fun hb_8=>?_)
  ·have h:=ifT hb_8 h
   refine Sa (sT [(8,jI 0),(9,jI 0),(10,jI r1_2)] [] 5 0) ?_
   obtain rfl:=Option.some.inj h
   exact rT hR_0 (.cons (.tmp rfl) (.cons (.tmp rfl) (.cons (.tmp rfl) .nil)))
  ·have h:=ifF hb_8 h
   refine AW.skip (hK_7 _ ?_)
   refine AW.srwK (fun Q_9 hQ_9=>?_)
   refine Au 4 (sT [(26,.agg [.d (.sl 4 (List.map e65 r0_HairBook5.Hanks)),.d (.sl 3 (List.map e67 r0_HairBook5.Horses)),jI r0_HairBook5.Dark,jI r0_HairBook5.Near,jI r0_HairBook5.Match,.fmp (List.map m124_33 mf2)]),(27,jI horse),(28,jI mane),(29,jI tail)] [] 5 0) ?_
   obtain ⟨⟨r0_1,r1_1_1,r2_1⟩,hx_10,h⟩:=bsome h
   refine rC (k71 r0_HairBook5 mf2 horse mane tail _ hx_10) ?_
   refine Au 9 (sT [pR 13 5,pR 14 6,(15,.d (.bool r2_1))] [(6,.var 124 [jI r1_1_1.hank,jI r1_1_1.steps]),(5,.var 124 [jI r0_1.hank,jI r0_1.steps])] 7 0) ?_
   refine RW.nil (hQ_9 _ ?_)
   refine AW.seqK (fun K_11 hK_11=>?_)
   refine Sa (sT [pR 13 5,pR 14 6,(35,.d (.bool (!r2_1)))] [(6,.var 124 [jI r1_1_1.hank,jI r1_1_1.steps]),(5,.var 124 [jI r0_1.hank,jI r0_1.steps])] 7 0) ?_
   refine AW.cond rfl (fun hb_12=>?_) (fun hb_12=>?_)
   ·have h:=ifT hb_12 h
    refine Sa (sT [(8,jI 0),(9,jI 0),(10,jI 4)] [] 7 0) ?_
    obtain rfl:=Option.some.inj h
    exact rT hR_0 (.cons (.tmp rfl) (.cons (.tmp rfl) (.cons (.tmp rfl) .nil)))
   ·have h:=ifF hb_12 h
    refine AW.skip (hK_11 _ ?_)
    refine Sa (sT [(8,jI r0_1.steps),(9,jI r1_1_1.steps),(10,jI 0)] [] 7 0) ?_
    obtain rfl:=Option.some.inj h
    exact rT hR_0 (.cons (.tmp rfl) (.cons (.tmp rfl) (.cons (.tmp rfl) .nil)))
def g116 (n:Int) (o0_HairBook:HairBook) (mf:List (Hair_dye×Span)):Option Bool:=(g70 o0_HairBook mf n).bind fun r0_1=>some (!r0_1)
theorem k116 (n:Int) (o0_HairBook:HairBook) (mf:List (Hair_dye×Span)) (r:Bool) (h:g116 n o0_HairBook mf=some r):SCall Tryd.prog Gs 116 [jI n,.ptr 0 0] [(0,.var 119 (catV (cv61 o0_HairBook) [.fmp (List.map m124_33 mf)]))] 1 Fr.emp (.d (.bool r)) [(0,.var 119 (catV (cv61 o0_HairBook) [.fmp (List.map m124_33 mf)]))] 1 Fr.emp:=by
 unfold g116 at h
 refine SCall.mkK Tryd.func116 c116 rfl rfl (by kernel_rfl) (fun Q_0 hR_0 hN_0=>?_)
 refine Sa (sT [(0,jI n),pR 1 0] [(0,.var 119 (catV (cv61 o0_HairBook) [.fmp (List.map m124_33 mf)]))] 1 1) ?_
 refine AW.srwK (fun Q_1 hQ_1=>?_)
 refine Au 2 (sT [(4,.agg [.d (.sl 4 (List.map e65 o0_HairBook.Hanks)),.d (.sl 3 (List.map e67 o0_HairBook.Horses)),jI o0_HairBook.Dark,jI o0_HairBook.Near,jI o0_HairBook.Match,.fmp (List.map m124_33 mf)]),(5,jI n)] [(0,.var 119 (catV (cv61 o0_HairBook) [.fmp (List.map m124_33 mf)]))] 1 1) ?_
 obtain ⟨r0_1,hx_2,h⟩:=bsome h
 refine rC (k70 o0_HairBook mf n _ hx_2) ?_
 refine Au 2 (sT [(3,.d (.bool (!r0_1)))] [(0,.var 119 (catV (cv61 o0_HairBook) [.fmp (List.map m124_33 mf)]))] 1 1) ?_
 refine RW.nil (hQ_1 _ ?_)
 obtain rfl:=Option.some.inj h
 exact rT hR_0 (.cons (.tmp rfl) .nil)
def g136_3 (o0_HairBook:HairBook) (mf:List (Hair_dye×Span)):Int→Int→Unit→Option (Ctl (Unit) (Int)):=fun v p _=>(g116 p o0_HairBook mf).bind fun r0=>bif r0 then (some (.brk v)) else (some (.next ()))
def g136 (s:(List Int)) (o0_HairBook:HairBook) (mf:List (Hair_dye×Span)):Option Int:=bindC (eachC (g136_3 o0_HairBook mf) s 0 ()) fun _=>some (-1)
theorem k136 (s:(List Int)) (o0_HairBook:HairBook) (mf:List (Hair_dye×Span)) (r:Int) (h:g136 s o0_HairBook mf=some r):SCall Tryd.prog Gs 136 [.d (.sl 1 (List.map e3 s)),.clo 116 [] [.ptr 0 0]] [(0,.var 119 (catV (cv61 o0_HairBook) [.fmp (List.map m124_33 mf)]))] 1 Fr.emp (jI r) [(0,.var 119 (catV (cv61 o0_HairBook) [.fmp (List.map m124_33 mf)]))] 1 Fr.emp:=by
 unfold g136 at h
 refine SCall.mkK Tryd.func136 c136 rfl rfl (by kernel_rfl) (fun Q_0 hR_0 hN_0=>?_)
 refine Sa (sT [(0,.d (.sl 1 (List.map e3 s))),(1,.clo 116 [] [.ptr 0 0])] [(0,.var 119 (catV (cv61 o0_HairBook) [.fmp (List.map m124_33 mf)]))] 1 1) ?_
 refine AW.seqK fun K_1 hK_1=>AW.srwK fun Q_2 hQ_2=>?_
 refine Au 1 (sT [(0,.d (.sl 1 (List.map e3 s))),(1,.clo 116 [] [.ptr 0 0]),(6,.d (.sl 1 (List.map e3 s)))] [(0,.var 119 (catV (cv61 o0_HairBook) [.fmp (List.map m124_33 mf)]))] 1 1) ?_
 refine rL rfl ?_
 refine Au 1 (sT [(0,.d (.sl 1 (List.map e3 s))),(1,.clo 116 [] [.ptr 0 0]),(7,jI (s.length:Int)),(8,jI 0)] [(0,.var 119 (catV (cv61 o0_HairBook) [.fmp (List.map m124_33 mf)]))] 1 1) ?_
 refine RW.nil (hQ_2 _ ?_)
 refine AW.block ?_
 refine AW.sln (t:=0) rfl (fun hN_3=>?_)
 rw [List.length_map] at hN_3
 obtain ⟨out_3,hx_3,hk_3⟩:=bsomeC h
 refine AW.evCK (fun (v:Int) (_:Unit)=>(sT [(0,.d (.sl 1 (List.map e3 s))),(1,.clo 116 [] [.ptr 0 0]),(7,jI (s.length:Int)),(8,jI v)] [(0,.var 119 (catV (cv61 o0_HairBook) [.fmp (List.map m124_33 mf)]))] 1 1)) (g136_3 o0_HairBook mf) hx_3 (Can.kp (by kernel_rfl)) (fun v p s_3 hi_3 hl_3 hp_3 c_3 h hb_3 K_3 hK_3=>?_) (fun v s_3 hi_3 hl_3 hout=>?_)
 ·unfold g136_3 at h
  refine Sa (sT [(0,.d (.sl 1 (List.map e3 s))),(1,.clo 116 [] [.ptr 0 0]),(7,jI (s.length:Int)),(8,jI v),(9,.d (.bool (decide (v<(s.length:Int)))))] [(0,.var 119 (catV (cv61 o0_HairBook) [.fmp (List.map m124_33 mf)]))] 1 1) ?_
  refine AW.seqK (fun K_4 hK_4=>?_)
  refine AW.cond rfl (fun hb_5=>?_) (fun hb_5=>False.elim (by have:=of_decide_eq_false hb_5;omega))
  refine AW.skip (hK_4 _ ?_)
  refine AW.seqK (fun K_6 hK_6=>?_)
  refine AW.block ?_
  refine Sa (sT [(0,.d (.sl 1 (List.map e3 s))),(1,.clo 116 [] [.ptr 0 0]),(5,jI v),(7,jI (s.length:Int)),(8,jI v)] [(0,.var 119 (catV (cv61 o0_HairBook) [.fmp (List.map m124_33 mf)]))] 1 1) ?_
  refine AW.srwK (fun Q_7 hQ_7=>?_)
  refine Au 3 (sT [(0,.d (.sl 1 (List.map e3 s))),(1,.clo 116 [] [.ptr 0 0]),(5,jI v),(7,jI (s.length:Int)),(8,jI v),(11,.clo 116 [] [.ptr 0 0]),(12,.d (.sl 1 (List.map e3 s))),(13,jI v)] [(0,.var 119 (catV (cv61 o0_HairBook) [.fmp (List.map m124_33 mf)]))] 1 1) ?_
  refine RW.one fokW (r_iaD trivial rfl rfl hi_3 (row:=e3 p) (mapget hp_3) (r_end ?_))
  refine Au 1 (sT [(0,.d (.sl 1 (List.map e3 s))),(1,.clo 116 [] [.ptr 0 0]),(5,jI v),(7,jI (s.length:Int)),(8,jI v),(11,.clo 116 [] [.ptr 0 0]),(15,jI p)] [(0,.var 119 (catV (cv61 o0_HairBook) [.fmp (List.map m124_33 mf)]))] 1 1) ?_
  obtain ⟨r0,hx_8,h⟩:=bsome h
  refine RW.one fokW (r_callvE (zr:=[]) [0] trivial rfl (.clo _ _ _) (by kernel_rfl) rfl (k116 p o0_HairBook mf _ hx_8) ⟨rfl,trivial⟩ rfl rfl ⟨.refl _,.refl _,trivial⟩ rfl rfl rfl (r_end ?_))
  refine RW.nil (hQ_7 _ ?_)
  refine AW.cond rfl (fun hb_9=>?_) (fun hb_9=>?_)
  ·have h:=ifT hb_9 h
   refine Sa (sT [(4,jI v)] [(0,.var 119 (catV (cv61 o0_HairBook) [.fmp (List.map m124_33 mf)]))] 1 1) ?_
   obtain rfl:=Option.some.inj h
   have e_1:=hb_3 _ rfl
   subst e_1
   obtain rfl:=Aft.bk hk_3
   exact rT hR_0 (.cons (.tmp rfl) .nil)
  ·have h:=ifF hb_9 h
   refine AW.skip (hK_6 _ ?_)
   refine Ra (sT [(0,.d (.sl 1 (List.map e3 s))),(1,.clo 116 [] [.ptr 0 0]),(7,jI (s.length:Int)),(8,jI (wr (v+1)))] [(0,.var 119 (catV (cv61 o0_HairBook) [.fmp (List.map m124_33 mf)]))] 1 1) ?_
   obtain rfl:=Option.some.inj h
   have ew:wr (v+1)=v+1:=inext (N:=(s.length:Int)) (by omega) (by omega) (by omega)
   rw [ew]
   exact hK_3 _ _ rfl (Can.kp (by kernel_rfl))
 ·subst hout
  have h:=Aft.nx hk_3
  refine Sa (sT [(0,.d (.sl 1 (List.map e3 s))),(1,.clo 116 [] [.ptr 0 0]),(7,jI (s.length:Int)),(8,jI v),(9,.d (.bool (decide (v<(s.length:Int)))))] [(0,.var 119 (catV (cv61 o0_HairBook) [.fmp (List.map m124_33 mf)]))] 1 1) ?_
  refine AW.seqK (fun K_10 hK_10=>?_)
  refine AW.cond rfl (fun hb_11=>False.elim (by have:=of_decide_eq_true hb_11;omega)) (fun hb_11=>?_)
  refine AW.exit ?_
  refine hK_1 _ ?_
  refine Sa (sT [(4,jI (-1))] [(0,.var 119 (catV (cv61 o0_HairBook) [.fmp (List.map m124_33 mf)]))] 1 1) ?_
  obtain rfl:=Option.some.inj h
  exact rT hR_0 (.cons (.tmp rfl) .nil)
def g115 (s:(List Int)) (o0_HairBook:HairBook) (mf:List (Hair_dye×Span)):Option Bool:=(g136 s o0_HairBook mf).bind fun r0_2=>some (decide (0≤r0_2))
theorem k115 (s:(List Int)) (o0_HairBook:HairBook) (mf:List (Hair_dye×Span)) (r:Bool) (h:g115 s o0_HairBook mf=some r):SCall Tryd.prog Gs 115 [.d (.sl 1 (List.map e3 s)),.clo 116 [] [.ptr 0 0]] [(0,.var 119 (catV (cv61 o0_HairBook) [.fmp (List.map m124_33 mf)]))] 1 Fr.emp (.d (.bool r)) [(0,.var 119 (catV (cv61 o0_HairBook) [.fmp (List.map m124_33 mf)]))] 1 Fr.emp:=by
 unfold g115 at h
 refine SCall.mkK Tryd.func115 c115 rfl rfl (by kernel_rfl) (fun Q_0 hR_0 hN_0=>?_)
 refine Sa (sT [(0,.d (.sl 1 (List.map e3 s))),(1,.clo 116 [] [.ptr 0 0])] [(0,.var 119 (catV (cv61 o0_HairBook) [.fmp (List.map m124_33 mf)]))] 1 1) ?_
 refine AW.srwK (fun Q_1 hQ_1=>?_)
 refine Au 2 (sT [(5,.d (.sl 1 (List.map e3 s))),(6,.clo 116 [] [.ptr 0 0])] [(0,.var 119 (catV (cv61 o0_HairBook) [.fmp (List.map m124_33 mf)]))] 1 1) ?_
 obtain ⟨r0_2,hx_2,h⟩:=bsome h
 refine RW.one fokW (r_callS (zr:=[]) [0] trivial rfl (k136 s o0_HairBook mf _ hx_2) ⟨rfl,trivial⟩ rfl rfl ⟨.refl _,.refl _,trivial⟩ rfl rfl rfl (r_end ?_))
 refine Au 2 (sT [(4,.d (.bool (decide (0≤r0_2))))] [(0,.var 119 (catV (cv61 o0_HairBook) [.fmp (List.map m124_33 mf)]))] 1 1) ?_
 refine RW.nil (hQ_1 _ ?_)
 obtain rfl:=Option.some.inj h
 exact rT hR_0 (.cons (.tmp rfl) .nil)
def g73 (b_HairBook:HairBook) (mf:List (Hair_dye×Span)) (plan:(List Int)):Option Bool:=(bif (decide ((plan.length:Int)=(wr (2*(b_HairBook.Horses.length:Int))))) then ((g115 plan b_HairBook mf).bind fun r0=>some (!r0)) else (some false)).bind fun v=>some v
theorem k73 (b_HairBook:HairBook) (mf:List (Hair_dye×Span)) (plan:(List Int)) (r:Bool) (h:g73 b_HairBook mf plan=some r):SCall Tryd.prog Gs 73 [.agg [.d (.sl 4 (List.map e65 b_HairBook.Hanks)),.d (.sl 3 (List.map e67 b_HairBook.Horses)),jI b_HairBook.Dark,jI b_HairBook.Near,jI b_HairBook.Match,.fmp (List.map m124_33 mf)],.d (.sl 1 (List.map e3 plan))] [] 0 Fr.emp (.d (.bool r)) [] 0 Fr.emp:=by
 unfold g73 at h
 refine SCall.mkK Tryd.func73 c73 rfl rfl (by kernel_rfl) (fun Q_0 hR_0 hN_0=>?_)
 refine Sa (sT [(1,.d (.sl 1 (List.map e3 plan))),pR 2 0] [(0,.var 119 (catV (cv61 b_HairBook) [.fmp (List.map m124_33 mf)]))] 1 0) ?_
 refine AW.srwK (fun Q_1 hQ_1=>?_)
 refine Au 1 (sT [(1,.d (.sl 1 (List.map e3 plan))),pR 2 0,(5,.d (.sl 1 (List.map e3 plan)))] [(0,.var 119 (catV (cv61 b_HairBook) [.fmp (List.map m124_33 mf)]))] 1 0) ?_
 refine rL rfl ?_
 refine Au 3 (sT [(1,.d (.sl 1 (List.map e3 plan))),pR 2 0,(6,jI (plan.length:Int)),(9,.d (.sl 3 (List.map e67 b_HairBook.Horses)))] [(0,.var 119 (catV (cv61 b_HairBook) [.fmp (List.map m124_33 mf)]))] 1 0) ?_
 refine rL rfl ?_
 refine Au 3 (sT [(1,.d (.sl 1 (List.map e3 plan))),pR 2 0,(13,.d (.bool (decide ((plan.length:Int)=(wr (2*(b_HairBook.Horses.length:Int)))))))] [(0,.var 119 (catV (cv61 b_HairBook) [.fmp (List.map m124_33 mf)]))] 1 0) ?_
 obtain ⟨v,hx_2,h⟩:=bsome h
 refine RW.cut fokW 5 ((sT [(18,.d (.bool v))] [] 1 0)) ?_ ?_
 ·refine r_split 13 rfl (fun hb_4=>?_) (fun hb_4=>?_)
  ·have h:=ifT hb_4 hx_2
   refine aX 2 (sT [(13,.d (.bool true)),(14,.d (.sl 1 (List.map e3 plan))),(15,.clo 116 [] [.ptr 0 0])] [(0,.var 119 (catV (cv61 b_HairBook) [.fmp (List.map m124_33 mf)]))] 1 0) ?_
   obtain ⟨r0,hx_3,h⟩:=bsome h
   refine r_callS (zr:=[]) [0] rfl rfl (k115 plan b_HairBook mf _ hx_3) ⟨rfl,trivial⟩ rfl rfl ⟨.refl _,.refl _,trivial⟩ rfl rfl rfl ?_
   refine aX 2 (sT [(18,.d (.bool (!r0)))] [(0,.var 119 (catV (cv61 b_HairBook) [.fmp (List.map m124_33 mf)]))] 1 0) ?_
   obtain rfl:=Option.some.inj h
   refine RunC.finJ (Can.kp (by kernel_rfl))
  ·have h:=ifF hb_4 hx_2
   refine aX 5 (sT [(18,.d (.bool false))] [(0,.var 119 (catV (cv61 b_HairBook) [.fmp (List.map m124_33 mf)]))] 1 0) ?_
   obtain rfl:=Option.some.inj h
   refine RunC.finJ (Can.kp (by kernel_rfl))
 ·refine Au 1 (sT [(4,.d (.bool v))] [] 1 0) ?_
  refine RW.nil (hQ_1 _ ?_)
  obtain rfl:=Option.some.inj h
  exact rT hR_0 (.cons (.tmp rfl) .nil)
def g72 (b_HairBook:HairBook) (mf:List (Hair_dye×Span)) (o0:(List Int)):Option Bool:=(g73 b_HairBook mf o0).bind fun r0_1=>some r0_1
theorem k72 (b_HairBook:HairBook) (mf:List (Hair_dye×Span)) (o0:(List Int)) (r:Bool) (h:g72 b_HairBook mf o0=some r):SCall Tryd.prog Gs 72 [.agg [.d (.sl 4 (List.map e65 b_HairBook.Hanks)),.d (.sl 3 (List.map e67 b_HairBook.Horses)),jI b_HairBook.Dark,jI b_HairBook.Near,jI b_HairBook.Match,.fmp (List.map m124_33 mf)],.ptr 0 0] [(0,.var 51 [.d (.sl 1 (List.map e3 o0))])] 1 Fr.emp (.d (.bool r)) [(0,.var 51 [.d (.sl 1 (List.map e3 o0))])] 1 Fr.emp:=by
 unfold g72 at h
 refine SCall.mkK Tryd.func72 c72 rfl rfl (by kernel_rfl) (fun Q_0 hR_0 hN_0=>?_)
 refine Sa (sT [pR 1 0,pR 2 1] [(1,.var 119 (catV (cv61 b_HairBook) [.fmp (List.map m124_33 mf)])),(0,.var 51 [.d (.sl 1 (List.map e3 o0))])] 2 1) ?_
 refine AW.srwK (fun Q_1 hQ_1=>?_)
 refine Au 2 (sT [(4,.agg [.d (.sl 4 (List.map e65 b_HairBook.Hanks)),.d (.sl 3 (List.map e67 b_HairBook.Horses)),jI b_HairBook.Dark,jI b_HairBook.Near,jI b_HairBook.Match,.fmp (List.map m124_33 mf)]),(5,.d (.sl 1 (List.map e3 o0)))] [(0,.var 51 [.d (.sl 1 (List.map e3 o0))])] 2 1) ?_
 obtain ⟨r0_1,hx_2,h⟩:=bsome h
 refine rC (k73 b_HairBook mf o0 _ hx_2) ?_
 refine Au 1 (sT [(3,.d (.bool r0_1))] [(0,.var 51 [.d (.sl 1 (List.map e3 o0))])] 2 1) ?_
 refine RW.nil (hQ_1 _ ?_)
 obtain rfl:=Option.some.inj h
 exact rT hR_0 (.cons (.tmp rfl) .nil)
def g67a (x:HairBook) (o0:(List Int)):Option (Ctl (HairBook×Int) (HairBook×(List (Hair_dye×Span))×Int)):=(g35 x).bind fun r0_9=>bif (decide (r0_9≠0)) then (some (.next ((HairBook.mk [] [] 0 0 0),r0_9))) else ((g81 x).bind fun (r0_HairBook,mf)=>(g72 r0_HairBook mf o0).bind fun r0=>bif (!r0) then (some (.brk (r0_HairBook,mf,61))) else (some (.brk (r0_HairBook,mf,0))))
def y1 (o0:(List Int)):List (Nat×Blk):=[(2,.var 119 [.d (.nilSl),.d (.nilSl),jI 0,jI 0,jI 0,.d (.nilMap)]),(0,.var 51 [.d (.sl 1 (List.map e3 o0))])]
theorem k67a (x:HairBook) (o0:(List Int)) (r:Ctl (HairBook×Int) (HairBook×(List (Hair_dye×Span))×Int)) (h:g67a x o0=some r):SCall Tryd.prog Gs 67 [.agg [.d (.sl 4 (List.map e65 x.Hanks)),.d (.sl 3 (List.map e67 x.Horses)),jI x.Dark,jI x.Near,jI x.Match],.clo 72 [] [.ptr 0 0]] [(0,.var 51 [.d (.sl 1 (List.map e3 o0))])] 1 Fr.emp (match r with | .next (r0_HairBook4,r1_1)=>.tup [.agg [.d (.sl 4 (List.map e65 r0_HairBook4.Hanks)),.d (.sl 3 (List.map e67 r0_HairBook4.Horses)),jI r0_HairBook4.Dark,jI r0_HairBook4.Near,jI r0_HairBook4.Match,.d (.nilMap)],jI r1_1] | .brk (r0_HairBook5,mf2,r1_2)=>.tup [.agg [.d (.sl 4 (List.map e65 r0_HairBook5.Hanks)),.d (.sl 3 (List.map e67 r0_HairBook5.Horses)),jI r0_HairBook5.Dark,jI r0_HairBook5.Near,jI r0_HairBook5.Match,.fmp (List.map m124_33 mf2)],jI r1_2]) (match r with | .next (r0_HairBook4,r1_1)=>[(0,.var 51 [.d (.sl 1 (List.map e3 o0))])] | .brk (r0_HairBook5,mf2,r1_2)=>[(0,.var 51 [.d (.sl 1 (List.map e3 o0))])]) 1 Fr.emp:=by
 unfold g67a at h
 refine SCall.mkK Tryd.func67 c67 rfl (by rcases r with _ | _<;>rfl) (by rcases r with _ | _<;>kernel_rfl) (fun Q_0 hR_0 hN_0=>?_)
 refine Sa (sT [(1,.clo 72 [] [.ptr 0 0]),pR 2 1,pR 4 2] [(2,.var 119 [.d (.nilSl),.d (.nilSl),jI 0,jI 0,jI 0,.d (.nilMap)]),(1,.var 61 (cv61 x)),(0,.var 51 [.d (.sl 1 (List.map e3 o0))])] 3 1) ?_
 refine AW.seqK fun K_1 hK_1=>AW.srwK fun Q_2 hQ_2=>?_
 refine Au 1 (sT [(1,.clo 72 [] [.ptr 0 0]),pR 2 1,pR 4 2,(8,.agg [.d (.sl 4 (List.map e65 x.Hanks)),.d (.sl 3 (List.map e67 x.Horses)),jI x.Dark,jI x.Near,jI x.Match])] [(2,.var 119 [.d (.nilSl),.d (.nilSl),jI 0,jI 0,jI 0,.d (.nilMap)]),(1,.var 61 (cv61 x)),(0,.var 51 [.d (.sl 1 (List.map e3 o0))])] 3 1) ?_
 obtain ⟨r0_9,hx_3,h⟩:=bsome h
 refine rC (k35 x _ hx_3) ?_
 refine Au 1 (sT [(1,.clo 72 [] [.ptr 0 0]),pR 2 1,pR 4 2,(6,jI r0_9)] [(2,.var 119 [.d (.nilSl),.d (.nilSl),jI 0,jI 0,jI 0,.d (.nilMap)]),(1,.var 61 (cv61 x)),(0,.var 51 [.d (.sl 1 (List.map e3 o0))])] 3 1) ?_
 refine RW.nil (hQ_2 _ ?_)
 refine Sa (sT [(1,.clo 72 [] [.ptr 0 0]),pR 2 1,pR 4 2,(6,jI r0_9),(11,.d (.bool (decide (r0_9≠0))))] [(2,.var 119 [.d (.nilSl),.d (.nilSl),jI 0,jI 0,jI 0,.d (.nilMap)]),(1,.var 61 (cv61 x)),(0,.var 51 [.d (.sl 1 (List.map e3 o0))])] 3 1) ?_
 refine AW.cond rfl (fun hb_4=>?_) (fun hb_4=>?_)
 ·have h:=ifT hb_4 h
  refine Sa (sT [pR 4 2,(5,jI r0_9)] (y1 o0) 3 1) ?_
  obtain rfl:=Option.some.inj h
  exact AW.ret (hR_0 _ (retX (.cons (.agg rfl rfl (Nat.le_of_ble_eq_true rfl)) (.cons (.tmp rfl) .nil)) (Frz.tup_of ⟨Frz.agg_of ⟨(.nil 4),(.nil 3),.refl _,.refl _,.refl _,.refl _,trivial⟩,.refl _,trivial⟩) rfl (by kernel_rfl) (by kernel_rfl)))
 ·have h:=ifF hb_4 h
  refine AW.skip (hK_1 _ ?_)
  refine AW.srwK (fun Q_5 hQ_5=>?_)
  refine Au 1 (sT [(1,.clo 72 [] [.ptr 0 0]),pR 4 2,(14,.agg [.d (.sl 4 (List.map e65 x.Hanks)),.d (.sl 3 (List.map e67 x.Horses)),jI x.Dark,jI x.Near,jI x.Match])] (y1 o0) 3 1) ?_
  obtain ⟨⟨r0_HairBook,mf⟩,hx_6,h⟩:=bsome h
  refine rC (k81 x _ hx_6) ?_
  refine Au 2 (sT [(1,.clo 72 [] [.ptr 0 0]),pR 4 2,pR 7 3] [(3,.var 119 (catV (cv61 r0_HairBook) [.fmp (List.map m124_33 mf)])),(2,.var 119 [.d (.nilSl),.d (.nilSl),jI 0,jI 0,jI 0,.d (.nilMap)]),(0,.var 51 [.d (.sl 1 (List.map e3 o0))])] 4 1) ?_
  refine RW.nil (hQ_5 _ ?_)
  refine AW.seqK fun K_7 hK_7=>AW.srwK fun Q_8 hQ_8=>?_
  refine Au 2 (sT [pR 4 2,pR 7 3,(16,.clo 72 [] [.ptr 0 0]),(17,.agg [.d (.sl 4 (List.map e65 r0_HairBook.Hanks)),.d (.sl 3 (List.map e67 r0_HairBook.Horses)),jI r0_HairBook.Dark,jI r0_HairBook.Near,jI r0_HairBook.Match,.fmp (List.map m124_33 mf)])] [(3,.var 119 (catV (cv61 r0_HairBook) [.fmp (List.map m124_33 mf)])),(2,.var 119 [.d (.nilSl),.d (.nilSl),jI 0,jI 0,jI 0,.d (.nilMap)]),(0,.var 51 [.d (.sl 1 (List.map e3 o0))])] 4 1) ?_
  obtain ⟨r0,hx_9,h⟩:=bsome h
  refine RW.one fokW (r_callvE (zr:=[]) [0] trivial rfl (.clo _ _ _) (by kernel_rfl) rfl (k72 r0_HairBook mf o0 _ hx_9) ⟨rfl,trivial⟩ rfl rfl ⟨.refl _,.refl _,trivial⟩ rfl rfl rfl (r_end ?_))
  refine Au 1 (sT [pR 4 2,pR 7 3,(19,.d (.bool (!r0)))] [(0,.var 51 [.d (.sl 1 (List.map e3 o0))]),(3,.var 119 (catV (cv61 r0_HairBook) [.fmp (List.map m124_33 mf)])),(2,.var 119 [.d (.nilSl),.d (.nilSl),jI 0,jI 0,jI 0,.d (.nilMap)])] 4 1) ?_
  refine RW.nil (hQ_8 _ ?_)
  refine AW.cond rfl (fun hb_10=>?_) (fun hb_10=>?_)
  ·have h:=ifT hb_10 h
   refine Sa (sT [pR 4 2,(5,jI 61)] [(2,.var 119 (catV (cv61 r0_HairBook) [.fmp (List.map m124_33 mf)])),(0,.var 51 [.d (.sl 1 (List.map e3 o0))])] 4 1) ?_
   obtain rfl:=Option.some.inj h
   exact rT hR_0 (.cons (.agg rfl rfl (Nat.le_of_ble_eq_true rfl)) (.cons (.tmp rfl) .nil))
  ·have h:=ifF hb_10 h
   refine AW.skip (hK_7 _ ?_)
   refine Sa (sT [pR 4 2,(5,jI 0)] [(2,.var 119 (catV (cv61 r0_HairBook) [.fmp (List.map m124_33 mf)])),(0,.var 51 [.d (.sl 1 (List.map e3 o0))])] 4 1) ?_
   obtain rfl:=Option.some.inj h
   exact rT hR_0 (.cons (.agg rfl rfl (Nat.le_of_ble_eq_true rfl)) (.cons (.tmp rfl) .nil))
def g117 :Option (Nat→Int):=some (arrL [0,0,0,0,0])
theorem k117  (r:(Nat→Int)) (h:g117=some r):SCall Tryd.prog Gs 117 [] [] 0 Fr.emp (.agg [jI (r 0),jI (r 1),jI (r 2),jI (r 3),jI (r 4)]) [] 0 Fr.emp:=by
 unfold g117 at h
 refine SCall.mkK Tryd.func117 c117 rfl rfl (by kernel_rfl) (fun Q_0 hR_0 hN_0=>?_)
 refine Sa (sT [pR 0 0] [(0,.var 128 [jI 0,jI 0,jI 0,jI 0,jI 0])] 1 0) ?_
 refine Sa (sT [pR 0 0,pR 1 1] [(1,.var 128 [jI 0,jI 0,jI 0,jI 0,jI 0]),(0,.var 128 [jI 0,jI 0,jI 0,jI 0,jI 0])] 2 0) ?_
 refine Sa (sT [pR 0 0] [(0,.var 128 [jI 0,jI 0,jI 0,jI 0,jI 0])] 2 0) ?_
 obtain rfl:=Option.some.inj h
 exact rT hR_0 (.cons (.agg rfl rfl (Nat.le_of_ble_eq_true rfl)) .nil)
def g154 (h_:HairHorse):Option Int:=some h_.Mane
theorem k154 (h_:HairHorse) (r:Int) (h:g154 h_=some r):SCall Tryd.prog Gs 154 [.agg [jI h_.Mane,jI h_.Tail,jI h_.Shade]] [] 0 Fr.emp (jI r) [] 0 Fr.emp:=by
 unfold g154 at h
 refine SCall.mkK Tryd.func154 c154 rfl rfl (by kernel_rfl) (fun Q_0 hR_0 hN_0=>?_)
 refine Sa (sT [pR 1 0] [(0,.var 185 [jI h_.Mane,jI h_.Tail,jI h_.Shade])] 1 0) ?_
 refine Sa (sT [(2,jI h_.Mane)] [] 1 0) ?_
 obtain rfl:=Option.some.inj h
 exact rT hR_0 (.cons (.tmp rfl) .nil)
def g161 (h_:HairHorse):Option Int:=some h_.Tail
theorem k161 (h_:HairHorse) (r:Int) (h:g161 h_=some r):SCall Tryd.prog Gs 161 [.agg [jI h_.Mane,jI h_.Tail,jI h_.Shade]] [] 0 Fr.emp (jI r) [] 0 Fr.emp:=by
 unfold g161 at h
 refine SCall.mkK Tryd.func161 c161 rfl rfl (by kernel_rfl) (fun Q_0 hR_0 hN_0=>?_)
 refine Sa (sT [pR 1 0] [(0,.var 185 [jI h_.Mane,jI h_.Tail,jI h_.Shade])] 1 0) ?_
 refine Sa (sT [(2,jI h_.Tail)] [] 1 0) ?_
 obtain rfl:=Option.some.inj h
 exact rT hR_0 (.cons (.tmp rfl) .nil)
end Go.Proofs.Tl
namespace Go.Proofs.Tl
open Go Go.Abs Go.Proofs
def g76_5 (b_HairBook:HairBook):Int→Int→(Nat→Int)→Option (Nat→Int):=fun v p out=>(ixN 5 p).bind fun j=>(ixN 2 (v.tmod 2)).bind fun j1=>match j1 with | 0=>(ixL b_HairBook.Horses (wr (v.tdiv 2))).bind fun p1=>(g154 p1).bind fun r0_1=>(ixN 5 p).bind fun j2=>some (aset out j2 (wr ((out j)+r0_1))) | 1=>(ixL b_HairBook.Horses (wr (v.tdiv 2))).bind fun p2=>(g161 p2).bind fun r0_2=>(ixN 5 p).bind fun j3=>some (aset out j3 (wr ((out j)+r0_2))) | _=>none
def g76 (b_HairBook:HairBook) (mf:List (Hair_dye×Span)) (plan:(List Int)):Option (Nat→Int):=(g117).bind fun r0=>(eachS (g76_5 b_HairBook) plan 0 r0).bind fun out=>some out
theorem k76 (b_HairBook:HairBook) (mf:List (Hair_dye×Span)) (plan:(List Int)) (r:(Nat→Int)) (h:g76 b_HairBook mf plan=some r):SCall Tryd.prog Gs 76 [.agg [.d (.sl 4 (List.map e65 b_HairBook.Hanks)),.d (.sl 3 (List.map e67 b_HairBook.Horses)),jI b_HairBook.Dark,jI b_HairBook.Near,jI b_HairBook.Match,.fmp (List.map m124_33 mf)],.d (.sl 1 (List.map e3 plan))] [] 0 Fr.emp (.agg [jI (r 0),jI (r 1),jI (r 2),jI (r 3),jI (r 4)]) [] 0 Fr.emp:=by
 unfold g76 at h
 refine SCall.mkK Tryd.func76 c76 rfl rfl (by kernel_rfl) (fun Q_0 hR_0 hN_0=>?_)
 refine Sa (sT [(1,.d (.sl 1 (List.map e3 plan))),pR 2 0,pR 4 1] [(1,.var 128 [jI 0,jI 0,jI 0,jI 0,jI 0]),(0,.var 119 (catV (cv61 b_HairBook) [.fmp (List.map m124_33 mf)]))] 2 0) ?_
 refine AW.srwK (fun Q_1 hQ_1=>?_)
 obtain ⟨r0,hx_2,h⟩:=bsome h
 refine rC (k117 _ hx_2) ?_
 refine Au 2 (sT [(1,.d (.sl 1 (List.map e3 plan))),pR 2 0,pR 4 1,pR 5 2] [(2,.var 128 [jI (r0 0),jI (r0 1),jI (r0 2),jI (r0 3),jI (r0 4)]),(1,.var 128 [jI 0,jI 0,jI 0,jI 0,jI 0]),(0,.var 119 (catV (cv61 b_HairBook) [.fmp (List.map m124_33 mf)]))] 3 0) ?_
 refine RW.nil (hQ_1 _ ?_)
 refine AW.seqK fun K_3 hK_3=>AW.srwK fun Q_4 hQ_4=>?_
 refine Au 1 (sT [pR 2 0,pR 4 1,pR 5 2,(9,.d (.sl 1 (List.map e3 plan)))] [(2,.var 128 [jI (r0 0),jI (r0 1),jI (r0 2),jI (r0 3),jI (r0 4)]),(1,.var 128 [jI 0,jI 0,jI 0,jI 0,jI 0]),(0,.var 119 (catV (cv61 b_HairBook) [.fmp (List.map m124_33 mf)]))] 3 0) ?_
 refine rL rfl ?_
 refine Au 1 (sT [pR 2 0,pR 4 1,pR 5 2,(9,.d (.sl 1 (List.map e3 plan))),(10,jI (plan.length:Int)),(11,jI 0)] [(2,.var 128 [jI (r0 0),jI (r0 1),jI (r0 2),jI (r0 3),jI (r0 4)]),(1,.var 128 [jI 0,jI 0,jI 0,jI 0,jI 0]),(0,.var 119 (catV (cv61 b_HairBook) [.fmp (List.map m124_33 mf)]))] 3 0) ?_
 refine RW.nil (hQ_4 _ ?_)
 refine AW.block ?_
 refine AW.sln (t:=9) rfl (fun hN_5=>?_)
 rw [List.length_map] at hN_5
 obtain ⟨out_5,hx_5,h⟩:=bsome h
 refine AW.evSK (fun (v:Int) (out:(Nat→Int))=>(sT [pR 2 0,pR 4 1,pR 5 2,(9,.d (.sl 1 (List.map e3 plan))),(10,jI (plan.length:Int)),(11,jI v)] [(2,.var 128 [jI (out 0),jI (out 1),jI (out 2),jI (out 3),jI (out 4)]),(1,.var 128 [jI 0,jI 0,jI 0,jI 0,jI 0]),(0,.var 119 (catV (cv61 b_HairBook) [.fmp (List.map m124_33 mf)]))] 3 0)) (g76_5 b_HairBook) hx_5 (Can.kp (by kernel_rfl)) (fun v p out hi_5 hl_5 hp_5 c_5 h K_5 hK_5=>?_) (fun v out hi_5 hl_5 hout=>?_)
 ·unfold g76_5 at h
  refine Sa (sT [pR 2 0,pR 4 1,pR 5 2,(9,.d (.sl 1 (List.map e3 plan))),(10,jI (plan.length:Int)),(11,jI v),(12,.d (.bool (decide (v<(plan.length:Int)))))] [(2,.var 128 [jI (out 0),jI (out 1),jI (out 2),jI (out 3),jI (out 4)]),(1,.var 128 [jI 0,jI 0,jI 0,jI 0,jI 0]),(0,.var 119 (catV (cv61 b_HairBook) [.fmp (List.map m124_33 mf)]))] 3 0) ?_
  refine AW.seqK (fun K_6 hK_6=>?_)
  refine AW.cond rfl (fun hb_7=>?_) (fun hb_7=>False.elim (by have:=of_decide_eq_false hb_7;omega))
  refine AW.skip (hK_6 _ ?_)
  refine AW.seqK (fun K_8 hK_8=>?_)
  refine AW.block ?_
  refine AW.srwK (fun Q_9 hQ_9=>?_)
  refine Au 1 (sT [pR 2 0,pR 4 1,pR 5 2,(9,.d (.sl 1 (List.map e3 plan))),(10,jI (plan.length:Int)),(11,jI v),(13,jI v)] [(2,.var 128 [jI (out 0),jI (out 1),jI (out 2),jI (out 3),jI (out 4)]),(1,.var 128 [jI 0,jI 0,jI 0,jI 0,jI 0]),(0,.var 119 (catV (cv61 b_HairBook) [.fmp (List.map m124_33 mf)]))] 3 0) ?_
  refine RW.one fokW (r_iaD trivial rfl rfl hi_5 (row:=e3 p) (mapget hp_5) (r_end ?_))
  refine Au 3 (sT [pR 2 0,pR 4 1,pR 5 2,(6,jI v),(7,jI p),(9,.d (.sl 1 (List.map e3 plan))),(10,jI (plan.length:Int)),(11,jI v)] [(2,.var 128 [jI (out 0),jI (out 1),jI (out 2),jI (out 3),jI (out 4)]),(1,.var 128 [jI 0,jI 0,jI 0,jI 0,jI 0]),(0,.var 119 (catV (cv61 b_HairBook) [.fmp (List.map m124_33 mf)]))] 3 0) ?_
  refine RW.nil (hQ_9 _ ?_)
  refine AW.drw fokW ?_
  refine aX 1 (sT [pR 2 0,pR 4 1,pR 5 2,(6,jI v),(9,.d (.sl 1 (List.map e3 plan))),(10,jI (plan.length:Int)),(11,jI v),(16,jI p)] [(2,.var 128 [jI (out 0),jI (out 1),jI (out 2),jI (out 3),jI (out 4)]),(1,.var 128 [jI 0,jI 0,jI 0,jI 0,jI 0]),(0,.var 119 (catV (cv61 b_HairBook) [.fmp (List.map m124_33 mf)]))] 3 0) ?_
  obtain ⟨j,hv_11,h⟩:=bsome h
  refine r_iaV trivial rfl rfl rfl (ixN_ok hv_11).1 (ixN_ok hv_11).2.1 ?_
  refine r_loadV trivial rfl rfl (u:=jI (out j)) (agt (f:=fun k=>jI (out k)) hv_11) ?_
  refine aX 2 (sT [pR 2 0,pR 4 1,pR 5 2,(6,jI v),(9,.d (.sl 1 (List.map e3 plan))),(10,jI (plan.length:Int)),(11,jI v),(16,jI p),(18,jI (out j)),(20,jI (v.tmod 2))] [(2,.var 128 [jI (out 0),jI (out 1),jI (out 2),jI (out 3),jI (out 4)]),(1,.var 128 [jI 0,jI 0,jI 0,jI 0,jI 0]),(0,.var 119 (catV (cv61 b_HairBook) [.fmp (List.map m124_33 mf)]))] 3 0) ?_
  obtain ⟨j1,hv_12,h⟩:=bsome h
  rcases j1 with _ | _ | j1
  ·refine r_iaF trivial rfl rfl (ixN_ok hv_12).1 (ixN_ok hv_12).2.1 ?_
   refine r_loadF trivial rfl (u:=.fn 154) (by rw [(ixN_ok hv_12).2.2];rfl) ?_
   refine aX 5 (sT [pR 2 0,pR 4 1,pR 5 2,(9,.d (.sl 1 (List.map e3 plan))),(10,jI (plan.length:Int)),(11,jI v),(16,jI p),(18,jI (out j)),(22,.d (.fn 154)),(25,.d (.sl 3 (List.map e67 b_HairBook.Horses))),(27,jI (wr (v.tdiv 2)))] [(2,.var 128 [jI (out 0),jI (out 1),jI (out 2),jI (out 3),jI (out 4)]),(1,.var 128 [jI 0,jI 0,jI 0,jI 0,jI 0]),(0,.var 119 (catV (cv61 b_HairBook) [.fmp (List.map m124_33 mf)]))] 3 0) ?_
   obtain ⟨p1,hv_13,h⟩:=bsome h
   refine r_iaD trivial rfl rfl (ixL_ok hv_13).1 (row:=e67 p1) (mapget (ixL_ok hv_13).2) ?_
   refine aX 1 (sT [pR 2 0,pR 4 1,pR 5 2,(9,.d (.sl 1 (List.map e3 plan))),(10,jI (plan.length:Int)),(11,jI v),(16,jI p),(18,jI (out j)),(22,.d (.fn 154)),(29,.agg [jI p1.Mane,jI p1.Tail,jI p1.Shade])] [(2,.var 128 [jI (out 0),jI (out 1),jI (out 2),jI (out 3),jI (out 4)]),(1,.var 128 [jI 0,jI 0,jI 0,jI 0,jI 0]),(0,.var 119 (catV (cv61 b_HairBook) [.fmp (List.map m124_33 mf)]))] 3 0) ?_
   obtain ⟨r0_1,hx_14,h⟩:=bsome h
   refine r_callvZ (zr:=[]) trivial rfl (.fn _) (by kernel_rfl) rfl (k154 p1 _ hx_14) trivial ⟨.refl _,trivial⟩ rfl rfl rfl rfl ?_
   refine aX 1 (sT [pR 2 0,pR 4 1,pR 5 2,(9,.d (.sl 1 (List.map e3 plan))),(10,jI (plan.length:Int)),(11,jI v),(16,jI p),(31,jI (wr ((out j)+r0_1)))] [(2,.var 128 [jI (out 0),jI (out 1),jI (out 2),jI (out 3),jI (out 4)]),(1,.var 128 [jI 0,jI 0,jI 0,jI 0,jI 0]),(0,.var 119 (catV (cv61 b_HairBook) [.fmp (List.map m124_33 mf)]))] 3 0) ?_
   obtain ⟨j2,hv_15,h⟩:=bsome h
   refine r_iaV trivial rfl rfl rfl (ixN_ok hv_15).1 (ixN_ok hv_15).2.1 ?_
   refine r_stX trivial rfl rfl rfl rfl rfl (aslot hv_15 rfl) (cs':=[jI ((aset out j2 (wr ((out j)+r0_1))) 0),jI ((aset out j2 (wr ((out j)+r0_1))) 1),jI ((aset out j2 (wr ((out j)+r0_1))) 2),jI ((aset out j2 (wr ((out j)+r0_1))) 3),jI ((aset out j2 (wr ((out j)+r0_1))) 4)]) (ast (w:=out) (c:=fun z=>jI z) hv_15) ?_
   refine Fi (sT [pR 2 0,pR 4 1,pR 5 2,(9,.d (.sl 1 (List.map e3 plan))),(10,jI (plan.length:Int)),(11,jI v)] [(2,.var 128 [jI ((aset out j2 (wr ((out j)+r0_1))) 0),jI ((aset out j2 (wr ((out j)+r0_1))) 1),jI ((aset out j2 (wr ((out j)+r0_1))) 2),jI ((aset out j2 (wr ((out j)+r0_1))) 3),jI ((aset out j2 (wr ((out j)+r0_1))) 4)]),(1,.var 128 [jI 0,jI 0,jI 0,jI 0,jI 0]),(0,.var 119 (catV (cv61 b_HairBook) [.fmp (List.map m124_33 mf)]))] 3 0) ?_
   refine hK_8 _ ?_
   refine Ra (sT [pR 2 0,pR 4 1,pR 5 2,(9,.d (.sl 1 (List.map e3 plan))),(10,jI (plan.length:Int)),(11,jI (wr (v+1)))] [(2,.var 128 [jI ((aset out j2 (wr ((out j)+r0_1))) 0),jI ((aset out j2 (wr ((out j)+r0_1))) 1),jI ((aset out j2 (wr ((out j)+r0_1))) 2),jI ((aset out j2 (wr ((out j)+r0_1))) 3),jI ((aset out j2 (wr ((out j)+r0_1))) 4)]),(1,.var 128 [jI 0,jI 0,jI 0,jI 0,jI 0]),(0,.var 119 (catV (cv61 b_HairBook) [.fmp (List.map m124_33 mf)]))] 3 0) ?_
   obtain rfl:=Option.some.inj h
   have ew:wr (v+1)=v+1:=inext (N:=(plan.length:Int)) (by omega) (by omega) (by omega)
   rw [ew]
   exact hK_5 _ (Can.kp (by kernel_rfl))
  ·refine r_iaF trivial rfl rfl (ixN_ok hv_12).1 (ixN_ok hv_12).2.1 ?_
   refine r_loadF trivial rfl (u:=.fn 161) (by rw [(ixN_ok hv_12).2.2];rfl) ?_
   refine aX 5 (sT [pR 2 0,pR 4 1,pR 5 2,(9,.d (.sl 1 (List.map e3 plan))),(10,jI (plan.length:Int)),(11,jI v),(16,jI p),(18,jI (out j)),(22,.d (.fn 161)),(25,.d (.sl 3 (List.map e67 b_HairBook.Horses))),(27,jI (wr (v.tdiv 2)))] [(2,.var 128 [jI (out 0),jI (out 1),jI (out 2),jI (out 3),jI (out 4)]),(1,.var 128 [jI 0,jI 0,jI 0,jI 0,jI 0]),(0,.var 119 (catV (cv61 b_HairBook) [.fmp (List.map m124_33 mf)]))] 3 0) ?_
   obtain ⟨p2,hv_16,h⟩:=bsome h
   refine r_iaD trivial rfl rfl (ixL_ok hv_16).1 (row:=e67 p2) (mapget (ixL_ok hv_16).2) ?_
   refine aX 1 (sT [pR 2 0,pR 4 1,pR 5 2,(9,.d (.sl 1 (List.map e3 plan))),(10,jI (plan.length:Int)),(11,jI v),(16,jI p),(18,jI (out j)),(22,.d (.fn 161)),(29,.agg [jI p2.Mane,jI p2.Tail,jI p2.Shade])] [(2,.var 128 [jI (out 0),jI (out 1),jI (out 2),jI (out 3),jI (out 4)]),(1,.var 128 [jI 0,jI 0,jI 0,jI 0,jI 0]),(0,.var 119 (catV (cv61 b_HairBook) [.fmp (List.map m124_33 mf)]))] 3 0) ?_
   obtain ⟨r0_2,hx_17,h⟩:=bsome h
   refine r_callvZ (zr:=[]) trivial rfl (.fn _) (by kernel_rfl) rfl (k161 p2 _ hx_17) trivial ⟨.refl _,trivial⟩ rfl rfl rfl rfl ?_
   refine aX 1 (sT [pR 2 0,pR 4 1,pR 5 2,(9,.d (.sl 1 (List.map e3 plan))),(10,jI (plan.length:Int)),(11,jI v),(16,jI p),(31,jI (wr ((out j)+r0_2)))] [(2,.var 128 [jI (out 0),jI (out 1),jI (out 2),jI (out 3),jI (out 4)]),(1,.var 128 [jI 0,jI 0,jI 0,jI 0,jI 0]),(0,.var 119 (catV (cv61 b_HairBook) [.fmp (List.map m124_33 mf)]))] 3 0) ?_
   obtain ⟨j3,hv_18,h⟩:=bsome h
   refine r_iaV trivial rfl rfl rfl (ixN_ok hv_18).1 (ixN_ok hv_18).2.1 ?_
   refine r_stX trivial rfl rfl rfl rfl rfl (aslot hv_18 rfl) (cs':=[jI ((aset out j3 (wr ((out j)+r0_2))) 0),jI ((aset out j3 (wr ((out j)+r0_2))) 1),jI ((aset out j3 (wr ((out j)+r0_2))) 2),jI ((aset out j3 (wr ((out j)+r0_2))) 3),jI ((aset out j3 (wr ((out j)+r0_2))) 4)]) (ast (w:=out) (c:=fun z=>jI z) hv_18) ?_
   refine Fi (sT [pR 2 0,pR 4 1,pR 5 2,(9,.d (.sl 1 (List.map e3 plan))),(10,jI (plan.length:Int)),(11,jI v)] [(2,.var 128 [jI ((aset out j3 (wr ((out j)+r0_2))) 0),jI ((aset out j3 (wr ((out j)+r0_2))) 1),jI ((aset out j3 (wr ((out j)+r0_2))) 2),jI ((aset out j3 (wr ((out j)+r0_2))) 3),jI ((aset out j3 (wr ((out j)+r0_2))) 4)]),(1,.var 128 [jI 0,jI 0,jI 0,jI 0,jI 0]),(0,.var 119 (catV (cv61 b_HairBook) [.fmp (List.map m124_33 mf)]))] 3 0) ?_
   refine hK_8 _ ?_
   refine Ra (sT [pR 2 0,pR 4 1,pR 5 2,(9,.d (.sl 1 (List.map e3 plan))),(10,jI (plan.length:Int)),(11,jI (wr (v+1)))] [(2,.var 128 [jI ((aset out j3 (wr ((out j)+r0_2))) 0),jI ((aset out j3 (wr ((out j)+r0_2))) 1),jI ((aset out j3 (wr ((out j)+r0_2))) 2),jI ((aset out j3 (wr ((out j)+r0_2))) 3),jI ((aset out j3 (wr ((out j)+r0_2))) 4)]),(1,.var 128 [jI 0,jI 0,jI 0,jI 0,jI 0]),(0,.var 119 (catV (cv61 b_HairBook) [.fmp (List.map m124_33 mf)]))] 3 0) ?_
   obtain rfl:=Option.some.inj h
   have ew:wr (v+1)=v+1:=inext (N:=(plan.length:Int)) (by omega) (by omega) (by omega)
   rw [ew]
   exact hK_5 _ (Can.kp (by kernel_rfl))
  ·cases h
 ·subst hout
  refine Sa (sT [pR 2 0,pR 4 1,pR 5 2,(9,.d (.sl 1 (List.map e3 plan))),(10,jI (plan.length:Int)),(11,jI v),(12,.d (.bool (decide (v<(plan.length:Int)))))] [(2,.var 128 [jI (out 0),jI (out 1),jI (out 2),jI (out 3),jI (out 4)]),(1,.var 128 [jI 0,jI 0,jI 0,jI 0,jI 0]),(0,.var 119 (catV (cv61 b_HairBook) [.fmp (List.map m124_33 mf)]))] 3 0) ?_
  refine AW.seqK (fun K_19 hK_19=>?_)
  refine AW.cond rfl (fun hb_20=>False.elim (by have:=of_decide_eq_true hb_20;omega)) (fun hb_20=>?_)
  refine AW.exit ?_
  refine hK_3 _ ?_
  refine Sa (sT [pR 4 1] [(1,.var 128 [jI (out 0),jI (out 1),jI (out 2),jI (out 3),jI (out 4)])] 3 0) ?_
  obtain rfl:=Option.some.inj h
  exact rT hR_0 (.cons (.agg rfl rfl (Nat.le_of_ble_eq_true rfl)) .nil)
def g87 (b_HairBook:HairBook) (mf:List (Hair_dye×Span)) (horse:Int) (mane:Int) (tail:Int):Option Bool:=(g71 b_HairBook mf horse mane tail).bind fun (r0_1,r1_1,r2_1)=>some r2_1
theorem k87 (b_HairBook:HairBook) (mf:List (Hair_dye×Span)) (horse:Int) (mane:Int) (tail:Int) (r:Bool) (h:g87 b_HairBook mf horse mane tail=some r):SCall Tryd.prog Gs 87 [.agg [.d (.sl 4 (List.map e65 b_HairBook.Hanks)),.d (.sl 3 (List.map e67 b_HairBook.Horses)),jI b_HairBook.Dark,jI b_HairBook.Near,jI b_HairBook.Match,.fmp (List.map m124_33 mf)],jI horse,jI mane,jI tail] [] 0 Fr.emp (.d (.bool r)) [] 0 Fr.emp:=by
 unfold g87 at h
 refine SCall.mkK Tryd.func87 c87 rfl rfl (by kernel_rfl) (fun Q_0 hR_0 hN_0=>?_)
 refine Sa (sT [(1,jI horse),(2,jI mane),(3,jI tail),pR 4 0] [(0,.var 119 (catV (cv61 b_HairBook) [.fmp (List.map m124_33 mf)]))] 1 0) ?_
 refine AW.srwK (fun Q_1 hQ_1=>?_)
 refine Au 4 (sT [(13,.agg [.d (.sl 4 (List.map e65 b_HairBook.Hanks)),.d (.sl 3 (List.map e67 b_HairBook.Horses)),jI b_HairBook.Dark,jI b_HairBook.Near,jI b_HairBook.Match,.fmp (List.map m124_33 mf)]),(14,jI horse),(15,jI mane),(16,jI tail)] [] 1 0) ?_
 obtain ⟨⟨r0_1,r1_1,r2_1⟩,hx_2,h⟩:=bsome h
 refine rC (k71 b_HairBook mf horse mane tail _ hx_2) ?_
 refine Au 9 (sT [(11,.d (.bool r2_1))] [] 3 0) ?_
 refine RW.nil (hQ_1 _ ?_)
 refine Sa (sT [(8,.d (.bool r2_1))] [] 3 0) ?_
 obtain rfl:=Option.some.inj h
 exact rT hR_0 (.cons (.tmp rfl) .nil)
def g74_17 (b_HairBook:HairBook) (mf:List (Hair_dye×Span)) (plan:(List Int)):Int→HairHorse→Unit→Option (Ctl (Unit) (Bool)):=fun v1 p1 _=>(ixL plan (wr (2*v1))).bind fun p2=>(ixL plan (wr ((wr (2*v1))+1))).bind fun p3=>(g87 b_HairBook mf v1 p2 p3).bind fun r0=>bif (!r0) then (some (.brk false)) else (some (.next ()))
def g74_5 (r0_3:(Nat→Int)):Int→HairHank→Unit→Option (Ctl (Unit) (Bool)):=fun v p _=>(ixN 5 v).bind fun j=>bif (decide (p.Weight.Low<(r0_3 j))) then (some (.brk false)) else (some (.next ()))
def g74 (b_HairBook:HairBook) (mf:List (Hair_dye×Span)) (plan:(List Int)):Option Bool:=(g76 b_HairBook mf plan).bind fun r0_3=>bindC (eachC (g74_5 r0_3) b_HairBook.Hanks 0 ()) fun _=>bindC (eachC (g74_17 b_HairBook mf plan) b_HairBook.Horses 0 ()) fun _=>some true
theorem k74 (b_HairBook:HairBook) (mf:List (Hair_dye×Span)) (plan:(List Int)) (r:Bool) (h:g74 b_HairBook mf plan=some r):SCall Tryd.prog Gs 74 [.agg [.d (.sl 4 (List.map e65 b_HairBook.Hanks)),.d (.sl 3 (List.map e67 b_HairBook.Horses)),jI b_HairBook.Dark,jI b_HairBook.Near,jI b_HairBook.Match,.fmp (List.map m124_33 mf)],.d (.sl 1 (List.map e3 plan))] [] 0 Fr.emp (.d (.bool r)) [] 0 Fr.emp:=by
 unfold g74 at h
 refine SCall.mkK Tryd.func74 c74 rfl rfl (by kernel_rfl) (fun Q_0 hR_0 hN_0=>?_)
 refine Sa (sT [(1,.d (.sl 1 (List.map e3 plan))),pR 2 0] [(0,.var 119 (catV (cv61 b_HairBook) [.fmp (List.map m124_33 mf)]))] 1 0) ?_
 refine AW.srwK (fun Q_1 hQ_1=>?_)
 refine Au 2 (sT [(1,.d (.sl 1 (List.map e3 plan))),pR 2 0,(9,.agg [.d (.sl 4 (List.map e65 b_HairBook.Hanks)),.d (.sl 3 (List.map e67 b_HairBook.Horses)),jI b_HairBook.Dark,jI b_HairBook.Near,jI b_HairBook.Match,.fmp (List.map m124_33 mf)]),(10,.d (.sl 1 (List.map e3 plan)))] [(0,.var 119 (catV (cv61 b_HairBook) [.fmp (List.map m124_33 mf)]))] 1 0) ?_
 obtain ⟨r0_3,hx_2,h⟩:=bsome h
 refine rC (k76 b_HairBook mf plan _ hx_2) ?_
 refine Au 2 (sT [(1,.d (.sl 1 (List.map e3 plan))),pR 2 0,pR 5 1] [(1,.var 128 [jI (r0_3 0),jI (r0_3 1),jI (r0_3 2),jI (r0_3 3),jI (r0_3 4)]),(0,.var 119 (catV (cv61 b_HairBook) [.fmp (List.map m124_33 mf)]))] 2 0) ?_
 refine RW.nil (hQ_1 _ ?_)
 refine AW.seqK fun K_3 hK_3=>AW.srwK fun Q_4 hQ_4=>?_
 refine Au 3 (sT [(1,.d (.sl 1 (List.map e3 plan))),pR 2 0,pR 5 1,(14,.d (.sl 4 (List.map e65 b_HairBook.Hanks)))] [(1,.var 128 [jI (r0_3 0),jI (r0_3 1),jI (r0_3 2),jI (r0_3 3),jI (r0_3 4)]),(0,.var 119 (catV (cv61 b_HairBook) [.fmp (List.map m124_33 mf)]))] 2 0) ?_
 refine rL rfl ?_
 refine Au 1 (sT [(1,.d (.sl 1 (List.map e3 plan))),pR 2 0,pR 5 1,(14,.d (.sl 4 (List.map e65 b_HairBook.Hanks))),(15,jI (b_HairBook.Hanks.length:Int)),(16,jI 0)] [(1,.var 128 [jI (r0_3 0),jI (r0_3 1),jI (r0_3 2),jI (r0_3 3),jI (r0_3 4)]),(0,.var 119 (catV (cv61 b_HairBook) [.fmp (List.map m124_33 mf)]))] 2 0) ?_
 refine RW.nil (hQ_4 _ ?_)
 refine AW.block ?_
 refine AW.sln (t:=14) rfl (fun hN_5=>?_)
 rw [List.length_map] at hN_5
 obtain ⟨out_5,hx_5,hk_5⟩:=bsomeC h
 refine AW.evCK (fun (v:Int) (_:Unit)=>(sT [(1,.d (.sl 1 (List.map e3 plan))),pR 2 0,pR 5 1,(14,.d (.sl 4 (List.map e65 b_HairBook.Hanks))),(15,jI (b_HairBook.Hanks.length:Int)),(16,jI v)] [(1,.var 128 [jI (r0_3 0),jI (r0_3 1),jI (r0_3 2),jI (r0_3 3),jI (r0_3 4)]),(0,.var 119 (catV (cv61 b_HairBook) [.fmp (List.map m124_33 mf)]))] 2 0)) (g74_5 r0_3) hx_5 (Can.kp (by kernel_rfl)) (fun v p s_5 hi_5 hl_5 hp_5 c_5 h hb_5 K_5 hK_5=>?_) (fun v s_5 hi_5 hl_5 hout=>?_)
 ·unfold g74_5 at h
  refine Sa (sT [(1,.d (.sl 1 (List.map e3 plan))),pR 2 0,pR 5 1,(14,.d (.sl 4 (List.map e65 b_HairBook.Hanks))),(15,jI (b_HairBook.Hanks.length:Int)),(16,jI v),(17,.d (.bool (decide (v<(b_HairBook.Hanks.length:Int)))))] [(1,.var 128 [jI (r0_3 0),jI (r0_3 1),jI (r0_3 2),jI (r0_3 3),jI (r0_3 4)]),(0,.var 119 (catV (cv61 b_HairBook) [.fmp (List.map m124_33 mf)]))] 2 0) ?_
  refine AW.seqK (fun K_6 hK_6=>?_)
  refine AW.cond rfl (fun hb_7=>?_) (fun hb_7=>False.elim (by have:=of_decide_eq_false hb_7;omega))
  refine AW.skip (hK_6 _ ?_)
  refine AW.seqK (fun K_8 hK_8=>?_)
  refine AW.block ?_
  refine AW.srwK (fun Q_9 hQ_9=>?_)
  refine Au 1 (sT [(1,.d (.sl 1 (List.map e3 plan))),pR 2 0,pR 5 1,(14,.d (.sl 4 (List.map e65 b_HairBook.Hanks))),(15,jI (b_HairBook.Hanks.length:Int)),(16,jI v),(18,jI v)] [(1,.var 128 [jI (r0_3 0),jI (r0_3 1),jI (r0_3 2),jI (r0_3 3),jI (r0_3 4)]),(0,.var 119 (catV (cv61 b_HairBook) [.fmp (List.map m124_33 mf)]))] 2 0) ?_
  refine RW.one fokW (r_iaD trivial rfl rfl hi_5 (row:=e65 p) (mapget hp_5) (r_end ?_))
  refine Au 4 (sT [(1,.d (.sl 1 (List.map e3 plan))),pR 2 0,pR 5 1,(6,jI v),pR 7 2,(14,.d (.sl 4 (List.map e65 b_HairBook.Hanks))),(15,jI (b_HairBook.Hanks.length:Int)),(16,jI v)] [(2,.var 65 (cv65 p)),(1,.var 128 [jI (r0_3 0),jI (r0_3 1),jI (r0_3 2),jI (r0_3 3),jI (r0_3 4)]),(0,.var 119 (catV (cv61 b_HairBook) [.fmp (List.map m124_33 mf)]))] 3 0) ?_
  refine RW.nil (hQ_9 _ ?_)
  refine AW.sdrwK fokW (fun Q_10 hQ_10=>?_)
  refine aX 1 (sT [(1,.d (.sl 1 (List.map e3 plan))),pR 2 0,pR 5 1,pR 7 2,(14,.d (.sl 4 (List.map e65 b_HairBook.Hanks))),(15,jI (b_HairBook.Hanks.length:Int)),(16,jI v),(21,jI v)] [(2,.var 65 (cv65 p)),(1,.var 128 [jI (r0_3 0),jI (r0_3 1),jI (r0_3 2),jI (r0_3 3),jI (r0_3 4)]),(0,.var 119 (catV (cv61 b_HairBook) [.fmp (List.map m124_33 mf)]))] 3 0) ?_
  obtain ⟨j,hv_11,h⟩:=bsome h
  refine r_iaV trivial rfl rfl rfl (ixN_ok hv_11).1 (ixN_ok hv_11).2.1 ?_
  refine r_loadV trivial rfl rfl (u:=jI (r0_3 j)) (agt (f:=fun k=>jI (r0_3 k)) hv_11) ?_
  refine aX 4 (sT [(1,.d (.sl 1 (List.map e3 plan))),pR 2 0,pR 5 1,(14,.d (.sl 4 (List.map e65 b_HairBook.Hanks))),(15,jI (b_HairBook.Hanks.length:Int)),(16,jI v),(27,.d (.bool (decide (p.Weight.Low<(r0_3 j)))))] [(2,.var 65 (cv65 p)),(1,.var 128 [jI (r0_3 0),jI (r0_3 1),jI (r0_3 2),jI (r0_3 3),jI (r0_3 4)]),(0,.var 119 (catV (cv61 b_HairBook) [.fmp (List.map m124_33 mf)]))] 3 0) ?_
  refine Fi (sT [(1,.d (.sl 1 (List.map e3 plan))),pR 2 0,pR 5 1,(14,.d (.sl 4 (List.map e65 b_HairBook.Hanks))),(15,jI (b_HairBook.Hanks.length:Int)),(16,jI v),(27,.d (.bool (decide (p.Weight.Low<(r0_3 j)))))] [(1,.var 128 [jI (r0_3 0),jI (r0_3 1),jI (r0_3 2),jI (r0_3 3),jI (r0_3 4)]),(0,.var 119 (catV (cv61 b_HairBook) [.fmp (List.map m124_33 mf)]))] 3 0) ?_
  refine hQ_10 _ ?_
  refine AW.cond rfl (fun hb_12=>?_) (fun hb_12=>?_)
  ·have h:=ifT hb_12 h
   refine Sa (sT [(4,.d (.bool false))] [] 3 0) ?_
   obtain rfl:=Option.some.inj h
   have e_1:=hb_5 _ rfl
   subst e_1
   obtain rfl:=Aft.bk hk_5
   exact rT hR_0 (.cons (.tmp rfl) .nil)
  ·have h:=ifF hb_12 h
   refine AW.skip (hK_8 _ ?_)
   refine Ra (sT [(1,.d (.sl 1 (List.map e3 plan))),pR 2 0,pR 5 1,(14,.d (.sl 4 (List.map e65 b_HairBook.Hanks))),(15,jI (b_HairBook.Hanks.length:Int)),(16,jI (wr (v+1)))] [(1,.var 128 [jI (r0_3 0),jI (r0_3 1),jI (r0_3 2),jI (r0_3 3),jI (r0_3 4)]),(0,.var 119 (catV (cv61 b_HairBook) [.fmp (List.map m124_33 mf)]))] 3 0) ?_
   obtain rfl:=Option.some.inj h
   have ew:wr (v+1)=v+1:=inext (N:=(b_HairBook.Hanks.length:Int)) (by omega) (by omega) (by omega)
   rw [ew]
   exact hK_5 _ _ rfl (Can.kp (by kernel_rfl))
 ·subst hout
  have h:=Aft.nx hk_5
  refine Sa (sT [(1,.d (.sl 1 (List.map e3 plan))),pR 2 0,pR 5 1,(14,.d (.sl 4 (List.map e65 b_HairBook.Hanks))),(15,jI (b_HairBook.Hanks.length:Int)),(16,jI v),(17,.d (.bool (decide (v<(b_HairBook.Hanks.length:Int)))))] [(1,.var 128 [jI (r0_3 0),jI (r0_3 1),jI (r0_3 2),jI (r0_3 3),jI (r0_3 4)]),(0,.var 119 (catV (cv61 b_HairBook) [.fmp (List.map m124_33 mf)]))] 2 0) ?_
  refine AW.seqK (fun K_13 hK_13=>?_)
  refine AW.cond rfl (fun hb_14=>False.elim (by have:=of_decide_eq_true hb_14;omega)) (fun hb_14=>?_)
  refine AW.exit ?_
  refine hK_3 _ ?_
  refine AW.seqK fun K_15 hK_15=>AW.srwK fun Q_16 hQ_16=>?_
  refine Au 3 (sT [(1,.d (.sl 1 (List.map e3 plan))),pR 2 0,(31,.d (.sl 3 (List.map e67 b_HairBook.Horses)))] [(0,.var 119 (catV (cv61 b_HairBook) [.fmp (List.map m124_33 mf)]))] 2 0) ?_
  refine rL rfl ?_
  refine Au 1 (sT [(1,.d (.sl 1 (List.map e3 plan))),pR 2 0,(32,jI (b_HairBook.Horses.length:Int)),(33,jI 0)] [(0,.var 119 (catV (cv61 b_HairBook) [.fmp (List.map m124_33 mf)]))] 2 0) ?_
  refine RW.nil (hQ_16 _ ?_)
  refine AW.block ?_
  refine AW.slh (r:=0) (off:=1) rfl rfl (fun hN_17=>?_)
  rw [List.length_map] at hN_17
  obtain ⟨out_17,hx_17,hk_17⟩:=bsomeC h
  refine AW.evCK (fun (v1:Int) (_:Unit)=>(sT [(1,.d (.sl 1 (List.map e3 plan))),pR 2 0,(32,jI (b_HairBook.Horses.length:Int)),(33,jI v1)] [(0,.var 119 (catV (cv61 b_HairBook) [.fmp (List.map m124_33 mf)]))] 2 0)) (g74_17 b_HairBook mf plan) hx_17 (Can.kp (by kernel_rfl)) (fun v1 p1 s_17 hi_17 hl_17 hp_17 c_17 h hb_17 K_17 hK_17=>?_) (fun v1 s_17 hi_17 hl_17 hout=>?_)
  ·unfold g74_17 at h
   refine Sa (sT [(1,.d (.sl 1 (List.map e3 plan))),pR 2 0,(32,jI (b_HairBook.Horses.length:Int)),(33,jI v1),(34,.d (.bool (decide (v1<(b_HairBook.Horses.length:Int)))))] [(0,.var 119 (catV (cv61 b_HairBook) [.fmp (List.map m124_33 mf)]))] 2 0) ?_
   refine AW.seqK (fun K_18 hK_18=>?_)
   refine AW.cond rfl (fun hb_19=>?_) (fun hb_19=>False.elim (by have:=of_decide_eq_false hb_19;omega))
   refine AW.skip (hK_18 _ ?_)
   refine AW.seqK (fun K_20 hK_20=>?_)
   refine AW.block ?_
   refine Sa (sT [(1,.d (.sl 1 (List.map e3 plan))),pR 2 0,(8,jI v1),(32,jI (b_HairBook.Horses.length:Int)),(33,jI v1)] [(0,.var 119 (catV (cv61 b_HairBook) [.fmp (List.map m124_33 mf)]))] 2 0) ?_
   refine AW.sdrwK fokW (fun Q_21 hQ_21=>?_)
   refine aX 5 (sT [(1,.d (.sl 1 (List.map e3 plan))),pR 2 0,(8,jI v1),(32,jI (b_HairBook.Horses.length:Int)),(33,jI v1),(36,.agg [.d (.sl 4 (List.map e65 b_HairBook.Hanks)),.d (.sl 3 (List.map e67 b_HairBook.Horses)),jI b_HairBook.Dark,jI b_HairBook.Near,jI b_HairBook.Match,.fmp (List.map m124_33 mf)]),(37,jI v1),(38,.d (.sl 1 (List.map e3 plan))),(40,jI (wr (2*v1)))] [(0,.var 119 (catV (cv61 b_HairBook) [.fmp (List.map m124_33 mf)]))] 2 0) ?_
   obtain ⟨p2,hv_22,h⟩:=bsome h
   refine r_iaD trivial rfl rfl (ixL_ok hv_22).1 (row:=e3 p2) (mapget (ixL_ok hv_22).2) ?_
   refine aX 5 (sT [(1,.d (.sl 1 (List.map e3 plan))),pR 2 0,(32,jI (b_HairBook.Horses.length:Int)),(33,jI v1),(36,.agg [.d (.sl 4 (List.map e65 b_HairBook.Hanks)),.d (.sl 3 (List.map e67 b_HairBook.Horses)),jI b_HairBook.Dark,jI b_HairBook.Near,jI b_HairBook.Match,.fmp (List.map m124_33 mf)]),(37,jI v1),(42,jI p2),(43,.d (.sl 1 (List.map e3 plan))),(46,jI (wr ((wr (2*v1))+1)))] [(0,.var 119 (catV (cv61 b_HairBook) [.fmp (List.map m124_33 mf)]))] 2 0) ?_
   obtain ⟨p3,hv_23,h⟩:=bsome h
   refine r_iaD trivial rfl rfl (ixL_ok hv_23).1 (row:=e3 p3) (mapget (ixL_ok hv_23).2) ?_
   refine aX 1 (sT [(1,.d (.sl 1 (List.map e3 plan))),pR 2 0,(32,jI (b_HairBook.Horses.length:Int)),(33,jI v1),(36,.agg [.d (.sl 4 (List.map e65 b_HairBook.Hanks)),.d (.sl 3 (List.map e67 b_HairBook.Horses)),jI b_HairBook.Dark,jI b_HairBook.Near,jI b_HairBook.Match,.fmp (List.map m124_33 mf)]),(37,jI v1),(42,jI p2),(48,jI p3)] [(0,.var 119 (catV (cv61 b_HairBook) [.fmp (List.map m124_33 mf)]))] 2 0) ?_
   obtain ⟨r0,hx_24,h⟩:=bsome h
   refine r_call trivial rfl (k87 b_HairBook mf v1 p2 p3 _ hx_24) rfl rfl ?_
   refine aX 1 (sT [(1,.d (.sl 1 (List.map e3 plan))),pR 2 0,(32,jI (b_HairBook.Horses.length:Int)),(33,jI v1),(50,.d (.bool (!r0)))] [(0,.var 119 (catV (cv61 b_HairBook) [.fmp (List.map m124_33 mf)]))] 2 0) ?_
   refine Fi (sT [(1,.d (.sl 1 (List.map e3 plan))),pR 2 0,(32,jI (b_HairBook.Horses.length:Int)),(33,jI v1),(50,.d (.bool (!r0)))] [(0,.var 119 (catV (cv61 b_HairBook) [.fmp (List.map m124_33 mf)]))] 2 0) ?_
   refine hQ_21 _ ?_
   refine AW.cond rfl (fun hb_25=>?_) (fun hb_25=>?_)
   ·have h:=ifT hb_25 h
    refine Sa (sT [(4,.d (.bool false))] [] 2 0) ?_
    obtain rfl:=Option.some.inj h
    have e_1:=hb_17 _ rfl
    subst e_1
    obtain rfl:=Aft.bk hk_17
    exact rT hR_0 (.cons (.tmp rfl) .nil)
   ·have h:=ifF hb_25 h
    refine AW.skip (hK_20 _ ?_)
    refine Ra (sT [(1,.d (.sl 1 (List.map e3 plan))),pR 2 0,(32,jI (b_HairBook.Horses.length:Int)),(33,jI (wr (v1+1)))] [(0,.var 119 (catV (cv61 b_HairBook) [.fmp (List.map m124_33 mf)]))] 2 0) ?_
    obtain rfl:=Option.some.inj h
    have ew:wr (v1+1)=v1+1:=inext (N:=(b_HairBook.Horses.length:Int)) (by omega) (by omega) (by omega)
    rw [ew]
    exact hK_17 _ _ rfl (Can.kp (by kernel_rfl))
  ·subst hout
   have h:=Aft.nx hk_17
   refine Sa (sT [(1,.d (.sl 1 (List.map e3 plan))),pR 2 0,(32,jI (b_HairBook.Horses.length:Int)),(33,jI v1),(34,.d (.bool (decide (v1<(b_HairBook.Horses.length:Int)))))] [(0,.var 119 (catV (cv61 b_HairBook) [.fmp (List.map m124_33 mf)]))] 2 0) ?_
   refine AW.seqK (fun K_26 hK_26=>?_)
   refine AW.cond rfl (fun hb_27=>False.elim (by have:=of_decide_eq_true hb_27;omega)) (fun hb_27=>?_)
   refine AW.exit ?_
   refine hK_15 _ ?_
   refine Sa (sT [(4,.d (.bool true))] [] 2 0) ?_
   obtain rfl:=Option.some.inj h
   exact rT hR_0 (.cons (.tmp rfl) .nil)
def g28 (x:HairBook) (plan:(List Int)):Option (Bool×Int):=(g67a x plan).bind fun r_10=>match r_10 with | .next (r0_HairBook4,r1_1)=>(must (decide (r1_1≠0))).bind fun _=>some (false,r1_1) | .brk (r0_HairBook5,mf2,r1_2)=>bif (decide (r1_2≠0)) then (some (false,r1_2)) else ((g74 r0_HairBook5 mf2 plan).bind fun r0_4=>some (r0_4,0))
theorem k28 (x:HairBook) (plan:(List Int)) (r:Bool×Int) (h:g28 x plan=some r):SCall Tryd.prog Gs 28 [.agg [.d (.sl 4 (List.map e65 x.Hanks)),.d (.sl 3 (List.map e67 x.Horses)),jI x.Dark,jI x.Near,jI x.Match],.d (.sl 1 (List.map e3 plan))] [] 0 Fr.emp (match r with | (r0_2,r1_4)=>.tup [.d (.bool r0_2),jI r1_4]) [] 0 Fr.emp:=by
 unfold g28 at h
 refine SCall.mkK Tryd.func28 c28 rfl rfl (by kernel_rfl) (fun Q_0 hR_0 hN_0=>?_)
 refine Sa (sT [pR 2 0,pR 3 1] [(1,.var 51 [.d (.sl 1 (List.map e3 plan))]),(0,.var 61 (cv61 x))] 2 0) ?_
 refine AW.srwK (fun Q_1 hQ_1=>?_)
 refine Au 2 (sT [pR 3 1,(9,.agg [.d (.sl 4 (List.map e65 x.Hanks)),.d (.sl 3 (List.map e67 x.Horses)),jI x.Dark,jI x.Near,jI x.Match]),(10,.clo 72 [] [.ptr 1 0])] [(1,.var 51 [.d (.sl 1 (List.map e3 plan))])] 2 0) ?_
 obtain ⟨r_10,hx_2,h⟩:=bsome h
 rcases r_10 with (⟨r0_HairBook4,r1_1⟩ | (⟨r0_HairBook5,mf2,r1_2⟩))
 ·refine RW.one fokW (r_callS (zr:=[]) [1] trivial rfl (k67a x plan _ hx_2) ⟨rfl,trivial⟩ rfl rfl ⟨.refl _,.refl _,trivial⟩ rfl rfl rfl (r_end ?_))
  obtain ⟨_,hv_3,h⟩:=bsome h
  have hf_4:=must_ok hv_3
  refine Au 6 (sT [pR 3 1,pR 6 2,(7,jI r1_1)] [(2,.var 119 (catV (cv61 r0_HairBook4) [.d (.nilMap)])),(1,.var 51 [.d (.sl 1 (List.map e3 plan))])] 3 0) ?_
  refine RW.nil (hQ_1 _ ?_)
  refine AW.seqK (fun K_5 hK_5=>?_)
  refine Sa (sT [pR 3 1,pR 6 2,(7,jI r1_1),(15,.d (.bool (decide (r1_1≠0))))] [(2,.var 119 (catV (cv61 r0_HairBook4) [.d (.nilMap)])),(1,.var 51 [.d (.sl 1 (List.map e3 plan))])] 3 0) ?_
  refine AW.cond rfl (fun hb_6=>?_) (fun hb_6=>False.elim (by rw [hf_4] at hb_6;cases hb_6))
  refine Sa (sT [(4,.d (.bool false)),(5,jI r1_1)] [] 3 0) ?_
  obtain rfl:=Option.some.inj h
  exact rT hR_0 (.cons (.tmp rfl) (.cons (.tmp rfl) .nil))
 ·refine RW.one fokW (r_callS (zr:=[]) [1] trivial rfl (k67a x plan _ hx_2) ⟨rfl,trivial⟩ rfl rfl ⟨.refl _,.refl _,trivial⟩ rfl rfl rfl (r_end ?_))
  refine Au 6 (sT [pR 3 1,pR 6 2,(7,jI r1_2)] [(2,.var 119 (catV (cv61 r0_HairBook5) [.fmp (List.map m124_33 mf2)])),(1,.var 51 [.d (.sl 1 (List.map e3 plan))])] 3 0) ?_
  refine RW.nil (hQ_1 _ ?_)
  refine AW.seqK (fun K_7 hK_7=>?_)
  refine Sa (sT [pR 3 1,pR 6 2,(7,jI r1_2),(15,.d (.bool (decide (r1_2≠0))))] [(2,.var 119 (catV (cv61 r0_HairBook5) [.fmp (List.map m124_33 mf2)])),(1,.var 51 [.d (.sl 1 (List.map e3 plan))])] 3 0) ?_
  refine AW.cond rfl (fun hb_8=>?_) (fun hb_8=>?_)
  ·have h:=ifT hb_8 h
   refine Sa (sT [(4,.d (.bool false)),(5,jI r1_2)] [] 3 0) ?_
   obtain rfl:=Option.some.inj h
   exact rT hR_0 (.cons (.tmp rfl) (.cons (.tmp rfl) .nil))
  ·have h:=ifF hb_8 h
   refine AW.skip (hK_7 _ ?_)
   refine AW.srwK (fun Q_9 hQ_9=>?_)
   refine Au 2 (sT [(17,.agg [.d (.sl 4 (List.map e65 r0_HairBook5.Hanks)),.d (.sl 3 (List.map e67 r0_HairBook5.Horses)),jI r0_HairBook5.Dark,jI r0_HairBook5.Near,jI r0_HairBook5.Match,.fmp (List.map m124_33 mf2)]),(18,.d (.sl 1 (List.map e3 plan)))] [] 3 0) ?_
   obtain ⟨r0_4,hx_10,h⟩:=bsome h
   refine rC (k74 r0_HairBook5 mf2 plan _ hx_10) ?_
   refine Au 2 (sT [(4,.d (.bool r0_4)),(5,jI 0)] [] 3 0) ?_
   refine RW.nil (hQ_9 _ ?_)
   obtain rfl:=Option.some.inj h
   exact rT hR_0 (.cons (.tmp rfl) (.cons (.tmp rfl) .nil))
def g75 (b_HairBook:HairBook) (mf:List (Hair_dye×Span)) (o0:(List Int)) (o1:Int):Option Bool:=(g73 b_HairBook mf o0).bind fun r0_1=>(bif r0_1 then ((g74 b_HairBook mf o0).bind fun r0_4=>some r0_4) else (some false)).bind fun v=>(bif v then ((g70 b_HairBook mf o1).bind fun r0_1_1=>some r0_1_1) else (some false)).bind fun v1=>some v1
theorem k75 (b_HairBook:HairBook) (mf:List (Hair_dye×Span)) (o0:(List Int)) (o1:Int) (r:Bool) (h:g75 b_HairBook mf o0 o1=some r):SCall Tryd.prog Gs 75 [.agg [.d (.sl 4 (List.map e65 b_HairBook.Hanks)),.d (.sl 3 (List.map e67 b_HairBook.Horses)),jI b_HairBook.Dark,jI b_HairBook.Near,jI b_HairBook.Match,.fmp (List.map m124_33 mf)],.ptr 0 0,.ptr 1 0] [(0,.var 51 [.d (.sl 1 (List.map e3 o0))]),(1,.var 3 [jI o1])] 2 Fr.emp (.d (.bool r)) [(0,.var 51 [.d (.sl 1 (List.map e3 o0))]),(1,.var 3 [jI o1])] 2 Fr.emp:=by
 unfold g75 at h
 refine SCall.mkK Tryd.func75 c75 rfl rfl (by kernel_rfl) (fun Q_0 hR_0 hN_0=>?_)
 refine Sa (sT [pR 1 0,pR 2 1,pR 3 2] [(2,.var 119 (catV (cv61 b_HairBook) [.fmp (List.map m124_33 mf)])),(0,.var 51 [.d (.sl 1 (List.map e3 o0))]),(1,.var 3 [jI o1])] 3 2) ?_
 refine AW.srwK (fun Q_1 hQ_1=>?_)
 refine Au 2 (sT [pR 1 0,pR 2 1,pR 3 2,(5,.agg [.d (.sl 4 (List.map e65 b_HairBook.Hanks)),.d (.sl 3 (List.map e67 b_HairBook.Horses)),jI b_HairBook.Dark,jI b_HairBook.Near,jI b_HairBook.Match,.fmp (List.map m124_33 mf)]),(6,.d (.sl 1 (List.map e3 o0)))] [(2,.var 119 (catV (cv61 b_HairBook) [.fmp (List.map m124_33 mf)])),(0,.var 51 [.d (.sl 1 (List.map e3 o0))]),(1,.var 3 [jI o1])] 3 2) ?_
 obtain ⟨r0_1,hx_2,h⟩:=bsome h
 refine rC (k73 b_HairBook mf o0 _ hx_2) ?_
 refine Au 1 (sT [pR 1 0,pR 2 1,pR 3 2,(8,.d (.bool r0_1))] [(2,.var 119 (catV (cv61 b_HairBook) [.fmp (List.map m124_33 mf)])),(0,.var 51 [.d (.sl 1 (List.map e3 o0))]),(1,.var 3 [jI o1])] 3 2) ?_
 obtain ⟨v,hx_3,h⟩:=bsome h
 refine RW.cut fokW 4 ((sT [pR 2 1,pR 3 2,(12,.d (.bool v))] [(2,.var 119 (catV (cv61 b_HairBook) [.fmp (List.map m124_33 mf)])),(0,.var 51 [.d (.sl 1 (List.map e3 o0))]),(1,.var 3 [jI o1])] 3 2)) ?_ ?_
 ·refine r_split 8 rfl (fun hb_5=>?_) (fun hb_5=>?_)
  ·have h:=ifT hb_5 hx_3
   refine aX 2 (sT [pR 2 1,pR 3 2,(8,.d (.bool true)),(9,.agg [.d (.sl 4 (List.map e65 b_HairBook.Hanks)),.d (.sl 3 (List.map e67 b_HairBook.Horses)),jI b_HairBook.Dark,jI b_HairBook.Near,jI b_HairBook.Match,.fmp (List.map m124_33 mf)]),(10,.d (.sl 1 (List.map e3 o0)))] [(2,.var 119 (catV (cv61 b_HairBook) [.fmp (List.map m124_33 mf)])),(0,.var 51 [.d (.sl 1 (List.map e3 o0))]),(1,.var 3 [jI o1])] 3 2) ?_
   obtain ⟨r0_4,hx_4,h⟩:=bsome h
   refine r_call rfl rfl (k74 b_HairBook mf o0 _ hx_4) rfl rfl ?_
   refine aX 1 (sT [pR 2 1,pR 3 2,(12,.d (.bool r0_4))] [(2,.var 119 (catV (cv61 b_HairBook) [.fmp (List.map m124_33 mf)])),(0,.var 51 [.d (.sl 1 (List.map e3 o0))]),(1,.var 3 [jI o1])] 3 2) ?_
   obtain rfl:=Option.some.inj h
   refine RunC.finJ (Can.kp (by kernel_rfl))
  ·have h:=ifF hb_5 hx_3
   refine aX 4 (sT [pR 2 1,pR 3 2,(12,.d (.bool false))] [(2,.var 119 (catV (cv61 b_HairBook) [.fmp (List.map m124_33 mf)])),(0,.var 51 [.d (.sl 1 (List.map e3 o0))]),(1,.var 3 [jI o1])] 3 2) ?_
   obtain rfl:=Option.some.inj h
   refine RunC.finJ (Can.kp (by kernel_rfl))
 ·refine Au 1 (sT [pR 2 1,pR 3 2,(13,.d (.bool v))] [(2,.var 119 (catV (cv61 b_HairBook) [.fmp (List.map m124_33 mf)])),(0,.var 51 [.d (.sl 1 (List.map e3 o0))]),(1,.var 3 [jI o1])] 3 2) ?_
  obtain ⟨v1,hx_6,h⟩:=bsome h
  refine RW.cut fokW 4 ((sT [(17,.d (.bool v1))] [(0,.var 51 [.d (.sl 1 (List.map e3 o0))]),(1,.var 3 [jI o1])] 3 2)) ?_ ?_
  ·refine r_split 13 rfl (fun hb_8=>?_) (fun hb_8=>?_)
   ·have h:=ifT hb_8 hx_6
    refine aX 2 (sT [(13,.d (.bool true)),(14,.agg [.d (.sl 4 (List.map e65 b_HairBook.Hanks)),.d (.sl 3 (List.map e67 b_HairBook.Horses)),jI b_HairBook.Dark,jI b_HairBook.Near,jI b_HairBook.Match,.fmp (List.map m124_33 mf)]),(15,jI o1)] [(2,.var 119 (catV (cv61 b_HairBook) [.fmp (List.map m124_33 mf)])),(0,.var 51 [.d (.sl 1 (List.map e3 o0))]),(1,.var 3 [jI o1])] 3 2) ?_
    obtain ⟨r0_1_1,hx_7,h⟩:=bsome h
    refine r_call rfl rfl (k70 b_HairBook mf o1 _ hx_7) rfl rfl ?_
    refine aX 1 (sT [(17,.d (.bool r0_1_1))] [(2,.var 119 (catV (cv61 b_HairBook) [.fmp (List.map m124_33 mf)])),(0,.var 51 [.d (.sl 1 (List.map e3 o0))]),(1,.var 3 [jI o1])] 3 2) ?_
    obtain rfl:=Option.some.inj h
    refine RunC.finJ (Can.kp (by kernel_rfl))
   ·have h:=ifF hb_8 hx_6
    refine aX 4 (sT [(17,.d (.bool false))] [(2,.var 119 (catV (cv61 b_HairBook) [.fmp (List.map m124_33 mf)])),(0,.var 51 [.d (.sl 1 (List.map e3 o0))]),(1,.var 3 [jI o1])] 3 2) ?_
    obtain rfl:=Option.some.inj h
    refine RunC.finJ (Can.kp (by kernel_rfl))
  ·refine Au 1 (sT [(4,.d (.bool v1))] [(0,.var 51 [.d (.sl 1 (List.map e3 o0))]),(1,.var 3 [jI o1])] 3 2) ?_
   refine RW.nil (hQ_1 _ ?_)
   obtain rfl:=Option.some.inj h
   exact rT hR_0 (.cons (.tmp rfl) .nil)
def g67b (x:HairBook) (o0:(List Int)) (o1:Int):Option (Ctl (HairBook×Int) (HairBook×(List (Hair_dye×Span))×Int)):=(g35 x).bind fun r0_9=>bif (decide (r0_9≠0)) then (some (.next ((HairBook.mk [] [] 0 0 0),r0_9))) else ((g81 x).bind fun (r0_HairBook,mf)=>(g75 r0_HairBook mf o0 o1).bind fun r0=>bif (!r0) then (some (.brk (r0_HairBook,mf,61))) else (some (.brk (r0_HairBook,mf,0))))
def y2 (o0:(List Int)) (o1:Int):List (Nat×Blk):=[(3,.var 119 [.d (.nilSl),.d (.nilSl),jI 0,jI 0,jI 0,.d (.nilMap)]),(0,.var 51 [.d (.sl 1 (List.map e3 o0))]),(1,.var 3 [jI o1])]
theorem k67b (x:HairBook) (o0:(List Int)) (o1:Int) (r:Ctl (HairBook×Int) (HairBook×(List (Hair_dye×Span))×Int)) (h:g67b x o0 o1=some r):SCall Tryd.prog Gs 67 [.agg [.d (.sl 4 (List.map e65 x.Hanks)),.d (.sl 3 (List.map e67 x.Horses)),jI x.Dark,jI x.Near,jI x.Match],.clo 75 [] [.ptr 0 0,.ptr 1 0]] [(0,.var 51 [.d (.sl 1 (List.map e3 o0))]),(1,.var 3 [jI o1])] 2 Fr.emp (match r with | .next (r0_HairBook4,r1_1)=>.tup [.agg [.d (.sl 4 (List.map e65 r0_HairBook4.Hanks)),.d (.sl 3 (List.map e67 r0_HairBook4.Horses)),jI r0_HairBook4.Dark,jI r0_HairBook4.Near,jI r0_HairBook4.Match,.d (.nilMap)],jI r1_1] | .brk (r0_HairBook5,mf2,r1_2)=>.tup [.agg [.d (.sl 4 (List.map e65 r0_HairBook5.Hanks)),.d (.sl 3 (List.map e67 r0_HairBook5.Horses)),jI r0_HairBook5.Dark,jI r0_HairBook5.Near,jI r0_HairBook5.Match,.fmp (List.map m124_33 mf2)],jI r1_2]) (match r with | .next (r0_HairBook4,r1_1)=>[(0,.var 51 [.d (.sl 1 (List.map e3 o0))]),(1,.var 3 [jI o1])] | .brk (r0_HairBook5,mf2,r1_2)=>[(0,.var 51 [.d (.sl 1 (List.map e3 o0))]),(1,.var 3 [jI o1])]) 2 Fr.emp:=by
 unfold g67b at h
 refine SCall.mkK Tryd.func67 c67 rfl (by rcases r with _ | _<;>rfl) (by rcases r with _ | _<;>kernel_rfl) (fun Q_0 hR_0 hN_0=>?_)
 refine Sa (sT [(1,.clo 75 [] [.ptr 0 0,.ptr 1 0]),pR 2 2,pR 4 3] [(3,.var 119 [.d (.nilSl),.d (.nilSl),jI 0,jI 0,jI 0,.d (.nilMap)]),(2,.var 61 (cv61 x)),(0,.var 51 [.d (.sl 1 (List.map e3 o0))]),(1,.var 3 [jI o1])] 4 2) ?_
 refine AW.seqK fun K_1 hK_1=>AW.srwK fun Q_2 hQ_2=>?_
 refine Au 1 (sT [(1,.clo 75 [] [.ptr 0 0,.ptr 1 0]),pR 2 2,pR 4 3,(8,.agg [.d (.sl 4 (List.map e65 x.Hanks)),.d (.sl 3 (List.map e67 x.Horses)),jI x.Dark,jI x.Near,jI x.Match])] [(3,.var 119 [.d (.nilSl),.d (.nilSl),jI 0,jI 0,jI 0,.d (.nilMap)]),(2,.var 61 (cv61 x)),(0,.var 51 [.d (.sl 1 (List.map e3 o0))]),(1,.var 3 [jI o1])] 4 2) ?_
 obtain ⟨r0_9,hx_3,h⟩:=bsome h
 refine rC (k35 x _ hx_3) ?_
 refine Au 1 (sT [(1,.clo 75 [] [.ptr 0 0,.ptr 1 0]),pR 2 2,pR 4 3,(6,jI r0_9)] [(3,.var 119 [.d (.nilSl),.d (.nilSl),jI 0,jI 0,jI 0,.d (.nilMap)]),(2,.var 61 (cv61 x)),(0,.var 51 [.d (.sl 1 (List.map e3 o0))]),(1,.var 3 [jI o1])] 4 2) ?_
 refine RW.nil (hQ_2 _ ?_)
 refine Sa (sT [(1,.clo 75 [] [.ptr 0 0,.ptr 1 0]),pR 2 2,pR 4 3,(6,jI r0_9),(11,.d (.bool (decide (r0_9≠0))))] [(3,.var 119 [.d (.nilSl),.d (.nilSl),jI 0,jI 0,jI 0,.d (.nilMap)]),(2,.var 61 (cv61 x)),(0,.var 51 [.d (.sl 1 (List.map e3 o0))]),(1,.var 3 [jI o1])] 4 2) ?_
 refine AW.cond rfl (fun hb_4=>?_) (fun hb_4=>?_)
 ·have h:=ifT hb_4 h
  refine Sa (sT [pR 4 3,(5,jI r0_9)] (y2 o0 o1) 4 2) ?_
  obtain rfl:=Option.some.inj h
  exact AW.ret (hR_0 _ (retX (.cons (.agg rfl rfl (Nat.le_of_ble_eq_true rfl)) (.cons (.tmp rfl) .nil)) (Frz.tup_of ⟨Frz.agg_of ⟨(.nil 4),(.nil 3),.refl _,.refl _,.refl _,.refl _,trivial⟩,.refl _,trivial⟩) rfl (by kernel_rfl) (by kernel_rfl)))
 ·have h:=ifF hb_4 h
  refine AW.skip (hK_1 _ ?_)
  refine AW.srwK (fun Q_5 hQ_5=>?_)
  refine Au 1 (sT [(1,.clo 75 [] [.ptr 0 0,.ptr 1 0]),pR 4 3,(14,.agg [.d (.sl 4 (List.map e65 x.Hanks)),.d (.sl 3 (List.map e67 x.Horses)),jI x.Dark,jI x.Near,jI x.Match])] (y2 o0 o1) 4 2) ?_
  obtain ⟨⟨r0_HairBook,mf⟩,hx_6,h⟩:=bsome h
  refine rC (k81 x _ hx_6) ?_
  refine Au 2 (sT [(1,.clo 75 [] [.ptr 0 0,.ptr 1 0]),pR 4 3,pR 7 4] [(4,.var 119 (catV (cv61 r0_HairBook) [.fmp (List.map m124_33 mf)])),(3,.var 119 [.d (.nilSl),.d (.nilSl),jI 0,jI 0,jI 0,.d (.nilMap)]),(0,.var 51 [.d (.sl 1 (List.map e3 o0))]),(1,.var 3 [jI o1])] 5 2) ?_
  refine RW.nil (hQ_5 _ ?_)
  refine AW.seqK fun K_7 hK_7=>AW.srwK fun Q_8 hQ_8=>?_
  refine Au 2 (sT [pR 4 3,pR 7 4,(16,.clo 75 [] [.ptr 0 0,.ptr 1 0]),(17,.agg [.d (.sl 4 (List.map e65 r0_HairBook.Hanks)),.d (.sl 3 (List.map e67 r0_HairBook.Horses)),jI r0_HairBook.Dark,jI r0_HairBook.Near,jI r0_HairBook.Match,.fmp (List.map m124_33 mf)])] [(4,.var 119 (catV (cv61 r0_HairBook) [.fmp (List.map m124_33 mf)])),(3,.var 119 [.d (.nilSl),.d (.nilSl),jI 0,jI 0,jI 0,.d (.nilMap)]),(0,.var 51 [.d (.sl 1 (List.map e3 o0))]),(1,.var 3 [jI o1])] 5 2) ?_
  obtain ⟨r0,hx_9,h⟩:=bsome h
  refine RW.one fokW (r_callvE (zr:=[]) [0,1] trivial rfl (.clo _ _ _) (by kernel_rfl) rfl (k75 r0_HairBook mf o0 o1 _ hx_9) ⟨rfl,rfl,trivial⟩ rfl rfl ⟨.refl _,.refl _,.refl _,trivial⟩ rfl rfl rfl (r_end ?_))
  refine Au 1 (sT [pR 4 3,pR 7 4,(19,.d (.bool (!r0)))] [(0,.var 51 [.d (.sl 1 (List.map e3 o0))]),(1,.var 3 [jI o1]),(4,.var 119 (catV (cv61 r0_HairBook) [.fmp (List.map m124_33 mf)])),(3,.var 119 [.d (.nilSl),.d (.nilSl),jI 0,jI 0,jI 0,.d (.nilMap)])] 5 2) ?_
  refine RW.nil (hQ_8 _ ?_)
  refine AW.cond rfl (fun hb_10=>?_) (fun hb_10=>?_)
  ·have h:=ifT hb_10 h
   refine Sa (sT [pR 4 3,(5,jI 61)] [(3,.var 119 (catV (cv61 r0_HairBook) [.fmp (List.map m124_33 mf)])),(0,.var 51 [.d (.sl 1 (List.map e3 o0))]),(1,.var 3 [jI o1])] 5 2) ?_
   obtain rfl:=Option.some.inj h
   exact rT hR_0 (.cons (.agg rfl rfl (Nat.le_of_ble_eq_true rfl)) (.cons (.tmp rfl) .nil))
  ·have h:=ifF hb_10 h
   refine AW.skip (hK_7 _ ?_)
   refine Sa (sT [pR 4 3,(5,jI 0)] [(3,.var 119 (catV (cv61 r0_HairBook) [.fmp (List.map m124_33 mf)])),(0,.var 51 [.d (.sl 1 (List.map e3 o0))]),(1,.var 3 [jI o1])] 5 2) ?_
   obtain rfl:=Option.some.inj h
   exact rT hR_0 (.cons (.agg rfl rfl (Nat.le_of_ble_eq_true rfl)) (.cons (.tmp rfl) .nil))
def g29 (x:HairBook) (plan:(List Int)) (hank:Int):Option (Span×Int):=(g67b x plan hank).bind fun r_12=>match r_12 with | .next (r0_HairBook4,r1_1)=>(must (decide (r1_1≠0))).bind fun _=>some ((Span.mk 0 0),r1_1) | .brk (r0_HairBook5,mf2,r1_2)=>bif (decide (r1_2≠0)) then (some ((Span.mk 0 0),r1_2)) else ((ixL x.Hanks hank).bind fun p=>(g76 r0_HairBook5 mf2 plan).bind fun r0_3=>(ixN 5 hank).bind fun j=>some ((Span.mk (wr (p.Weight.Low - (r0_3 j))) (wr (p.Weight.High - (r0_3 j)))),0))
theorem k29 (x:HairBook) (plan:(List Int)) (hank:Int) (r:Span×Int) (h:g29 x plan hank=some r):SCall Tryd.prog Gs 29 [.agg [.d (.sl 4 (List.map e65 x.Hanks)),.d (.sl 3 (List.map e67 x.Horses)),jI x.Dark,jI x.Near,jI x.Match],.d (.sl 1 (List.map e3 plan)),jI hank] [] 0 Fr.emp (match r with | (r0_2,r1_4)=>.tup [.agg [jI r0_2.Low,jI r0_2.High],jI r1_4]) [] 0 Fr.emp:=by
 unfold g29 at h
 refine SCall.mkK Tryd.func29 c29 rfl rfl (by kernel_rfl) (fun Q_0 hR_0 hN_0=>?_)
 refine Sa (sT [pR 3 0,pR 4 1,pR 5 2,pR 6 3] [(3,.var 33 [jI 0,jI 0]),(2,.var 3 [jI hank]),(1,.var 51 [.d (.sl 1 (List.map e3 plan))]),(0,.var 61 (cv61 x))] 4 0) ?_
 refine AW.srwK (fun Q_1 hQ_1=>?_)
 refine Au 2 (sT [pR 3 0,pR 4 1,pR 5 2,pR 6 3,(13,.agg [.d (.sl 4 (List.map e65 x.Hanks)),.d (.sl 3 (List.map e67 x.Horses)),jI x.Dark,jI x.Near,jI x.Match]),(14,.clo 75 [] [.ptr 1 0,.ptr 2 0])] [(3,.var 33 [jI 0,jI 0]),(2,.var 3 [jI hank]),(1,.var 51 [.d (.sl 1 (List.map e3 plan))]),(0,.var 61 (cv61 x))] 4 0) ?_
 obtain ⟨r_12,hx_2,h⟩:=bsome h
 rcases r_12 with (⟨r0_HairBook4,r1_1⟩ | (⟨r0_HairBook5,mf2,r1_2⟩))
 ·refine RW.one fokW (r_callS (zr:=[]) [1,2] trivial rfl (k67b x plan hank _ hx_2) ⟨rfl,rfl,trivial⟩ rfl rfl ⟨.refl _,.refl _,trivial⟩ rfl rfl rfl (r_end ?_))
  obtain ⟨_,hv_3,h⟩:=bsome h
  have hf_4:=must_ok hv_3
  refine Au 6 (sT [pR 3 0,pR 4 1,pR 5 2,pR 6 3,pR 8 4,(9,jI r1_1)] [(4,.var 119 (catV (cv61 r0_HairBook4) [.d (.nilMap)])),(1,.var 51 [.d (.sl 1 (List.map e3 plan))]),(2,.var 3 [jI hank]),(3,.var 33 [jI 0,jI 0]),(0,.var 61 (cv61 x))] 5 0) ?_
  refine RW.nil (hQ_1 _ ?_)
  refine AW.seqK (fun K_5 hK_5=>?_)
  refine Sa (sT [pR 3 0,pR 4 1,pR 5 2,pR 6 3,pR 8 4,(9,jI r1_1),(19,.d (.bool (decide (r1_1≠0))))] [(4,.var 119 (catV (cv61 r0_HairBook4) [.d (.nilMap)])),(1,.var 51 [.d (.sl 1 (List.map e3 plan))]),(2,.var 3 [jI hank]),(3,.var 33 [jI 0,jI 0]),(0,.var 61 (cv61 x))] 5 0) ?_
  refine AW.cond rfl (fun hb_6=>?_) (fun hb_6=>False.elim (by rw [hf_4] at hb_6;cases hb_6))
  refine Sa (sT [pR 6 3,(7,jI r1_1)] [(3,.var 33 [jI 0,jI 0])] 5 0) ?_
  obtain rfl:=Option.some.inj h
  exact rT hR_0 (.cons (.agg rfl rfl (Nat.le_of_ble_eq_true rfl)) (.cons (.tmp rfl) .nil))
 ·refine RW.one fokW (r_callS (zr:=[]) [1,2] trivial rfl (k67b x plan hank _ hx_2) ⟨rfl,rfl,trivial⟩ rfl rfl ⟨.refl _,.refl _,trivial⟩ rfl rfl rfl (r_end ?_))
  refine Au 6 (sT [pR 3 0,pR 4 1,pR 5 2,pR 6 3,pR 8 4,(9,jI r1_2)] [(4,.var 119 (catV (cv61 r0_HairBook5) [.fmp (List.map m124_33 mf2)])),(1,.var 51 [.d (.sl 1 (List.map e3 plan))]),(2,.var 3 [jI hank]),(3,.var 33 [jI 0,jI 0]),(0,.var 61 (cv61 x))] 5 0) ?_
  refine RW.nil (hQ_1 _ ?_)
  refine AW.seqK (fun K_7 hK_7=>?_)
  refine Sa (sT [pR 3 0,pR 4 1,pR 5 2,pR 6 3,pR 8 4,(9,jI r1_2),(19,.d (.bool (decide (r1_2≠0))))] [(4,.var 119 (catV (cv61 r0_HairBook5) [.fmp (List.map m124_33 mf2)])),(1,.var 51 [.d (.sl 1 (List.map e3 plan))]),(2,.var 3 [jI hank]),(3,.var 33 [jI 0,jI 0]),(0,.var 61 (cv61 x))] 5 0) ?_
  refine AW.cond rfl (fun hb_8=>?_) (fun hb_8=>?_)
  ·have h:=ifT hb_8 h
   refine Sa (sT [pR 6 3,(7,jI r1_2)] [(3,.var 33 [jI 0,jI 0])] 5 0) ?_
   obtain rfl:=Option.some.inj h
   exact rT hR_0 (.cons (.agg rfl rfl (Nat.le_of_ble_eq_true rfl)) (.cons (.tmp rfl) .nil))
  ·have h:=ifF hb_8 h
   refine AW.skip (hK_7 _ ?_)
   refine AW.sdrwK fokW (fun Q_9 hQ_9=>?_)
   refine aX 3 (sT [pR 4 1,pR 5 2,pR 6 3,pR 8 4,(23,.d (.sl 4 (List.map e65 x.Hanks))),(24,jI hank)] [(4,.var 119 (catV (cv61 r0_HairBook5) [.fmp (List.map m124_33 mf2)])),(1,.var 51 [.d (.sl 1 (List.map e3 plan))]),(2,.var 3 [jI hank]),(3,.var 33 [jI 0,jI 0]),(0,.var 61 (cv61 x))] 5 0) ?_
   obtain ⟨p,hv_10,h⟩:=bsome h
   refine r_iaD trivial rfl rfl (ixL_ok hv_10).1 (row:=e65 p) (mapget (ixL_ok hv_10).2) ?_
   refine aX 4 (sT [pR 5 2,pR 6 3,(27,.agg [jI p.Weight.Low,jI p.Weight.High]),(28,.agg [.d (.sl 4 (List.map e65 r0_HairBook5.Hanks)),.d (.sl 3 (List.map e67 r0_HairBook5.Horses)),jI r0_HairBook5.Dark,jI r0_HairBook5.Near,jI r0_HairBook5.Match,.fmp (List.map m124_33 mf2)]),(29,.d (.sl 1 (List.map e3 plan)))] [(4,.var 119 (catV (cv61 r0_HairBook5) [.fmp (List.map m124_33 mf2)])),(1,.var 51 [.d (.sl 1 (List.map e3 plan))]),(2,.var 3 [jI hank]),(3,.var 33 [jI 0,jI 0]),(0,.var 61 (cv61 x))] 5 0) ?_
   obtain ⟨r0_3,hx_11,h⟩:=bsome h
   refine r_call trivial rfl (k76 r0_HairBook5 mf2 plan _ hx_11) rfl rfl ?_
   refine aX 1 (sT [pR 6 3,(27,.agg [jI p.Weight.Low,jI p.Weight.High]),(30,.agg [jI (r0_3 0),jI (r0_3 1),jI (r0_3 2),jI (r0_3 3),jI (r0_3 4)]),(31,jI hank)] [(4,.var 119 (catV (cv61 r0_HairBook5) [.fmp (List.map m124_33 mf2)])),(1,.var 51 [.d (.sl 1 (List.map e3 plan))]),(2,.var 3 [jI hank]),(3,.var 33 [jI 0,jI 0]),(0,.var 61 (cv61 x))] 5 0) ?_
   obtain ⟨j,hv_12,h⟩:=bsome h
   refine r_idx trivial rfl rfl (ixN_ok hv_12).1 (ixN_ok hv_12).2.1 (u:=jI (r0_3 j)) (agt (f:=fun k=>jI (r0_3 k)) hv_12) ?_
   refine aX 3 (sT [pR 6 3,pR 10 5,(11,jI (r0_3 j))] [(5,.var 33 [jI p.Weight.Low,jI p.Weight.High]),(4,.var 119 (catV (cv61 r0_HairBook5) [.fmp (List.map m124_33 mf2)])),(1,.var 51 [.d (.sl 1 (List.map e3 plan))]),(2,.var 3 [jI hank]),(3,.var 33 [jI 0,jI 0]),(0,.var 61 (cv61 x))] 6 0) ?_
   refine Fi (sT [pR 6 3,pR 10 5,(11,jI (r0_3 j))] [(5,.var 33 [jI p.Weight.Low,jI p.Weight.High]),(3,.var 33 [jI 0,jI 0])] 6 0) ?_
   refine hQ_9 _ ?_
   refine Sa (sT [pR 6 3,(7,jI 0)] [(3,.var 33 [jI (wr (p.Weight.Low - (r0_3 j))),jI (wr (p.Weight.High - (r0_3 j)))])] 6 0) ?_
   obtain rfl:=Option.some.inj h
   exact rT hR_0 (.cons (.agg rfl rfl (Nat.le_of_ble_eq_true rfl)) (.cons (.tmp rfl) .nil))
def g77 (b_HairBook:HairBook) (mf:List (Hair_dye×Span)) (o0:(List Int)):Option Bool:=(g73 b_HairBook mf o0).bind fun r0_1=>(bif r0_1 then ((g74 b_HairBook mf o0).bind fun r0_4=>some r0_4) else (some false)).bind fun v=>some v
theorem k77 (b_HairBook:HairBook) (mf:List (Hair_dye×Span)) (o0:(List Int)) (r:Bool) (h:g77 b_HairBook mf o0=some r):SCall Tryd.prog Gs 77 [.agg [.d (.sl 4 (List.map e65 b_HairBook.Hanks)),.d (.sl 3 (List.map e67 b_HairBook.Horses)),jI b_HairBook.Dark,jI b_HairBook.Near,jI b_HairBook.Match,.fmp (List.map m124_33 mf)],.ptr 0 0] [(0,.var 51 [.d (.sl 1 (List.map e3 o0))])] 1 Fr.emp (.d (.bool r)) [(0,.var 51 [.d (.sl 1 (List.map e3 o0))])] 1 Fr.emp:=by
 unfold g77 at h
 refine SCall.mkK Tryd.func77 c77 rfl rfl (by kernel_rfl) (fun Q_0 hR_0 hN_0=>?_)
 refine Sa (sT [pR 1 0,pR 2 1] [(1,.var 119 (catV (cv61 b_HairBook) [.fmp (List.map m124_33 mf)])),(0,.var 51 [.d (.sl 1 (List.map e3 o0))])] 2 1) ?_
 refine AW.srwK (fun Q_1 hQ_1=>?_)
 refine Au 2 (sT [pR 1 0,pR 2 1,(4,.agg [.d (.sl 4 (List.map e65 b_HairBook.Hanks)),.d (.sl 3 (List.map e67 b_HairBook.Horses)),jI b_HairBook.Dark,jI b_HairBook.Near,jI b_HairBook.Match,.fmp (List.map m124_33 mf)]),(5,.d (.sl 1 (List.map e3 o0)))] [(1,.var 119 (catV (cv61 b_HairBook) [.fmp (List.map m124_33 mf)])),(0,.var 51 [.d (.sl 1 (List.map e3 o0))])] 2 1) ?_
 obtain ⟨r0_1,hx_2,h⟩:=bsome h
 refine rC (k73 b_HairBook mf o0 _ hx_2) ?_
 refine Au 1 (sT [pR 1 0,pR 2 1,(7,.d (.bool r0_1))] [(1,.var 119 (catV (cv61 b_HairBook) [.fmp (List.map m124_33 mf)])),(0,.var 51 [.d (.sl 1 (List.map e3 o0))])] 2 1) ?_
 obtain ⟨v,hx_3,h⟩:=bsome h
 refine RW.cut fokW 4 ((sT [(11,.d (.bool v))] [(0,.var 51 [.d (.sl 1 (List.map e3 o0))])] 2 1)) ?_ ?_
 ·refine r_split 7 rfl (fun hb_5=>?_) (fun hb_5=>?_)
  ·have h:=ifT hb_5 hx_3
   refine aX 2 (sT [(7,.d (.bool true)),(8,.agg [.d (.sl 4 (List.map e65 b_HairBook.Hanks)),.d (.sl 3 (List.map e67 b_HairBook.Horses)),jI b_HairBook.Dark,jI b_HairBook.Near,jI b_HairBook.Match,.fmp (List.map m124_33 mf)]),(9,.d (.sl 1 (List.map e3 o0)))] [(1,.var 119 (catV (cv61 b_HairBook) [.fmp (List.map m124_33 mf)])),(0,.var 51 [.d (.sl 1 (List.map e3 o0))])] 2 1) ?_
   obtain ⟨r0_4,hx_4,h⟩:=bsome h
   refine r_call rfl rfl (k74 b_HairBook mf o0 _ hx_4) rfl rfl ?_
   refine aX 1 (sT [(11,.d (.bool r0_4))] [(1,.var 119 (catV (cv61 b_HairBook) [.fmp (List.map m124_33 mf)])),(0,.var 51 [.d (.sl 1 (List.map e3 o0))])] 2 1) ?_
   obtain rfl:=Option.some.inj h
   refine RunC.finJ (Can.kp (by kernel_rfl))
  ·have h:=ifF hb_5 hx_3
   refine aX 4 (sT [(11,.d (.bool false))] [(1,.var 119 (catV (cv61 b_HairBook) [.fmp (List.map m124_33 mf)])),(0,.var 51 [.d (.sl 1 (List.map e3 o0))])] 2 1) ?_
   obtain rfl:=Option.some.inj h
   refine RunC.finJ (Can.kp (by kernel_rfl))
 ·refine Au 1 (sT [(3,.d (.bool v))] [(0,.var 51 [.d (.sl 1 (List.map e3 o0))])] 2 1) ?_
  refine RW.nil (hQ_1 _ ?_)
  obtain rfl:=Option.some.inj h
  exact rT hR_0 (.cons (.tmp rfl) .nil)
def g67c (x:HairBook) (o0:(List Int)):Option (Ctl (HairBook×Int) (HairBook×(List (Hair_dye×Span))×Int)):=(g35 x).bind fun r0_9=>bif (decide (r0_9≠0)) then (some (.next ((HairBook.mk [] [] 0 0 0),r0_9))) else ((g81 x).bind fun (r0_HairBook,mf)=>(g77 r0_HairBook mf o0).bind fun r0=>bif (!r0) then (some (.brk (r0_HairBook,mf,61))) else (some (.brk (r0_HairBook,mf,0))))
def y3 (o0:(List Int)):List (Nat×Blk):=[(2,.var 119 [.d (.nilSl),.d (.nilSl),jI 0,jI 0,jI 0,.d (.nilMap)]),(0,.var 51 [.d (.sl 1 (List.map e3 o0))])]
theorem k67c (x:HairBook) (o0:(List Int)) (r:Ctl (HairBook×Int) (HairBook×(List (Hair_dye×Span))×Int)) (h:g67c x o0=some r):SCall Tryd.prog Gs 67 [.agg [.d (.sl 4 (List.map e65 x.Hanks)),.d (.sl 3 (List.map e67 x.Horses)),jI x.Dark,jI x.Near,jI x.Match],.clo 77 [] [.ptr 0 0]] [(0,.var 51 [.d (.sl 1 (List.map e3 o0))])] 1 Fr.emp (match r with | .next (r0_HairBook4,r1_1)=>.tup [.agg [.d (.sl 4 (List.map e65 r0_HairBook4.Hanks)),.d (.sl 3 (List.map e67 r0_HairBook4.Horses)),jI r0_HairBook4.Dark,jI r0_HairBook4.Near,jI r0_HairBook4.Match,.d (.nilMap)],jI r1_1] | .brk (r0_HairBook5,mf2,r1_2)=>.tup [.agg [.d (.sl 4 (List.map e65 r0_HairBook5.Hanks)),.d (.sl 3 (List.map e67 r0_HairBook5.Horses)),jI r0_HairBook5.Dark,jI r0_HairBook5.Near,jI r0_HairBook5.Match,.fmp (List.map m124_33 mf2)],jI r1_2]) (match r with | .next (r0_HairBook4,r1_1)=>[(0,.var 51 [.d (.sl 1 (List.map e3 o0))])] | .brk (r0_HairBook5,mf2,r1_2)=>[(0,.var 51 [.d (.sl 1 (List.map e3 o0))])]) 1 Fr.emp:=by
 unfold g67c at h
 refine SCall.mkK Tryd.func67 c67 rfl (by rcases r with _ | _<;>rfl) (by rcases r with _ | _<;>kernel_rfl) (fun Q_0 hR_0 hN_0=>?_)
 refine Sa (sT [(1,.clo 77 [] [.ptr 0 0]),pR 2 1,pR 4 2] [(2,.var 119 [.d (.nilSl),.d (.nilSl),jI 0,jI 0,jI 0,.d (.nilMap)]),(1,.var 61 (cv61 x)),(0,.var 51 [.d (.sl 1 (List.map e3 o0))])] 3 1) ?_
 refine AW.seqK fun K_1 hK_1=>AW.srwK fun Q_2 hQ_2=>?_
 refine Au 1 (sT [(1,.clo 77 [] [.ptr 0 0]),pR 2 1,pR 4 2,(8,.agg [.d (.sl 4 (List.map e65 x.Hanks)),.d (.sl 3 (List.map e67 x.Horses)),jI x.Dark,jI x.Near,jI x.Match])] [(2,.var 119 [.d (.nilSl),.d (.nilSl),jI 0,jI 0,jI 0,.d (.nilMap)]),(1,.var 61 (cv61 x)),(0,.var 51 [.d (.sl 1 (List.map e3 o0))])] 3 1) ?_
 obtain ⟨r0_9,hx_3,h⟩:=bsome h
 refine rC (k35 x _ hx_3) ?_
 refine Au 1 (sT [(1,.clo 77 [] [.ptr 0 0]),pR 2 1,pR 4 2,(6,jI r0_9)] [(2,.var 119 [.d (.nilSl),.d (.nilSl),jI 0,jI 0,jI 0,.d (.nilMap)]),(1,.var 61 (cv61 x)),(0,.var 51 [.d (.sl 1 (List.map e3 o0))])] 3 1) ?_
 refine RW.nil (hQ_2 _ ?_)
 refine Sa (sT [(1,.clo 77 [] [.ptr 0 0]),pR 2 1,pR 4 2,(6,jI r0_9),(11,.d (.bool (decide (r0_9≠0))))] [(2,.var 119 [.d (.nilSl),.d (.nilSl),jI 0,jI 0,jI 0,.d (.nilMap)]),(1,.var 61 (cv61 x)),(0,.var 51 [.d (.sl 1 (List.map e3 o0))])] 3 1) ?_
 refine AW.cond rfl (fun hb_4=>?_) (fun hb_4=>?_)
 ·have h:=ifT hb_4 h
  refine Sa (sT [pR 4 2,(5,jI r0_9)] (y3 o0) 3 1) ?_
  obtain rfl:=Option.some.inj h
  exact AW.ret (hR_0 _ (retX (.cons (.agg rfl rfl (Nat.le_of_ble_eq_true rfl)) (.cons (.tmp rfl) .nil)) (Frz.tup_of ⟨Frz.agg_of ⟨(.nil 4),(.nil 3),.refl _,.refl _,.refl _,.refl _,trivial⟩,.refl _,trivial⟩) rfl (by kernel_rfl) (by kernel_rfl)))
 ·have h:=ifF hb_4 h
  refine AW.skip (hK_1 _ ?_)
  refine AW.srwK (fun Q_5 hQ_5=>?_)
  refine Au 1 (sT [(1,.clo 77 [] [.ptr 0 0]),pR 4 2,(14,.agg [.d (.sl 4 (List.map e65 x.Hanks)),.d (.sl 3 (List.map e67 x.Horses)),jI x.Dark,jI x.Near,jI x.Match])] (y3 o0) 3 1) ?_
  obtain ⟨⟨r0_HairBook,mf⟩,hx_6,h⟩:=bsome h
  refine rC (k81 x _ hx_6) ?_
  refine Au 2 (sT [(1,.clo 77 [] [.ptr 0 0]),pR 4 2,pR 7 3] [(3,.var 119 (catV (cv61 r0_HairBook) [.fmp (List.map m124_33 mf)])),(2,.var 119 [.d (.nilSl),.d (.nilSl),jI 0,jI 0,jI 0,.d (.nilMap)]),(0,.var 51 [.d (.sl 1 (List.map e3 o0))])] 4 1) ?_
  refine RW.nil (hQ_5 _ ?_)
  refine AW.seqK fun K_7 hK_7=>AW.srwK fun Q_8 hQ_8=>?_
  refine Au 2 (sT [pR 4 2,pR 7 3,(16,.clo 77 [] [.ptr 0 0]),(17,.agg [.d (.sl 4 (List.map e65 r0_HairBook.Hanks)),.d (.sl 3 (List.map e67 r0_HairBook.Horses)),jI r0_HairBook.Dark,jI r0_HairBook.Near,jI r0_HairBook.Match,.fmp (List.map m124_33 mf)])] [(3,.var 119 (catV (cv61 r0_HairBook) [.fmp (List.map m124_33 mf)])),(2,.var 119 [.d (.nilSl),.d (.nilSl),jI 0,jI 0,jI 0,.d (.nilMap)]),(0,.var 51 [.d (.sl 1 (List.map e3 o0))])] 4 1) ?_
  obtain ⟨r0,hx_9,h⟩:=bsome h
  refine RW.one fokW (r_callvE (zr:=[]) [0] trivial rfl (.clo _ _ _) (by kernel_rfl) rfl (k77 r0_HairBook mf o0 _ hx_9) ⟨rfl,trivial⟩ rfl rfl ⟨.refl _,.refl _,trivial⟩ rfl rfl rfl (r_end ?_))
  refine Au 1 (sT [pR 4 2,pR 7 3,(19,.d (.bool (!r0)))] [(0,.var 51 [.d (.sl 1 (List.map e3 o0))]),(3,.var 119 (catV (cv61 r0_HairBook) [.fmp (List.map m124_33 mf)])),(2,.var 119 [.d (.nilSl),.d (.nilSl),jI 0,jI 0,jI 0,.d (.nilMap)])] 4 1) ?_
  refine RW.nil (hQ_8 _ ?_)
  refine AW.cond rfl (fun hb_10=>?_) (fun hb_10=>?_)
  ·have h:=ifT hb_10 h
   refine Sa (sT [pR 4 2,(5,jI 61)] [(2,.var 119 (catV (cv61 r0_HairBook) [.fmp (List.map m124_33 mf)])),(0,.var 51 [.d (.sl 1 (List.map e3 o0))])] 4 1) ?_
   obtain rfl:=Option.some.inj h
   exact rT hR_0 (.cons (.agg rfl rfl (Nat.le_of_ble_eq_true rfl)) (.cons (.tmp rfl) .nil))
  ·have h:=ifF hb_10 h
   refine AW.skip (hK_7 _ ?_)
   refine Sa (sT [pR 4 2,(5,jI 0)] [(2,.var 119 (catV (cv61 r0_HairBook) [.fmp (List.map m124_33 mf)])),(0,.var 51 [.d (.sl 1 (List.map e3 o0))])] 4 1) ?_
   obtain rfl:=Option.some.inj h
   exact rT hR_0 (.cons (.agg rfl rfl (Nat.le_of_ble_eq_true rfl)) (.cons (.tmp rfl) .nil))
def g79 :Option Unit:=some ()
theorem k79  (r:Unit) (h:g79=some r):SCall Tryd.prog Gs 79 [] [] 0 Fr.emp (.agg [.d (.fn 118)]) [] 0 Fr.emp:=by
 unfold g79 at h
 refine SCall.mkK Tryd.func79 c79 rfl rfl (by kernel_rfl) (fun Q_0 hR_0 hN_0=>?_)
 refine Sa (sT [pR 0 0] [(0,.var 133 [.d (.nilFn)])] 1 0) ?_
 refine Sa (sT [pR 0 0] [(0,.var 133 [.d (.fn 118)])] 1 0) ?_
 obtain rfl:=Option.some.inj h
 exact rT hR_0 (.cons (.agg rfl rfl (Nat.le_of_ble_eq_true rfl)) .nil)
def g118 (s:Span):Option Int:=some s.Low
theorem k118 (s:Span) (r:Int) (h:g118 s=some r):SCall Tryd.prog Gs 118 [.agg [jI s.Low,jI s.High]] [] 0 Fr.emp (jI r) [] 0 Fr.emp:=by
 unfold g118 at h
 refine SCall.mkK Tryd.func118 c118 rfl rfl (by kernel_rfl) (fun Q_0 hR_0 hN_0=>?_)
 refine Sa (sT [pR 1 0] [(0,.var 33 [jI s.Low,jI s.High])] 1 0) ?_
 refine Sa (sT [(2,jI s.Low)] [] 1 0) ?_
 obtain rfl:=Option.some.inj h
 exact rT hR_0 (.cons (.tmp rfl) .nil)
def g78_7 (cut:(Nat→Int)):Int→HairHank→Int→Option Int:=fun v p n=>(ixN 5 v).bind fun j=>bif (decide (0<(cut j))) then ((g118 p.Weight).bind fun r0_1=>(ixN 5 v).bind fun j1=>some (wr (n+(wr (r0_1 - (cut j1)))))) else (some n)
def g78 (b_HairBook:HairBook) (mf:List (Hair_dye×Span)) (cut:(Nat→Int)):Option Int:=(g117).bind fun r0=>bif (false != (((cut 0)==(r0 0))&&(((cut 1)==(r0 1))&&(((cut 2)==(r0 2))&&(((cut 3)==(r0 3))&&(((cut 4)==(r0 4))&&true)))))) then (some 0) else ((eachS (g78_7 cut) b_HairBook.Hanks 0 0).bind fun n=>some n)
def y4 (cut:(Nat→Int)):List (Nat×Blk):=[(2,.var 133 [.d (.fn 118)]),(1,.var 128 [jI (cut 0),jI (cut 1),jI (cut 2),jI (cut 3),jI (cut 4)])]
theorem k78 (b_HairBook:HairBook) (mf:List (Hair_dye×Span)) (cut:(Nat→Int)) (r:Int) (h:g78 b_HairBook mf cut=some r):SCall Tryd.prog Gs 78 [.agg [.d (.sl 4 (List.map e65 b_HairBook.Hanks)),.d (.sl 3 (List.map e67 b_HairBook.Horses)),jI b_HairBook.Dark,jI b_HairBook.Near,jI b_HairBook.Match,.fmp (List.map m124_33 mf)],.agg [jI (cut 0),jI (cut 1),jI (cut 2),jI (cut 3),jI (cut 4)],.agg [.d (.fn 118)]] [] 0 Fr.emp (jI r) [] 0 Fr.emp:=by
 unfold g78 at h
 refine SCall.mkK Tryd.func78 c78 rfl rfl (by kernel_rfl) (fun Q_0 hR_0 hN_0=>?_)
 refine Sa (sT [pR 3 0,pR 4 1,pR 5 2] [(2,.var 133 [.d (.fn 118)]),(1,.var 128 [jI (cut 0),jI (cut 1),jI (cut 2),jI (cut 3),jI (cut 4)]),(0,.var 119 (catV (cv61 b_HairBook) [.fmp (List.map m124_33 mf)]))] 3 0) ?_
 refine Sa (sT [pR 3 0,pR 4 1,pR 5 2,(7,jI 0)] [(2,.var 133 [.d (.fn 118)]),(1,.var 128 [jI (cut 0),jI (cut 1),jI (cut 2),jI (cut 3),jI (cut 4)]),(0,.var 119 (catV (cv61 b_HairBook) [.fmp (List.map m124_33 mf)]))] 3 0) ?_
 refine AW.seqK (fun K_1 hK_1=>?_)
 refine AW.sdrwK fokW (fun Q_2 hQ_2=>?_)
 refine aX 1 (sT [pR 3 0,pR 4 1,pR 5 2,(7,jI 0),(10,.agg [jI (cut 0),jI (cut 1),jI (cut 2),jI (cut 3),jI (cut 4)])] [(2,.var 133 [.d (.fn 118)]),(1,.var 128 [jI (cut 0),jI (cut 1),jI (cut 2),jI (cut 3),jI (cut 4)]),(0,.var 119 (catV (cv61 b_HairBook) [.fmp (List.map m124_33 mf)]))] 3 0) ?_
 obtain ⟨r0,hx_3,h⟩:=bsome h
 refine r_call trivial rfl (k117 _ hx_3) rfl rfl ?_
 refine r_aeq trivial rfl rfl rfl rfl ft128 rfl rfl rfl ?_
 refine Fi (sT [pR 3 0,pR 4 1,pR 5 2,(7,jI 0),(12,.d (.bool (false != (((cut 0)==(r0 0))&&(((cut 1)==(r0 1))&&(((cut 2)==(r0 2))&&(((cut 3)==(r0 3))&&(((cut 4)==(r0 4))&&true))))))))] [(2,.var 133 [.d (.fn 118)]),(1,.var 128 [jI (cut 0),jI (cut 1),jI (cut 2),jI (cut 3),jI (cut 4)]),(0,.var 119 (catV (cv61 b_HairBook) [.fmp (List.map m124_33 mf)]))] 3 0) ?_
 refine hQ_2 _ ?_
 refine AW.cond rfl (fun hb_4=>?_) (fun hb_4=>?_)
 ·have h:=ifT hb_4 h
  refine Sa (sT [(6,jI 0)] [] 3 0) ?_
  obtain rfl:=Option.some.inj h
  exact rT hR_0 (.cons (.tmp rfl) .nil)
 ·have h:=ifF hb_4 h
  refine AW.skip (hK_1 _ ?_)
  refine AW.seqK fun K_5 hK_5=>AW.srwK fun Q_6 hQ_6=>?_
  refine Au 3 (sT [pR 4 1,pR 5 2,(7,jI 0),(16,.d (.sl 4 (List.map e65 b_HairBook.Hanks)))] (y4 cut) 3 0) ?_
  refine rL rfl ?_
  refine Au 1 (sT [pR 4 1,pR 5 2,(7,jI 0),(16,.d (.sl 4 (List.map e65 b_HairBook.Hanks))),(17,jI (b_HairBook.Hanks.length:Int)),(18,jI 0)] (y4 cut) 3 0) ?_
  refine RW.nil (hQ_6 _ ?_)
  refine AW.block ?_
  refine AW.sln (t:=16) rfl (fun hN_7=>?_)
  rw [List.length_map] at hN_7
  obtain ⟨out_7,hx_7,h⟩:=bsome h
  refine AW.evSK (fun (v:Int) (n:Int)=>(sT [pR 4 1,pR 5 2,(7,jI n),(16,.d (.sl 4 (List.map e65 b_HairBook.Hanks))),(17,jI (b_HairBook.Hanks.length:Int)),(18,jI v)] (y4 cut) 3 0)) (g78_7 cut) hx_7 (Can.kp (by kernel_rfl)) (fun v p n hi_7 hl_7 hp_7 c_7 h K_7 hK_7=>?_) (fun v n hi_7 hl_7 hout=>?_)
  ·unfold g78_7 at h
   refine Sa (sT [pR 4 1,pR 5 2,(7,jI n),(16,.d (.sl 4 (List.map e65 b_HairBook.Hanks))),(17,jI (b_HairBook.Hanks.length:Int)),(18,jI v),(19,.d (.bool (decide (v<(b_HairBook.Hanks.length:Int)))))] (y4 cut) 3 0) ?_
   refine AW.seqK (fun K_8 hK_8=>?_)
   refine AW.cond rfl (fun hb_9=>?_) (fun hb_9=>False.elim (by have:=of_decide_eq_false hb_9;omega))
   refine AW.skip (hK_8 _ ?_)
   refine AW.seqK (fun K_10 hK_10=>?_)
   refine AW.block ?_
   refine AW.srwK (fun Q_11 hQ_11=>?_)
   refine Au 1 (sT [pR 4 1,pR 5 2,(7,jI n),(16,.d (.sl 4 (List.map e65 b_HairBook.Hanks))),(17,jI (b_HairBook.Hanks.length:Int)),(18,jI v),(20,jI v)] (y4 cut) 3 0) ?_
   refine RW.one fokW (r_iaD trivial rfl rfl hi_7 (row:=e65 p) (mapget hp_7) (r_end ?_))
   refine Au 4 (sT [pR 4 1,pR 5 2,(7,jI n),(8,jI v),pR 9 3,(16,.d (.sl 4 (List.map e65 b_HairBook.Hanks))),(17,jI (b_HairBook.Hanks.length:Int)),(18,jI v)] [(3,.var 65 (cv65 p)),(2,.var 133 [.d (.fn 118)]),(1,.var 128 [jI (cut 0),jI (cut 1),jI (cut 2),jI (cut 3),jI (cut 4)])] 4 0) ?_
   refine RW.nil (hQ_11 _ ?_)
   refine AW.srwK (fun Q_12 hQ_12=>?_)
   refine Au 1 (sT [pR 4 1,pR 5 2,(7,jI n),(8,jI v),pR 9 3,(16,.d (.sl 4 (List.map e65 b_HairBook.Hanks))),(17,jI (b_HairBook.Hanks.length:Int)),(18,jI v),(23,jI v)] [(3,.var 65 (cv65 p)),(2,.var 133 [.d (.fn 118)]),(1,.var 128 [jI (cut 0),jI (cut 1),jI (cut 2),jI (cut 3),jI (cut 4)])] 4 0) ?_
   obtain ⟨j,hv_13,h⟩:=bsome h
   refine RW.one fokW (r_iaV trivial rfl rfl rfl (ixN_ok hv_13).1 (ixN_ok hv_13).2.1 (r_end ?_))
   refine RW.one fokW (r_loadV trivial rfl rfl (u:=jI (cut j)) (agt (f:=fun k=>jI (cut k)) hv_13) (r_end ?_))
   refine Au 1 (sT [pR 4 1,pR 5 2,(7,jI n),(8,jI v),pR 9 3,(16,.d (.sl 4 (List.map e65 b_HairBook.Hanks))),(17,jI (b_HairBook.Hanks.length:Int)),(18,jI v),(26,.d (.bool (decide (0<(cut j)))))] [(3,.var 65 (cv65 p)),(2,.var 133 [.d (.fn 118)]),(1,.var 128 [jI (cut 0),jI (cut 1),jI (cut 2),jI (cut 3),jI (cut 4)])] 4 0) ?_
   refine RW.nil (hQ_12 _ ?_)
   refine AW.cond rfl (fun hb_14=>?_) (fun hb_14=>?_)
   ·have h:=ifT hb_14 h
    refine AW.drw fokW ?_
    refine aX 5 (sT [pR 4 1,pR 5 2,(8,jI v),(16,.d (.sl 4 (List.map e65 b_HairBook.Hanks))),(17,jI (b_HairBook.Hanks.length:Int)),(18,jI v),(27,jI n),(29,.d (.fn 118)),(31,.agg [jI p.Weight.Low,jI p.Weight.High])] [(3,.var 65 (cv65 p)),(2,.var 133 [.d (.fn 118)]),(1,.var 128 [jI (cut 0),jI (cut 1),jI (cut 2),jI (cut 3),jI (cut 4)])] 4 0) ?_
    obtain ⟨r0_1,hx_16,h⟩:=bsome h
    refine r_callvZ (zr:=[]) trivial rfl (.fn _) (by kernel_rfl) rfl (k118 p.Weight _ hx_16) trivial ⟨.refl _,trivial⟩ rfl rfl rfl rfl ?_
    refine aX 1 (sT [pR 4 1,pR 5 2,(16,.d (.sl 4 (List.map e65 b_HairBook.Hanks))),(17,jI (b_HairBook.Hanks.length:Int)),(18,jI v),(27,jI n),(32,jI r0_1),(33,jI v)] [(3,.var 65 (cv65 p)),(2,.var 133 [.d (.fn 118)]),(1,.var 128 [jI (cut 0),jI (cut 1),jI (cut 2),jI (cut 3),jI (cut 4)])] 4 0) ?_
    obtain ⟨j1,hv_17,h⟩:=bsome h
    refine r_iaV trivial rfl rfl rfl (ixN_ok hv_17).1 (ixN_ok hv_17).2.1 ?_
    refine r_loadV trivial rfl rfl (u:=jI (cut j1)) (agt (f:=fun k=>jI (cut k)) hv_17) ?_
    refine aX 3 (sT [pR 4 1,pR 5 2,(7,jI (wr (n+(wr (r0_1 - (cut j1)))))),(16,.d (.sl 4 (List.map e65 b_HairBook.Hanks))),(17,jI (b_HairBook.Hanks.length:Int)),(18,jI v)] [(3,.var 65 (cv65 p)),(2,.var 133 [.d (.fn 118)]),(1,.var 128 [jI (cut 0),jI (cut 1),jI (cut 2),jI (cut 3),jI (cut 4)])] 4 0) ?_
    refine Fi (sT [pR 4 1,pR 5 2,(7,jI (wr (n+(wr (r0_1 - (cut j1)))))),(16,.d (.sl 4 (List.map e65 b_HairBook.Hanks))),(17,jI (b_HairBook.Hanks.length:Int)),(18,jI v)] (y4 cut) 4 0) ?_
    refine hK_10 _ ?_
    refine Ra (sT [pR 4 1,pR 5 2,(7,jI (wr (n+(wr (r0_1 - (cut j1)))))),(16,.d (.sl 4 (List.map e65 b_HairBook.Hanks))),(17,jI (b_HairBook.Hanks.length:Int)),(18,jI (wr (v+1)))] (y4 cut) 4 0) ?_
    obtain rfl:=Option.some.inj h
    have ew:wr (v+1)=v+1:=inext (N:=(b_HairBook.Hanks.length:Int)) (by omega) (by omega) (by omega)
    rw [ew]
    exact hK_7 _ (Can.kp (by kernel_rfl))
   ·have h:=ifF hb_14 h
    refine AW.skip (hK_10 _ ?_)
    refine Ra (sT [pR 4 1,pR 5 2,(7,jI n),(16,.d (.sl 4 (List.map e65 b_HairBook.Hanks))),(17,jI (b_HairBook.Hanks.length:Int)),(18,jI (wr (v+1)))] (y4 cut) 4 0) ?_
    obtain rfl:=Option.some.inj h
    have ew:wr (v+1)=v+1:=inext (N:=(b_HairBook.Hanks.length:Int)) (by omega) (by omega) (by omega)
    rw [ew]
    exact hK_7 _ (Can.kp (by kernel_rfl))
  ·subst hout
   refine Sa (sT [pR 4 1,pR 5 2,(7,jI n),(16,.d (.sl 4 (List.map e65 b_HairBook.Hanks))),(17,jI (b_HairBook.Hanks.length:Int)),(18,jI v),(19,.d (.bool (decide (v<(b_HairBook.Hanks.length:Int)))))] (y4 cut) 3 0) ?_
   refine AW.seqK (fun K_18 hK_18=>?_)
   refine AW.cond rfl (fun hb_19=>False.elim (by have:=of_decide_eq_true hb_19;omega)) (fun hb_19=>?_)
   refine AW.exit ?_
   refine hK_5 _ ?_
   refine Sa (sT [(6,jI n)] [] 3 0) ?_
   obtain rfl:=Option.some.inj h
   exact rT hR_0 (.cons (.tmp rfl) .nil)
def g80 :Option Unit:=some ()
theorem k80  (r:Unit) (h:g80=some r):SCall Tryd.prog Gs 80 [] [] 0 Fr.emp (.agg [.d (.fn 119)]) [] 0 Fr.emp:=by
 unfold g80 at h
 refine SCall.mkK Tryd.func80 c80 rfl rfl (by kernel_rfl) (fun Q_0 hR_0 hN_0=>?_)
 refine Sa (sT [pR 0 0] [(0,.var 133 [.d (.nilFn)])] 1 0) ?_
 refine Sa (sT [pR 0 0] [(0,.var 133 [.d (.fn 119)])] 1 0) ?_
 obtain rfl:=Option.some.inj h
 exact rT hR_0 (.cons (.agg rfl rfl (Nat.le_of_ble_eq_true rfl)) .nil)
def g119 (s:Span):Option Int:=some s.High
theorem k119 (s:Span) (r:Int) (h:g119 s=some r):SCall Tryd.prog Gs 119 [.agg [jI s.Low,jI s.High]] [] 0 Fr.emp (jI r) [] 0 Fr.emp:=by
 unfold g119 at h
 refine SCall.mkK Tryd.func119 c119 rfl rfl (by kernel_rfl) (fun Q_0 hR_0 hN_0=>?_)
 refine Sa (sT [pR 1 0] [(0,.var 33 [jI s.Low,jI s.High])] 1 0) ?_
 refine Sa (sT [(2,jI s.High)] [] 1 0) ?_
 obtain rfl:=Option.some.inj h
 exact rT hR_0 (.cons (.tmp rfl) .nil)
def g78a_7 (cut:(Nat→Int)):Int→HairHank→Int→Option Int:=fun v p n=>(ixN 5 v).bind fun j=>bif (decide (0<(cut j))) then ((g119 p.Weight).bind fun r0_1=>(ixN 5 v).bind fun j1=>some (wr (n+(wr (r0_1 - (cut j1)))))) else (some n)
def g78a (b_HairBook:HairBook) (mf:List (Hair_dye×Span)) (cut:(Nat→Int)):Option Int:=(g117).bind fun r0=>bif (false != (((cut 0)==(r0 0))&&(((cut 1)==(r0 1))&&(((cut 2)==(r0 2))&&(((cut 3)==(r0 3))&&(((cut 4)==(r0 4))&&true)))))) then (some 0) else ((eachS (g78a_7 cut) b_HairBook.Hanks 0 0).bind fun n=>some n)
def y5 (cut:(Nat→Int)):List (Nat×Blk):=[(2,.var 133 [.d (.fn 119)]),(1,.var 128 [jI (cut 0),jI (cut 1),jI (cut 2),jI (cut 3),jI (cut 4)])]
theorem k78a (b_HairBook:HairBook) (mf:List (Hair_dye×Span)) (cut:(Nat→Int)) (r:Int) (h:g78a b_HairBook mf cut=some r):SCall Tryd.prog Gs 78 [.agg [.d (.sl 4 (List.map e65 b_HairBook.Hanks)),.d (.sl 3 (List.map e67 b_HairBook.Horses)),jI b_HairBook.Dark,jI b_HairBook.Near,jI b_HairBook.Match,.fmp (List.map m124_33 mf)],.agg [jI (cut 0),jI (cut 1),jI (cut 2),jI (cut 3),jI (cut 4)],.agg [.d (.fn 119)]] [] 0 Fr.emp (jI r) [] 0 Fr.emp:=by
 unfold g78a at h
 refine SCall.mkK Tryd.func78 c78 rfl rfl (by kernel_rfl) (fun Q_0 hR_0 hN_0=>?_)
 refine Sa (sT [pR 3 0,pR 4 1,pR 5 2] [(2,.var 133 [.d (.fn 119)]),(1,.var 128 [jI (cut 0),jI (cut 1),jI (cut 2),jI (cut 3),jI (cut 4)]),(0,.var 119 (catV (cv61 b_HairBook) [.fmp (List.map m124_33 mf)]))] 3 0) ?_
 refine Sa (sT [pR 3 0,pR 4 1,pR 5 2,(7,jI 0)] [(2,.var 133 [.d (.fn 119)]),(1,.var 128 [jI (cut 0),jI (cut 1),jI (cut 2),jI (cut 3),jI (cut 4)]),(0,.var 119 (catV (cv61 b_HairBook) [.fmp (List.map m124_33 mf)]))] 3 0) ?_
 refine AW.seqK (fun K_1 hK_1=>?_)
 refine AW.sdrwK fokW (fun Q_2 hQ_2=>?_)
 refine aX 1 (sT [pR 3 0,pR 4 1,pR 5 2,(7,jI 0),(10,.agg [jI (cut 0),jI (cut 1),jI (cut 2),jI (cut 3),jI (cut 4)])] [(2,.var 133 [.d (.fn 119)]),(1,.var 128 [jI (cut 0),jI (cut 1),jI (cut 2),jI (cut 3),jI (cut 4)]),(0,.var 119 (catV (cv61 b_HairBook) [.fmp (List.map m124_33 mf)]))] 3 0) ?_
 obtain ⟨r0,hx_3,h⟩:=bsome h
 refine r_call trivial rfl (k117 _ hx_3) rfl rfl ?_
 refine r_aeq trivial rfl rfl rfl rfl ft128 rfl rfl rfl ?_
 refine Fi (sT [pR 3 0,pR 4 1,pR 5 2,(7,jI 0),(12,.d (.bool (false != (((cut 0)==(r0 0))&&(((cut 1)==(r0 1))&&(((cut 2)==(r0 2))&&(((cut 3)==(r0 3))&&(((cut 4)==(r0 4))&&true))))))))] [(2,.var 133 [.d (.fn 119)]),(1,.var 128 [jI (cut 0),jI (cut 1),jI (cut 2),jI (cut 3),jI (cut 4)]),(0,.var 119 (catV (cv61 b_HairBook) [.fmp (List.map m124_33 mf)]))] 3 0) ?_
 refine hQ_2 _ ?_
 refine AW.cond rfl (fun hb_4=>?_) (fun hb_4=>?_)
 ·have h:=ifT hb_4 h
  refine Sa (sT [(6,jI 0)] [] 3 0) ?_
  obtain rfl:=Option.some.inj h
  exact rT hR_0 (.cons (.tmp rfl) .nil)
 ·have h:=ifF hb_4 h
  refine AW.skip (hK_1 _ ?_)
  refine AW.seqK fun K_5 hK_5=>AW.srwK fun Q_6 hQ_6=>?_
  refine Au 3 (sT [pR 4 1,pR 5 2,(7,jI 0),(16,.d (.sl 4 (List.map e65 b_HairBook.Hanks)))] (y5 cut) 3 0) ?_
  refine rL rfl ?_
  refine Au 1 (sT [pR 4 1,pR 5 2,(7,jI 0),(16,.d (.sl 4 (List.map e65 b_HairBook.Hanks))),(17,jI (b_HairBook.Hanks.length:Int)),(18,jI 0)] (y5 cut) 3 0) ?_
  refine RW.nil (hQ_6 _ ?_)
  refine AW.block ?_
  refine AW.sln (t:=16) rfl (fun hN_7=>?_)
  rw [List.length_map] at hN_7
  obtain ⟨out_7,hx_7,h⟩:=bsome h
  refine AW.evSK (fun (v:Int) (n:Int)=>(sT [pR 4 1,pR 5 2,(7,jI n),(16,.d (.sl 4 (List.map e65 b_HairBook.Hanks))),(17,jI (b_HairBook.Hanks.length:Int)),(18,jI v)] (y5 cut) 3 0)) (g78a_7 cut) hx_7 (Can.kp (by kernel_rfl)) (fun v p n hi_7 hl_7 hp_7 c_7 h K_7 hK_7=>?_) (fun v n hi_7 hl_7 hout=>?_)
  ·unfold g78a_7 at h
   refine Sa (sT [pR 4 1,pR 5 2,(7,jI n),(16,.d (.sl 4 (List.map e65 b_HairBook.Hanks))),(17,jI (b_HairBook.Hanks.length:Int)),(18,jI v),(19,.d (.bool (decide (v<(b_HairBook.Hanks.length:Int)))))] (y5 cut) 3 0) ?_
   refine AW.seqK (fun K_8 hK_8=>?_)
   refine AW.cond rfl (fun hb_9=>?_) (fun hb_9=>False.elim (by have:=of_decide_eq_false hb_9;omega))
   refine AW.skip (hK_8 _ ?_)
   refine AW.seqK (fun K_10 hK_10=>?_)
   refine AW.block ?_
   refine AW.srwK (fun Q_11 hQ_11=>?_)
   refine Au 1 (sT [pR 4 1,pR 5 2,(7,jI n),(16,.d (.sl 4 (List.map e65 b_HairBook.Hanks))),(17,jI (b_HairBook.Hanks.length:Int)),(18,jI v),(20,jI v)] (y5 cut) 3 0) ?_
   refine RW.one fokW (r_iaD trivial rfl rfl hi_7 (row:=e65 p) (mapget hp_7) (r_end ?_))
   refine Au 4 (sT [pR 4 1,pR 5 2,(7,jI n),(8,jI v),pR 9 3,(16,.d (.sl 4 (List.map e65 b_HairBook.Hanks))),(17,jI (b_HairBook.Hanks.length:Int)),(18,jI v)] [(3,.var 65 (cv65 p)),(2,.var 133 [.d (.fn 119)]),(1,.var 128 [jI (cut 0),jI (cut 1),jI (cut 2),jI (cut 3),jI (cut 4)])] 4 0) ?_
   refine RW.nil (hQ_11 _ ?_)
   refine AW.srwK (fun Q_12 hQ_12=>?_)
   refine Au 1 (sT [pR 4 1,pR 5 2,(7,jI n),(8,jI v),pR 9 3,(16,.d (.sl 4 (List.map e65 b_HairBook.Hanks))),(17,jI (b_HairBook.Hanks.length:Int)),(18,jI v),(23,jI v)] [(3,.var 65 (cv65 p)),(2,.var 133 [.d (.fn 119)]),(1,.var 128 [jI (cut 0),jI (cut 1),jI (cut 2),jI (cut 3),jI (cut 4)])] 4 0) ?_
   obtain ⟨j,hv_13,h⟩:=bsome h
   refine RW.one fokW (r_iaV trivial rfl rfl rfl (ixN_ok hv_13).1 (ixN_ok hv_13).2.1 (r_end ?_))
   refine RW.one fokW (r_loadV trivial rfl rfl (u:=jI (cut j)) (agt (f:=fun k=>jI (cut k)) hv_13) (r_end ?_))
   refine Au 1 (sT [pR 4 1,pR 5 2,(7,jI n),(8,jI v),pR 9 3,(16,.d (.sl 4 (List.map e65 b_HairBook.Hanks))),(17,jI (b_HairBook.Hanks.length:Int)),(18,jI v),(26,.d (.bool (decide (0<(cut j)))))] [(3,.var 65 (cv65 p)),(2,.var 133 [.d (.fn 119)]),(1,.var 128 [jI (cut 0),jI (cut 1),jI (cut 2),jI (cut 3),jI (cut 4)])] 4 0) ?_
   refine RW.nil (hQ_12 _ ?_)
   refine AW.cond rfl (fun hb_14=>?_) (fun hb_14=>?_)
   ·have h:=ifT hb_14 h
    refine AW.drw fokW ?_
    refine aX 5 (sT [pR 4 1,pR 5 2,(8,jI v),(16,.d (.sl 4 (List.map e65 b_HairBook.Hanks))),(17,jI (b_HairBook.Hanks.length:Int)),(18,jI v),(27,jI n),(29,.d (.fn 119)),(31,.agg [jI p.Weight.Low,jI p.Weight.High])] [(3,.var 65 (cv65 p)),(2,.var 133 [.d (.fn 119)]),(1,.var 128 [jI (cut 0),jI (cut 1),jI (cut 2),jI (cut 3),jI (cut 4)])] 4 0) ?_
    obtain ⟨r0_1,hx_16,h⟩:=bsome h
    refine r_callvZ (zr:=[]) trivial rfl (.fn _) (by kernel_rfl) rfl (k119 p.Weight _ hx_16) trivial ⟨.refl _,trivial⟩ rfl rfl rfl rfl ?_
    refine aX 1 (sT [pR 4 1,pR 5 2,(16,.d (.sl 4 (List.map e65 b_HairBook.Hanks))),(17,jI (b_HairBook.Hanks.length:Int)),(18,jI v),(27,jI n),(32,jI r0_1),(33,jI v)] [(3,.var 65 (cv65 p)),(2,.var 133 [.d (.fn 119)]),(1,.var 128 [jI (cut 0),jI (cut 1),jI (cut 2),jI (cut 3),jI (cut 4)])] 4 0) ?_
    obtain ⟨j1,hv_17,h⟩:=bsome h
    refine r_iaV trivial rfl rfl rfl (ixN_ok hv_17).1 (ixN_ok hv_17).2.1 ?_
    refine r_loadV trivial rfl rfl (u:=jI (cut j1)) (agt (f:=fun k=>jI (cut k)) hv_17) ?_
    refine aX 3 (sT [pR 4 1,pR 5 2,(7,jI (wr (n+(wr (r0_1 - (cut j1)))))),(16,.d (.sl 4 (List.map e65 b_HairBook.Hanks))),(17,jI (b_HairBook.Hanks.length:Int)),(18,jI v)] [(3,.var 65 (cv65 p)),(2,.var 133 [.d (.fn 119)]),(1,.var 128 [jI (cut 0),jI (cut 1),jI (cut 2),jI (cut 3),jI (cut 4)])] 4 0) ?_
    refine Fi (sT [pR 4 1,pR 5 2,(7,jI (wr (n+(wr (r0_1 - (cut j1)))))),(16,.d (.sl 4 (List.map e65 b_HairBook.Hanks))),(17,jI (b_HairBook.Hanks.length:Int)),(18,jI v)] (y5 cut) 4 0) ?_
    refine hK_10 _ ?_
    refine Ra (sT [pR 4 1,pR 5 2,(7,jI (wr (n+(wr (r0_1 - (cut j1)))))),(16,.d (.sl 4 (List.map e65 b_HairBook.Hanks))),(17,jI (b_HairBook.Hanks.length:Int)),(18,jI (wr (v+1)))] (y5 cut) 4 0) ?_
    obtain rfl:=Option.some.inj h
    have ew:wr (v+1)=v+1:=inext (N:=(b_HairBook.Hanks.length:Int)) (by omega) (by omega) (by omega)
    rw [ew]
    exact hK_7 _ (Can.kp (by kernel_rfl))
   ·have h:=ifF hb_14 h
    refine AW.skip (hK_10 _ ?_)
    refine Ra (sT [pR 4 1,pR 5 2,(7,jI n),(16,.d (.sl 4 (List.map e65 b_HairBook.Hanks))),(17,jI (b_HairBook.Hanks.length:Int)),(18,jI (wr (v+1)))] (y5 cut) 4 0) ?_
    obtain rfl:=Option.some.inj h
    have ew:wr (v+1)=v+1:=inext (N:=(b_HairBook.Hanks.length:Int)) (by omega) (by omega) (by omega)
    rw [ew]
    exact hK_7 _ (Can.kp (by kernel_rfl))
  ·subst hout
   refine Sa (sT [pR 4 1,pR 5 2,(7,jI n),(16,.d (.sl 4 (List.map e65 b_HairBook.Hanks))),(17,jI (b_HairBook.Hanks.length:Int)),(18,jI v),(19,.d (.bool (decide (v<(b_HairBook.Hanks.length:Int)))))] (y5 cut) 3 0) ?_
   refine AW.seqK (fun K_18 hK_18=>?_)
   refine AW.cond rfl (fun hb_19=>False.elim (by have:=of_decide_eq_true hb_19;omega)) (fun hb_19=>?_)
   refine AW.exit ?_
   refine hK_5 _ ?_
   refine Sa (sT [(6,jI n)] [] 3 0) ?_
   obtain rfl:=Option.some.inj h
   exact rT hR_0 (.cons (.tmp rfl) .nil)
def g30 (x:HairBook) (plan:(List Int)):Option (Span×Int):=(g67c x plan).bind fun r_15=>match r_15 with | .next (r0_HairBook4,r1_1)=>(must (decide (r1_1≠0))).bind fun _=>some ((Span.mk 0 0),r1_1) | .brk (r0_HairBook5,mf2,r1_2)=>bif (decide (r1_2≠0)) then (some ((Span.mk 0 0),r1_2)) else ((g76 r0_HairBook5 mf2 plan).bind fun r0_3=>(g79).bind fun _=>(g78 r0_HairBook5 mf2 r0_3).bind fun r0_3_1=>(g80).bind fun _=>(g78a r0_HairBook5 mf2 r0_3).bind fun r0_3_2=>some ((Span.mk r0_3_1 r0_3_2),0))
theorem k30 (x:HairBook) (plan:(List Int)) (r:Span×Int) (h:g30 x plan=some r):SCall Tryd.prog Gs 30 [.agg [.d (.sl 4 (List.map e65 x.Hanks)),.d (.sl 3 (List.map e67 x.Horses)),jI x.Dark,jI x.Near,jI x.Match],.d (.sl 1 (List.map e3 plan))] [] 0 Fr.emp (match r with | (r0_2,r1_4)=>.tup [.agg [jI r0_2.Low,jI r0_2.High],jI r1_4]) [] 0 Fr.emp:=by
 unfold g30 at h
 refine SCall.mkK Tryd.func30 c30 rfl rfl (by kernel_rfl) (fun Q_0 hR_0 hN_0=>?_)
 refine Sa (sT [pR 2 0,pR 3 1,pR 4 2] [(2,.var 33 [jI 0,jI 0]),(1,.var 51 [.d (.sl 1 (List.map e3 plan))]),(0,.var 61 (cv61 x))] 3 0) ?_
 refine AW.srwK (fun Q_1 hQ_1=>?_)
 refine Au 2 (sT [pR 3 1,pR 4 2,(10,.agg [.d (.sl 4 (List.map e65 x.Hanks)),.d (.sl 3 (List.map e67 x.Horses)),jI x.Dark,jI x.Near,jI x.Match]),(11,.clo 77 [] [.ptr 1 0])] [(2,.var 33 [jI 0,jI 0]),(1,.var 51 [.d (.sl 1 (List.map e3 plan))])] 3 0) ?_
 obtain ⟨r_15,hx_2,h⟩:=bsome h
 rcases r_15 with (⟨r0_HairBook4,r1_1⟩ | (⟨r0_HairBook5,mf2,r1_2⟩))
 ·refine RW.one fokW (r_callS (zr:=[]) [1] trivial rfl (k67c x plan _ hx_2) ⟨rfl,trivial⟩ rfl rfl ⟨.refl _,.refl _,trivial⟩ rfl rfl rfl (r_end ?_))
  obtain ⟨_,hv_3,h⟩:=bsome h
  have hf_4:=must_ok hv_3
  refine Au 6 (sT [pR 3 1,pR 4 2,pR 6 3,(7,jI r1_1)] [(3,.var 119 (catV (cv61 r0_HairBook4) [.d (.nilMap)])),(1,.var 51 [.d (.sl 1 (List.map e3 plan))]),(2,.var 33 [jI 0,jI 0])] 4 0) ?_
  refine RW.nil (hQ_1 _ ?_)
  refine AW.seqK (fun K_5 hK_5=>?_)
  refine Sa (sT [pR 3 1,pR 4 2,pR 6 3,(7,jI r1_1),(16,.d (.bool (decide (r1_1≠0))))] [(3,.var 119 (catV (cv61 r0_HairBook4) [.d (.nilMap)])),(1,.var 51 [.d (.sl 1 (List.map e3 plan))]),(2,.var 33 [jI 0,jI 0])] 4 0) ?_
  refine AW.cond rfl (fun hb_6=>?_) (fun hb_6=>False.elim (by rw [hf_4] at hb_6;cases hb_6))
  refine Sa (sT [pR 4 2,(5,jI r1_1)] [(2,.var 33 [jI 0,jI 0])] 4 0) ?_
  obtain rfl:=Option.some.inj h
  exact rT hR_0 (.cons (.agg rfl rfl (Nat.le_of_ble_eq_true rfl)) (.cons (.tmp rfl) .nil))
 ·refine RW.one fokW (r_callS (zr:=[]) [1] trivial rfl (k67c x plan _ hx_2) ⟨rfl,trivial⟩ rfl rfl ⟨.refl _,.refl _,trivial⟩ rfl rfl rfl (r_end ?_))
  refine Au 6 (sT [pR 3 1,pR 4 2,pR 6 3,(7,jI r1_2)] [(3,.var 119 (catV (cv61 r0_HairBook5) [.fmp (List.map m124_33 mf2)])),(1,.var 51 [.d (.sl 1 (List.map e3 plan))]),(2,.var 33 [jI 0,jI 0])] 4 0) ?_
  refine RW.nil (hQ_1 _ ?_)
  refine AW.seqK (fun K_7 hK_7=>?_)
  refine Sa (sT [pR 3 1,pR 4 2,pR 6 3,(7,jI r1_2),(16,.d (.bool (decide (r1_2≠0))))] [(3,.var 119 (catV (cv61 r0_HairBook5) [.fmp (List.map m124_33 mf2)])),(1,.var 51 [.d (.sl 1 (List.map e3 plan))]),(2,.var 33 [jI 0,jI 0])] 4 0) ?_
  refine AW.cond rfl (fun hb_8=>?_) (fun hb_8=>?_)
  ·have h:=ifT hb_8 h
   refine Sa (sT [pR 4 2,(5,jI r1_2)] [(2,.var 33 [jI 0,jI 0])] 4 0) ?_
   obtain rfl:=Option.some.inj h
   exact rT hR_0 (.cons (.agg rfl rfl (Nat.le_of_ble_eq_true rfl)) (.cons (.tmp rfl) .nil))
  ·have h:=ifF hb_8 h
   refine AW.skip (hK_7 _ ?_)
   refine AW.srwK (fun Q_9 hQ_9=>?_)
   refine Au 2 (sT [pR 4 2,pR 6 3,(19,.agg [.d (.sl 4 (List.map e65 r0_HairBook5.Hanks)),.d (.sl 3 (List.map e67 r0_HairBook5.Horses)),jI r0_HairBook5.Dark,jI r0_HairBook5.Near,jI r0_HairBook5.Match,.fmp (List.map m124_33 mf2)]),(20,.d (.sl 1 (List.map e3 plan)))] [(3,.var 119 (catV (cv61 r0_HairBook5) [.fmp (List.map m124_33 mf2)])),(2,.var 33 [jI 0,jI 0])] 4 0) ?_
   obtain ⟨r0_3,hx_10,h⟩:=bsome h
   refine rC (k76 r0_HairBook5 mf2 plan _ hx_10) ?_
   refine Au 2 (sT [pR 4 2,pR 6 3,pR 8 4] [(4,.var 128 [jI (r0_3 0),jI (r0_3 1),jI (r0_3 2),jI (r0_3 3),jI (r0_3 4)]),(3,.var 119 (catV (cv61 r0_HairBook5) [.fmp (List.map m124_33 mf2)])),(2,.var 33 [jI 0,jI 0])] 5 0) ?_
   refine RW.nil (hQ_9 _ ?_)
   refine AW.sdrwK fokW (fun Q_11 hQ_11=>?_)
   refine aX 2 (sT [pR 4 2,pR 6 3,pR 8 4,(22,.agg [.d (.sl 4 (List.map e65 r0_HairBook5.Hanks)),.d (.sl 3 (List.map e67 r0_HairBook5.Horses)),jI r0_HairBook5.Dark,jI r0_HairBook5.Near,jI r0_HairBook5.Match,.fmp (List.map m124_33 mf2)]),(23,.agg [jI (r0_3 0),jI (r0_3 1),jI (r0_3 2),jI (r0_3 3),jI (r0_3 4)])] [(4,.var 128 [jI (r0_3 0),jI (r0_3 1),jI (r0_3 2),jI (r0_3 3),jI (r0_3 4)]),(3,.var 119 (catV (cv61 r0_HairBook5) [.fmp (List.map m124_33 mf2)])),(2,.var 33 [jI 0,jI 0])] 5 0) ?_
   obtain ⟨⟨⟩,hx_12,h⟩:=bsome h
   refine r_call trivial rfl (k79 _ hx_12) rfl rfl ?_
   obtain ⟨r0_3_1,hx_13,h⟩:=bsome h
   refine r_call trivial rfl (k78 r0_HairBook5 mf2 r0_3 _ hx_13) rfl rfl ?_
   refine aX 2 (sT [pR 4 2,(25,jI r0_3_1),(26,.agg [.d (.sl 4 (List.map e65 r0_HairBook5.Hanks)),.d (.sl 3 (List.map e67 r0_HairBook5.Horses)),jI r0_HairBook5.Dark,jI r0_HairBook5.Near,jI r0_HairBook5.Match,.fmp (List.map m124_33 mf2)]),(27,.agg [jI (r0_3 0),jI (r0_3 1),jI (r0_3 2),jI (r0_3 3),jI (r0_3 4)])] [(4,.var 128 [jI (r0_3 0),jI (r0_3 1),jI (r0_3 2),jI (r0_3 3),jI (r0_3 4)]),(3,.var 119 (catV (cv61 r0_HairBook5) [.fmp (List.map m124_33 mf2)])),(2,.var 33 [jI 0,jI 0])] 5 0) ?_
   obtain ⟨⟨⟩,hx_14,h⟩:=bsome h
   refine r_call trivial rfl (k80 _ hx_14) rfl rfl ?_
   obtain ⟨r0_3_2,hx_15,h⟩:=bsome h
   refine r_call trivial rfl (k78a r0_HairBook5 mf2 r0_3 _ hx_15) rfl rfl ?_
   refine aX 3 (sT [pR 4 2,(5,jI 0)] [(2,.var 33 [jI r0_3_1,jI r0_3_2]),(4,.var 128 [jI (r0_3 0),jI (r0_3 1),jI (r0_3 2),jI (r0_3 3),jI (r0_3 4)]),(3,.var 119 (catV (cv61 r0_HairBook5) [.fmp (List.map m124_33 mf2)]))] 5 0) ?_
   refine Fi (sT [pR 4 2,(5,jI 0)] [(2,.var 33 [jI r0_3_1,jI r0_3_2])] 5 0) ?_
   refine hQ_11 _ ?_
   obtain rfl:=Option.some.inj h
   exact rT hR_0 (.cons (.agg rfl rfl (Nat.le_of_ble_eq_true rfl)) (.cons (.tmp rfl) .nil))
def g86 (b_HairBook:HairBook) (mf:List (Hair_dye×Span)) (m0_HairBook:HairBook) (mf_1:List (Hair_dye×Span)):Option (HairBook×(List (Hair_dye×Span))):=some (b_HairBook,mf)
theorem k86 (b_HairBook:HairBook) (mf:List (Hair_dye×Span)) (m0_HairBook:HairBook) (mf_1:List (Hair_dye×Span)) (r:HairBook×(List (Hair_dye×Span))) (h:g86 b_HairBook mf m0_HairBook mf_1=some r):SCall Tryd.prog Gs 86 [.agg [.d (.sl 4 (List.map e65 b_HairBook.Hanks)),.d (.sl 3 (List.map e67 b_HairBook.Horses)),jI b_HairBook.Dark,jI b_HairBook.Near,jI b_HairBook.Match,.fmp (List.map m124_33 mf)],.agg [.d (.fn 118)],.clo 87 [.agg [.d (.sl 4 (List.map e65 m0_HairBook.Hanks)),.d (.sl 3 (List.map e67 m0_HairBook.Horses)),jI m0_HairBook.Dark,jI m0_HairBook.Near,jI m0_HairBook.Match,.fmp (List.map m124_33 mf_1)]] []] [] 0 Fr.emp (match r with | (o0_HairBook,mf1)=>.clo 121 [] [.ptr 0 0,.ptr 1 0,.ptr 2 0]) (match r with | (o0_HairBook,mf1)=>[(0,.var 119 (catV (cv61 o0_HairBook) [.fmp (List.map m124_33 mf1)])),(1,.var 133 [.d (.fn 118)]),(2,.var 108 [.clo 87 [.agg [.d (.sl 4 (List.map e65 m0_HairBook.Hanks)),.d (.sl 3 (List.map e67 m0_HairBook.Horses)),jI m0_HairBook.Dark,jI m0_HairBook.Near,jI m0_HairBook.Match,.fmp (List.map m124_33 mf_1)]] []])]) 3 Fr.emp:=by
 unfold g86 at h
 refine SCall.mkK Tryd.func86 c86 rfl rfl (by kernel_rfl) (fun Q_0 hR_0 hN_0=>?_)
 refine Sa (sT [pR 3 0,pR 4 1,pR 5 2] [(2,.var 108 [.clo 87 [.agg [.d (.sl 4 (List.map e65 m0_HairBook.Hanks)),.d (.sl 3 (List.map e67 m0_HairBook.Horses)),jI m0_HairBook.Dark,jI m0_HairBook.Near,jI m0_HairBook.Match,.fmp (List.map m124_33 mf_1)]] []]),(1,.var 133 [.d (.fn 118)]),(0,.var 119 (catV (cv61 b_HairBook) [.fmp (List.map m124_33 mf)]))] 3 0) ?_
 refine Sa (sT [(6,.clo 121 [] [.ptr 0 0,.ptr 1 0,.ptr 2 0])] [(2,.var 108 [.clo 87 [.agg [.d (.sl 4 (List.map e65 m0_HairBook.Hanks)),.d (.sl 3 (List.map e67 m0_HairBook.Horses)),jI m0_HairBook.Dark,jI m0_HairBook.Near,jI m0_HairBook.Match,.fmp (List.map m124_33 mf_1)]] []]),(1,.var 133 [.d (.fn 118)]),(0,.var 119 (catV (cv61 b_HairBook) [.fmp (List.map m124_33 mf)]))] 3 0) ?_
 obtain rfl:=Option.some.inj h
 exact rT hR_0 (.cons (.tmp rfl) .nil)
end Go.Proofs.Tl
