/- Told functions, and that the program does so, part 1. Conditions: none. -/
import Derived.Test.YtjooihelppcfkaaDoorDa
set_option linter.unusedVariables false
set_option linter.unusedSimpArgs false
namespace Go.Proofs.Tr
open Go Go.Abs Go.Proofs
def g97 (n:Int) (low:Int) (high:Int):Option Bool:=some ((decide (low≤n))&&(decide (n≤high)))
theorem k97 (n:Int) (low:Int) (high:Int) (r:Bool) (h:g97 n low high=some r):SCall Tryd.prog Gs 97 [jI n,jI low,jI high] [] 0 Fr.emp (.d (.bool r)) [] 0 Fr.emp:=by
 unfold g97 at h
 refine SCall.mkK Tryd.func97 c97 rfl rfl (by kernel_rfl) (fun Q_0 hR_0 hN_0=>?_)
 refine Sa (sT [(0,jI n),(1,jI low),(2,jI high)] [] 0 0) ?_
 refine AW.sa fokW [10] (sT [(6,.d (.bool ((decide (low≤n))&&(decide (n≤high)))))] [] 0 0) (by kernel_rfl) ?_
 obtain rfl:=Option.some.inj h
 exact rT hR_0 (.cons (.tmp rfl) .nil)
def g98 (s:Span) (low:Int) (high:Int) (wide:Int):Option Bool:=some ((((decide (low≤s.Low))&&(decide (s.Low≤s.High)))&&(decide (s.High≤high)))&&(decide ((wr (s.High - s.Low))≤wide)))
theorem k98 (s:Span) (low:Int) (high:Int) (wide:Int) (r:Bool) (h:g98 s low high wide=some r):SCall Tryd.prog Gs 98 [.agg [jI s.Low,jI s.High],jI low,jI high,jI wide] [] 0 Fr.emp (.d (.bool r)) [] 0 Fr.emp:=by
 unfold g98 at h
 refine SCall.mkK Tryd.func98 c98 rfl rfl (by kernel_rfl) (fun Q_0 hR_0 hN_0=>?_)
 refine Sa (sT [(1,jI low),(2,jI high),(3,jI wide),pR 4 0] [(0,.var 37 [jI s.Low,jI s.High])] 1 0) ?_
 refine AW.sa fokW [13,20,26] (sT [(8,.d (.bool ((((decide (low≤s.Low))&&(decide (s.Low≤s.High)))&&(decide (s.High≤high)))&&(decide ((wr (s.High - s.Low))≤wide)))))] [] 1 0) (by kernel_rfl) ?_
 obtain rfl:=Option.some.inj h
 exact rT hR_0 (.cons (.tmp rfl) .nil)
def g67_31:Int→HairHorse→Bool→Option Bool:=fun v7 p1 ok1=>(bif ok1 then ((g97 p1.Mane 1 30).bind fun r0_5=>some r0_5) else (some false)).bind fun v8=>(bif v8 then ((g97 p1.Tail 1 30).bind fun r0_6=>some r0_6) else (some false)).bind fun v9=>(bif v9 then ((g97 p1.Shade 0 25).bind fun r0_7=>some r0_7) else (some false)).bind fun v10=>some v10
def g67_15:Int→HairHank→Bool→Option Bool:=fun v4 p ok=>(bif ok then ((g98 p.Weight 1 60 4).bind fun r0_3=>some r0_3) else (some false)).bind fun v5=>(bif v5 then ((g98 p.Shade 0 20 2).bind fun r0_4=>some r0_4) else (some false)).bind fun v6=>some v6
def g67 (b:HairBook):Option Int:=(bif (decide ((b.Hanks.length:Int)≤4)) then (some (decide ((b.Horses.length:Int)≤3))) else (some false)).bind fun v=>(bif v then ((g97 b.Dark 0 4).bind fun r0=>some r0) else (some false)).bind fun v1=>(bif v1 then ((g97 b.Near 0 3).bind fun r0_1=>some r0_1) else (some false)).bind fun v2=>(bif v2 then ((g97 b.Match 0 3).bind fun r0_2=>some r0_2) else (some false)).bind fun v3=>(eachS g67_15 b.Hanks 0 v3).bind fun ok=>(eachS g67_31 b.Horses 0 ok).bind fun ok1=>bif (!ok1) then (some 60) else (some 0)
theorem k67 (b:HairBook) (r:Int) (h:g67 b=some r):SCall Tryd.prog Gs 67 [.agg (cv25 b)] [] 0 Fr.emp (jI r) [] 0 Fr.emp:=by
 unfold g67 at h
 refine SCall.mkK Tryd.func67 c67 rfl rfl (by kernel_rfl) (fun Q_0 hR_0 hN_0=>?_)
 refine Sa (sT [pR 1 0] [(0,.var 25 (cv25 b))] 1 0) ?_
 refine AW.srwK (fun Q_1 hQ_1=>?_)
 refine Au 2 (sT [pR 1 0,(9,.d (.sl 4 (List.map e107 b.Hanks)))] [(0,.var 25 (cv25 b))] 1 0) ?_
 refine rL rfl ?_
 refine Au 2 (sT [pR 1 0,(12,.d (.bool (decide ((b.Hanks.length:Int)≤4))))] [(0,.var 25 (cv25 b))] 1 0) ?_
 obtain ⟨v,hx_2,h⟩:=bsome h
 refine RW.cut fokW 5 ((sT [pR 1 0,(17,.d (.bool v))] [(0,.var 25 (cv25 b))] 1 0)) ?_ ?_
 ·refine r_split 12 rfl (fun hb_3=>?_) (fun hb_3=>?_)
  ·have h:=ifT hb_3 hx_2
   refine aX 2 (sT [pR 1 0,(12,.d (.bool true)),(14,.d (.sl 3 (List.map e112 b.Horses)))] [(0,.var 25 (cv25 b))] 1 0) ?_
   refine r_lenX rfl rfl lenm ?_
   refine aX 2 (sT [pR 1 0,(17,.d (.bool (decide ((b.Horses.length:Int)≤3))))] [(0,.var 25 (cv25 b))] 1 0) ?_
   obtain rfl:=Option.some.inj h
   refine RunC.finJ (Can.kp (by kernel_rfl))
  ·have h:=ifF hb_3 hx_2
   refine aX 5 (sT [pR 1 0,(17,.d (.bool false))] [(0,.var 25 (cv25 b))] 1 0) ?_
   obtain rfl:=Option.some.inj h
   refine RunC.finJ (Can.kp (by kernel_rfl))
 ·refine Au 1 (sT [pR 1 0,(18,.d (.bool v))] [(0,.var 25 (cv25 b))] 1 0) ?_
  obtain ⟨v1,hx_4,h⟩:=bsome h
  refine RW.cut fokW 4 ((sT [pR 1 0,(22,.d (.bool v1))] [(0,.var 25 (cv25 b))] 1 0)) ?_ ?_
  ·refine r_split 18 rfl (fun hb_6=>?_) (fun hb_6=>?_)
   ·have h:=ifT hb_6 hx_4
    refine aX 2 (sT [pR 1 0,(18,.d (.bool true)),(20,jI b.Dark)] [(0,.var 25 (cv25 b))] 1 0) ?_
    obtain ⟨r0,hx_5,h⟩:=bsome h
    refine r_call rfl rfl (k97 b.Dark 0 4 _ hx_5) rfl rfl ?_
    refine aX 1 (sT [pR 1 0,(22,.d (.bool r0))] [(0,.var 25 (cv25 b))] 1 0) ?_
    obtain rfl:=Option.some.inj h
    refine RunC.finJ (Can.kp (by kernel_rfl))
   ·have h:=ifF hb_6 hx_4
    refine aX 4 (sT [pR 1 0,(22,.d (.bool false))] [(0,.var 25 (cv25 b))] 1 0) ?_
    obtain rfl:=Option.some.inj h
    refine RunC.finJ (Can.kp (by kernel_rfl))
  ·refine Au 1 (sT [pR 1 0,(23,.d (.bool v1))] [(0,.var 25 (cv25 b))] 1 0) ?_
   obtain ⟨v2,hx_7,h⟩:=bsome h
   refine RW.cut fokW 4 ((sT [pR 1 0,(27,.d (.bool v2))] [(0,.var 25 (cv25 b))] 1 0)) ?_ ?_
   ·refine r_split 23 rfl (fun hb_9=>?_) (fun hb_9=>?_)
    ·have h:=ifT hb_9 hx_7
     refine aX 2 (sT [pR 1 0,(23,.d (.bool true)),(25,jI b.Near)] [(0,.var 25 (cv25 b))] 1 0) ?_
     obtain ⟨r0_1,hx_8,h⟩:=bsome h
     refine r_call rfl rfl (k97 b.Near 0 3 _ hx_8) rfl rfl ?_
     refine aX 1 (sT [pR 1 0,(27,.d (.bool r0_1))] [(0,.var 25 (cv25 b))] 1 0) ?_
     obtain rfl:=Option.some.inj h
     refine RunC.finJ (Can.kp (by kernel_rfl))
    ·have h:=ifF hb_9 hx_7
     refine aX 4 (sT [pR 1 0,(27,.d (.bool false))] [(0,.var 25 (cv25 b))] 1 0) ?_
     obtain rfl:=Option.some.inj h
     refine RunC.finJ (Can.kp (by kernel_rfl))
   ·refine Au 1 (sT [pR 1 0,(28,.d (.bool v2))] [(0,.var 25 (cv25 b))] 1 0) ?_
    obtain ⟨v3,hx_10,h⟩:=bsome h
    refine RW.cut fokW 4 ((sT [pR 1 0,(32,.d (.bool v3))] [(0,.var 25 (cv25 b))] 1 0)) ?_ ?_
    ·refine r_split 28 rfl (fun hb_12=>?_) (fun hb_12=>?_)
     ·have h:=ifT hb_12 hx_10
      refine aX 2 (sT [pR 1 0,(28,.d (.bool true)),(30,jI b.Match)] [(0,.var 25 (cv25 b))] 1 0) ?_
      obtain ⟨r0_2,hx_11,h⟩:=bsome h
      refine r_call rfl rfl (k97 b.Match 0 3 _ hx_11) rfl rfl ?_
      refine aX 1 (sT [pR 1 0,(32,.d (.bool r0_2))] [(0,.var 25 (cv25 b))] 1 0) ?_
      obtain rfl:=Option.some.inj h
      refine RunC.finJ (Can.kp (by kernel_rfl))
     ·have h:=ifF hb_12 hx_10
      refine aX 4 (sT [pR 1 0,(32,.d (.bool false))] [(0,.var 25 (cv25 b))] 1 0) ?_
      obtain rfl:=Option.some.inj h
      refine RunC.finJ (Can.kp (by kernel_rfl))
    ·refine Au 1 (sT [pR 1 0,(3,.d (.bool v3))] [(0,.var 25 (cv25 b))] 1 0) ?_
     refine RW.nil (hQ_1 _ ?_)
     refine AW.seqK fun K_13 hK_13=>AW.srwK fun Q_14 hQ_14=>?_
     refine Au 2 (sT [pR 1 0,(3,.d (.bool v3)),(34,.d (.sl 4 (List.map e107 b.Hanks)))] [(0,.var 25 (cv25 b))] 1 0) ?_
     refine rL rfl ?_
     refine Au 1 (sT [pR 1 0,(3,.d (.bool v3)),(34,.d (.sl 4 (List.map e107 b.Hanks))),(35,jI (b.Hanks.length:Int)),(36,jI 0)] [(0,.var 25 (cv25 b))] 1 0) ?_
     refine RW.nil (hQ_14 _ ?_)
     refine AW.block ?_
     refine AW.sln (t:=34) rfl (fun hN_15=>?_)
     rw [List.length_map] at hN_15
     obtain ⟨out_15,hx_15,h⟩:=bsome h
     refine AW.evSK (fun (v4:Int) (ok:Bool)=>(sT [pR 1 0,(3,.d (.bool ok)),(34,.d (.sl 4 (List.map e107 b.Hanks))),(35,jI (b.Hanks.length:Int)),(36,jI v4)] [(0,.var 25 (cv25 b))] 1 0)) g67_15 hx_15 (Can.kp (by kernel_rfl)) (fun v4 p ok hi_15 hl_15 hp_15 c_15 h K_15 hK_15=>?_) (fun v4 ok hi_15 hl_15 hout=>?_)
     ·unfold g67_15 at h
      refine Sa (sT [pR 1 0,(3,.d (.bool ok)),(34,.d (.sl 4 (List.map e107 b.Hanks))),(35,jI (b.Hanks.length:Int)),(36,jI v4),(37,.d (.bool (decide (v4<(b.Hanks.length:Int)))))] [(0,.var 25 (cv25 b))] 1 0) ?_
      refine AW.seqK (fun K_16 hK_16=>?_)
      refine AW.cond rfl (fun hb_17=>?_) (fun hb_17=>False.elim (by have:=of_decide_eq_false hb_17;omega))
      refine AW.skip (hK_16 _ ?_)
      refine AW.seqK (fun K_18 hK_18=>?_)
      refine AW.block ?_
      refine AW.srwK (fun Q_19 hQ_19=>?_)
      refine RW.one fokW (r_iaD trivial rfl rfl hi_15 (row:=e107 p) (mapget hp_15) (r_end ?_))
      refine Au 3 (sT [pR 1 0,(3,.d (.bool ok)),pR 5 1,(34,.d (.sl 4 (List.map e107 b.Hanks))),(35,jI (b.Hanks.length:Int)),(36,jI v4)] [(1,.var 107 (cv107 p)),(0,.var 25 (cv25 b))] 2 0) ?_
      refine RW.nil (hQ_19 _ ?_)
      refine AW.rw ?_
      refine Au 2 (sT [pR 1 0,pR 5 1,(34,.d (.sl 4 (List.map e107 b.Hanks))),(35,jI (b.Hanks.length:Int)),(36,jI v4),(41,.d (.bool ok))] [(1,.var 107 (cv107 p)),(0,.var 25 (cv25 b))] 2 0) ?_
      obtain ⟨v5,hx_21,h⟩:=bsome h
      refine RW.cut fokW 4 ((sT [pR 1 0,pR 5 1,(34,.d (.sl 4 (List.map e107 b.Hanks))),(35,jI (b.Hanks.length:Int)),(36,jI v4),(45,.d (.bool v5))] [(1,.var 107 (cv107 p)),(0,.var 25 (cv25 b))] 2 0)) ?_ ?_
      ·refine r_split 41 rfl (fun hb_23=>?_) (fun hb_23=>?_)
       ·have h:=ifT hb_23 hx_21
        refine aX 2 (sT [pR 1 0,pR 5 1,(34,.d (.sl 4 (List.map e107 b.Hanks))),(35,jI (b.Hanks.length:Int)),(36,jI v4),(41,.d (.bool true)),(43,.agg [jI p.Weight.Low,jI p.Weight.High])] [(1,.var 107 (cv107 p)),(0,.var 25 (cv25 b))] 2 0) ?_
        obtain ⟨r0_3,hx_22,h⟩:=bsome h
        refine r_call rfl rfl (k98 p.Weight 1 60 4 _ hx_22) rfl rfl ?_
        refine aX 1 (sT [pR 1 0,pR 5 1,(34,.d (.sl 4 (List.map e107 b.Hanks))),(35,jI (b.Hanks.length:Int)),(36,jI v4),(45,.d (.bool r0_3))] [(1,.var 107 (cv107 p)),(0,.var 25 (cv25 b))] 2 0) ?_
        obtain rfl:=Option.some.inj h
        refine RunC.finJ (Can.kp (by kernel_rfl))
       ·have h:=ifF hb_23 hx_21
        refine aX 4 (sT [pR 1 0,pR 5 1,(34,.d (.sl 4 (List.map e107 b.Hanks))),(35,jI (b.Hanks.length:Int)),(36,jI v4),(45,.d (.bool false))] [(1,.var 107 (cv107 p)),(0,.var 25 (cv25 b))] 2 0) ?_
        obtain rfl:=Option.some.inj h
        refine RunC.finJ (Can.kp (by kernel_rfl))
      ·refine Au 1 (sT [pR 1 0,pR 5 1,(34,.d (.sl 4 (List.map e107 b.Hanks))),(35,jI (b.Hanks.length:Int)),(36,jI v4),(46,.d (.bool v5))] [(1,.var 107 (cv107 p)),(0,.var 25 (cv25 b))] 2 0) ?_
       obtain ⟨v6,hx_24,h⟩:=bsome h
       refine RW.cut fokW 4 ((sT [pR 1 0,(34,.d (.sl 4 (List.map e107 b.Hanks))),(35,jI (b.Hanks.length:Int)),(36,jI v4),(50,.d (.bool v6))] [(0,.var 25 (cv25 b))] 2 0)) ?_ ?_
       ·refine r_split 46 rfl (fun hb_26=>?_) (fun hb_26=>?_)
        ·have h:=ifT hb_26 hx_24
         refine aX 2 (sT [pR 1 0,(34,.d (.sl 4 (List.map e107 b.Hanks))),(35,jI (b.Hanks.length:Int)),(36,jI v4),(46,.d (.bool true)),(48,.agg [jI p.Shade.Low,jI p.Shade.High])] [(1,.var 107 (cv107 p)),(0,.var 25 (cv25 b))] 2 0) ?_
         obtain ⟨r0_4,hx_25,h⟩:=bsome h
         refine r_call rfl rfl (k98 p.Shade 0 20 2 _ hx_25) rfl rfl ?_
         refine aX 1 (sT [pR 1 0,(34,.d (.sl 4 (List.map e107 b.Hanks))),(35,jI (b.Hanks.length:Int)),(36,jI v4),(50,.d (.bool r0_4))] [(1,.var 107 (cv107 p)),(0,.var 25 (cv25 b))] 2 0) ?_
         obtain rfl:=Option.some.inj h
         refine RunC.finJ (Can.kp (by kernel_rfl))
        ·have h:=ifF hb_26 hx_24
         refine aX 4 (sT [pR 1 0,(34,.d (.sl 4 (List.map e107 b.Hanks))),(35,jI (b.Hanks.length:Int)),(36,jI v4),(50,.d (.bool false))] [(1,.var 107 (cv107 p)),(0,.var 25 (cv25 b))] 2 0) ?_
         obtain rfl:=Option.some.inj h
         refine RunC.finJ (Can.kp (by kernel_rfl))
       ·refine Au 1 (sT [pR 1 0,(3,.d (.bool v6)),(34,.d (.sl 4 (List.map e107 b.Hanks))),(35,jI (b.Hanks.length:Int)),(36,jI v4)] [(0,.var 25 (cv25 b))] 2 0) ?_
        refine RW.nil ?_
        refine hK_18 _ ?_
        refine Ra (sT [pR 1 0,(3,.d (.bool v6)),(34,.d (.sl 4 (List.map e107 b.Hanks))),(35,jI (b.Hanks.length:Int)),(36,jI (wr (v4+1)))] [(0,.var 25 (cv25 b))] 2 0) ?_
        obtain rfl:=Option.some.inj h
        have ew:wr (v4+1)=v4+1:=inext (N:=(b.Hanks.length:Int)) (by omega) (by omega) (by omega)
        rw [ew]
        exact hK_15 _ (Can.kp (by kernel_rfl))
     ·subst hout
      refine Sa (sT [pR 1 0,(3,.d (.bool ok)),(34,.d (.sl 4 (List.map e107 b.Hanks))),(35,jI (b.Hanks.length:Int)),(36,jI v4),(37,.d (.bool (decide (v4<(b.Hanks.length:Int)))))] [(0,.var 25 (cv25 b))] 1 0) ?_
      refine AW.seqK (fun K_27 hK_27=>?_)
      refine AW.cond rfl (fun hb_28=>False.elim (by have:=of_decide_eq_true hb_28;omega)) (fun hb_28=>?_)
      refine AW.exit ?_
      refine hK_13 _ ?_
      refine AW.seqK fun K_29 hK_29=>AW.srwK fun Q_30 hQ_30=>?_
      refine Au 2 (sT [(3,.d (.bool ok)),(53,.d (.sl 3 (List.map e112 b.Horses)))] [] 1 0) ?_
      refine rL rfl ?_
      refine Au 1 (sT [(3,.d (.bool ok)),(53,.d (.sl 3 (List.map e112 b.Horses))),(54,jI (b.Horses.length:Int)),(55,jI 0)] [] 1 0) ?_
      refine RW.nil (hQ_30 _ ?_)
      refine AW.block ?_
      refine AW.sln (t:=53) rfl (fun hN_31=>?_)
      rw [List.length_map] at hN_31
      obtain ⟨out_31,hx_31,h⟩:=bsome h
      refine AW.evSK (fun (v7:Int) (ok1:Bool)=>(sT [(3,.d (.bool ok1)),(53,.d (.sl 3 (List.map e112 b.Horses))),(54,jI (b.Horses.length:Int)),(55,jI v7)] [] 1 0)) g67_31 hx_31 (Can.kp (by kernel_rfl)) (fun v7 p1 ok1 hi_31 hl_31 hp_31 c_31 h K_31 hK_31=>?_) (fun v7 ok1 hi_31 hl_31 hout=>?_)
      ·unfold g67_31 at h
       refine Sa (sT [(3,.d (.bool ok1)),(53,.d (.sl 3 (List.map e112 b.Horses))),(54,jI (b.Horses.length:Int)),(55,jI v7),(56,.d (.bool (decide (v7<(b.Horses.length:Int)))))] [] 1 0) ?_
       refine AW.seqK (fun K_32 hK_32=>?_)
       refine AW.cond rfl (fun hb_33=>?_) (fun hb_33=>False.elim (by have:=of_decide_eq_false hb_33;omega))
       refine AW.skip (hK_32 _ ?_)
       refine AW.seqK (fun K_34 hK_34=>?_)
       refine AW.block ?_
       refine AW.srwK (fun Q_35 hQ_35=>?_)
       refine RW.one fokW (r_iaD trivial rfl rfl hi_31 (row:=e112 p1) (mapget hp_31) (r_end ?_))
       refine Au 3 (sT [(3,.d (.bool ok1)),pR 7 1,(53,.d (.sl 3 (List.map e112 b.Horses))),(54,jI (b.Horses.length:Int)),(55,jI v7)] [(1,.var 112 [jI p1.Mane,jI p1.Tail,jI p1.Shade])] 2 0) ?_
       refine RW.nil (hQ_35 _ ?_)
       refine AW.rw ?_
       refine Au 2 (sT [pR 7 1,(53,.d (.sl 3 (List.map e112 b.Horses))),(54,jI (b.Horses.length:Int)),(55,jI v7),(60,.d (.bool ok1))] [(1,.var 112 [jI p1.Mane,jI p1.Tail,jI p1.Shade])] 2 0) ?_
       obtain ⟨v8,hx_37,h⟩:=bsome h
       refine RW.cut fokW 4 ((sT [pR 7 1,(53,.d (.sl 3 (List.map e112 b.Horses))),(54,jI (b.Horses.length:Int)),(55,jI v7),(64,.d (.bool v8))] [(1,.var 112 [jI p1.Mane,jI p1.Tail,jI p1.Shade])] 2 0)) ?_ ?_
       ·refine r_split 60 rfl (fun hb_39=>?_) (fun hb_39=>?_)
        ·have h:=ifT hb_39 hx_37
         refine aX 2 (sT [pR 7 1,(53,.d (.sl 3 (List.map e112 b.Horses))),(54,jI (b.Horses.length:Int)),(55,jI v7),(60,.d (.bool true)),(62,jI p1.Mane)] [(1,.var 112 [jI p1.Mane,jI p1.Tail,jI p1.Shade])] 2 0) ?_
         obtain ⟨r0_5,hx_38,h⟩:=bsome h
         refine r_call rfl rfl (k97 p1.Mane 1 30 _ hx_38) rfl rfl ?_
         refine aX 1 (sT [pR 7 1,(53,.d (.sl 3 (List.map e112 b.Horses))),(54,jI (b.Horses.length:Int)),(55,jI v7),(64,.d (.bool r0_5))] [(1,.var 112 [jI p1.Mane,jI p1.Tail,jI p1.Shade])] 2 0) ?_
         obtain rfl:=Option.some.inj h
         refine RunC.finJ (Can.kp (by kernel_rfl))
        ·have h:=ifF hb_39 hx_37
         refine aX 4 (sT [pR 7 1,(53,.d (.sl 3 (List.map e112 b.Horses))),(54,jI (b.Horses.length:Int)),(55,jI v7),(64,.d (.bool false))] [(1,.var 112 [jI p1.Mane,jI p1.Tail,jI p1.Shade])] 2 0) ?_
         obtain rfl:=Option.some.inj h
         refine RunC.finJ (Can.kp (by kernel_rfl))
       ·refine Au 1 (sT [pR 7 1,(53,.d (.sl 3 (List.map e112 b.Horses))),(54,jI (b.Horses.length:Int)),(55,jI v7),(65,.d (.bool v8))] [(1,.var 112 [jI p1.Mane,jI p1.Tail,jI p1.Shade])] 2 0) ?_
        obtain ⟨v9,hx_40,h⟩:=bsome h
        refine RW.cut fokW 4 ((sT [pR 7 1,(53,.d (.sl 3 (List.map e112 b.Horses))),(54,jI (b.Horses.length:Int)),(55,jI v7),(69,.d (.bool v9))] [(1,.var 112 [jI p1.Mane,jI p1.Tail,jI p1.Shade])] 2 0)) ?_ ?_
        ·refine r_split 65 rfl (fun hb_42=>?_) (fun hb_42=>?_)
         ·have h:=ifT hb_42 hx_40
          refine aX 2 (sT [pR 7 1,(53,.d (.sl 3 (List.map e112 b.Horses))),(54,jI (b.Horses.length:Int)),(55,jI v7),(65,.d (.bool true)),(67,jI p1.Tail)] [(1,.var 112 [jI p1.Mane,jI p1.Tail,jI p1.Shade])] 2 0) ?_
          obtain ⟨r0_6,hx_41,h⟩:=bsome h
          refine r_call rfl rfl (k97 p1.Tail 1 30 _ hx_41) rfl rfl ?_
          refine aX 1 (sT [pR 7 1,(53,.d (.sl 3 (List.map e112 b.Horses))),(54,jI (b.Horses.length:Int)),(55,jI v7),(69,.d (.bool r0_6))] [(1,.var 112 [jI p1.Mane,jI p1.Tail,jI p1.Shade])] 2 0) ?_
          obtain rfl:=Option.some.inj h
          refine RunC.finJ (Can.kp (by kernel_rfl))
         ·have h:=ifF hb_42 hx_40
          refine aX 4 (sT [pR 7 1,(53,.d (.sl 3 (List.map e112 b.Horses))),(54,jI (b.Horses.length:Int)),(55,jI v7),(69,.d (.bool false))] [(1,.var 112 [jI p1.Mane,jI p1.Tail,jI p1.Shade])] 2 0) ?_
          obtain rfl:=Option.some.inj h
          refine RunC.finJ (Can.kp (by kernel_rfl))
        ·refine Au 1 (sT [pR 7 1,(53,.d (.sl 3 (List.map e112 b.Horses))),(54,jI (b.Horses.length:Int)),(55,jI v7),(70,.d (.bool v9))] [(1,.var 112 [jI p1.Mane,jI p1.Tail,jI p1.Shade])] 2 0) ?_
         obtain ⟨v10,hx_43,h⟩:=bsome h
         refine RW.cut fokW 4 ((sT [(53,.d (.sl 3 (List.map e112 b.Horses))),(54,jI (b.Horses.length:Int)),(55,jI v7),(74,.d (.bool v10))] [] 2 0)) ?_ ?_
         ·refine r_split 70 rfl (fun hb_45=>?_) (fun hb_45=>?_)
          ·have h:=ifT hb_45 hx_43
           refine aX 2 (sT [(53,.d (.sl 3 (List.map e112 b.Horses))),(54,jI (b.Horses.length:Int)),(55,jI v7),(70,.d (.bool true)),(72,jI p1.Shade)] [(1,.var 112 [jI p1.Mane,jI p1.Tail,jI p1.Shade])] 2 0) ?_
           obtain ⟨r0_7,hx_44,h⟩:=bsome h
           refine r_call rfl rfl (k97 p1.Shade 0 25 _ hx_44) rfl rfl ?_
           refine aX 1 (sT [(53,.d (.sl 3 (List.map e112 b.Horses))),(54,jI (b.Horses.length:Int)),(55,jI v7),(74,.d (.bool r0_7))] [(1,.var 112 [jI p1.Mane,jI p1.Tail,jI p1.Shade])] 2 0) ?_
           obtain rfl:=Option.some.inj h
           refine RunC.finJ (Can.kp (by kernel_rfl))
          ·have h:=ifF hb_45 hx_43
           refine aX 4 (sT [(53,.d (.sl 3 (List.map e112 b.Horses))),(54,jI (b.Horses.length:Int)),(55,jI v7),(74,.d (.bool false))] [(1,.var 112 [jI p1.Mane,jI p1.Tail,jI p1.Shade])] 2 0) ?_
           obtain rfl:=Option.some.inj h
           refine RunC.finJ (Can.kp (by kernel_rfl))
         ·refine Au 1 (sT [(3,.d (.bool v10)),(53,.d (.sl 3 (List.map e112 b.Horses))),(54,jI (b.Horses.length:Int)),(55,jI v7)] [] 2 0) ?_
          refine RW.nil ?_
          refine hK_34 _ ?_
          refine Ra (sT [(3,.d (.bool v10)),(53,.d (.sl 3 (List.map e112 b.Horses))),(54,jI (b.Horses.length:Int)),(55,jI (wr (v7+1)))] [] 2 0) ?_
          obtain rfl:=Option.some.inj h
          have ew:wr (v7+1)=v7+1:=inext (N:=(b.Horses.length:Int)) (by omega) (by omega) (by omega)
          rw [ew]
          exact hK_31 _ (Can.kp (by kernel_rfl))
      ·subst hout
       refine Sa (sT [(3,.d (.bool ok1)),(53,.d (.sl 3 (List.map e112 b.Horses))),(54,jI (b.Horses.length:Int)),(55,jI v7),(56,.d (.bool (decide (v7<(b.Horses.length:Int)))))] [] 1 0) ?_
       refine AW.seqK (fun K_46 hK_46=>?_)
       refine AW.cond rfl (fun hb_47=>False.elim (by have:=of_decide_eq_true hb_47;omega)) (fun hb_47=>?_)
       refine AW.exit ?_
       refine hK_29 _ ?_
       refine AW.seqK (fun K_48 hK_48=>?_)
       refine Sa (sT [(77,.d (.bool (!ok1)))] [] 1 0) ?_
       refine AW.cond rfl (fun hb_49=>?_) (fun hb_49=>?_)
       ·have h:=ifT hb_49 h
        refine Sa (sT [(2,jI 60)] [] 1 0) ?_
        obtain rfl:=Option.some.inj h
        exact rT hR_0 (.cons (.tmp rfl) .nil)
       ·have h:=ifF hb_49 h
        refine AW.skip (hK_48 _ ?_)
        refine Sa (sT [(2,jI 0)] [] 1 0) ?_
        obtain rfl:=Option.some.inj h
        exact rT hR_0 (.cons (.tmp rfl) .nil)
def g68 (n:Int) (low:Int) (high:Int):Option Bool:=some ((decide (low≤n))&&(decide (n≤high)))
theorem k68 (n:Int) (low:Int) (high:Int) (r:Bool) (h:g68 n low high=some r):SCall Tryd.prog Gs 68 [jI n,jI low,jI high] [] 0 Fr.emp (.d (.bool r)) [] 0 Fr.emp:=by
 unfold g68 at h
 refine SCall.mkK Tryd.func68 c68 rfl rfl (by kernel_rfl) (fun Q_0 hR_0 hN_0=>?_)
 refine Sa (sT [(0,jI n),(1,jI low),(2,jI high)] [] 0 0) ?_
 refine AW.sa fokW [10] (sT [(6,.d (.bool ((decide (low≤n))&&(decide (n≤high)))))] [] 0 0) (by kernel_rfl) ?_
 obtain rfl:=Option.some.inj h
 exact rT hR_0 (.cons (.tmp rfl) .nil)
def g18_38:Int→Int→Bool→Option Bool:=fun v8 p2 ok2=>(bif ok2 then ((g68 p2 0 9).bind fun r0_4=>some r0_4) else (some false)).bind fun v9=>some v9
def g18_29 (b:HarnessBook):Int→(List Int)→Bool→Option Bool:=fun v6 p1 ok1=>(bif ok1 then (some (decide ((p1.length:Int)=(b.Stock.length:Int)))) else (some false)).bind fun v7=>(eachS g18_38 p1 0 v7).bind fun ok2=>some ok2
def g18_16:Int→Span→Bool→Option Bool:=fun v4 p ok=>(bif ok then ((g68 p.Low 0 p.High).bind fun r0_3=>some r0_3) else (some false)).bind fun v5=>some ((v5&&(decide (p.High≤40)))&&(decide ((wr (p.High - p.Low))≤4)))
def g18 (b:HarnessBook):Option Int:=(g67 b.Hair).bind fun r0_9=>(bif (decide (r0_9=0)) then ((g68 (b.Stock.length:Int) 1 3).bind fun r0=>some r0) else (some false)).bind fun v=>(bif v then (some (decide ((b.Needs.length:Int)=(b.Hair.Horses.length:Int)))) else (some false)).bind fun v1=>(bif v1 then ((g68 b.Pack 1 12).bind fun r0_1=>some r0_1) else (some false)).bind fun v2=>(bif v2 then ((g68 b.Bad 0 (wr (b.Pack - 1))).bind fun r0_2=>some r0_2) else (some false)).bind fun v3=>(eachS g18_16 b.Stock 0 v3).bind fun ok=>(eachS (g18_29 b) b.Needs 0 ok).bind fun ok1=>bif (!ok1) then (some 100) else (some 0)
theorem k18 (b:HarnessBook) (r:Int) (h:g18 b=some r):SCall Tryd.prog Gs 18 [.agg (cv29 b)] [] 0 Fr.emp (jI r) [] 0 Fr.emp:=by
 unfold g18 at h
 refine SCall.mkK Tryd.func18 c18 rfl rfl (by kernel_rfl) (fun Q_0 hR_0 hN_0=>?_)
 refine Sa (sT [pR 1 0] [(0,.var 29 (cv29 b))] 1 0) ?_
 refine AW.srwK (fun Q_1 hQ_1=>?_)
 refine Au 2 (sT [pR 1 0,(11,.agg (cv25 b.Hair))] [(0,.var 29 (cv29 b))] 1 0) ?_
 obtain ⟨r0_9,hx_2,h⟩:=bsome h
 refine rC (k67 b.Hair _ hx_2) ?_
 refine Au 2 (sT [pR 1 0,(14,.d (.bool (decide (r0_9=0))))] [(0,.var 29 (cv29 b))] 1 0) ?_
 obtain ⟨v,hx_3,h⟩:=bsome h
 refine RW.cut fokW 5 ((sT [pR 1 0,(19,.d (.bool v))] [(0,.var 29 (cv29 b))] 1 0)) ?_ ?_
 ·refine r_split 14 rfl (fun hb_5=>?_) (fun hb_5=>?_)
  ·have h:=ifT hb_5 hx_3
   refine aX 2 (sT [pR 1 0,(14,.d (.bool true)),(16,.d (.sl 2 (List.map e37 b.Stock)))] [(0,.var 29 (cv29 b))] 1 0) ?_
   refine r_lenX rfl rfl lenm ?_
   obtain ⟨r0,hx_4,h⟩:=bsome h
   refine r_call rfl rfl (k68 (b.Stock.length:Int) 1 3 _ hx_4) rfl rfl ?_
   refine aX 1 (sT [pR 1 0,(19,.d (.bool r0))] [(0,.var 29 (cv29 b))] 1 0) ?_
   obtain rfl:=Option.some.inj h
   refine RunC.finJ (Can.kp (by kernel_rfl))
  ·have h:=ifF hb_5 hx_3
   refine aX 5 (sT [pR 1 0,(19,.d (.bool false))] [(0,.var 29 (cv29 b))] 1 0) ?_
   obtain rfl:=Option.some.inj h
   refine RunC.finJ (Can.kp (by kernel_rfl))
 ·refine Au 1 (sT [pR 1 0,(20,.d (.bool v))] [(0,.var 29 (cv29 b))] 1 0) ?_
  obtain ⟨v1,hx_6,h⟩:=bsome h
  refine RW.cut fokW 9 ((sT [pR 1 0,(29,.d (.bool v1))] [(0,.var 29 (cv29 b))] 1 0)) ?_ ?_
  ·refine r_split 20 rfl (fun hb_7=>?_) (fun hb_7=>?_)
   ·have h:=ifT hb_7 hx_6
    refine aX 2 (sT [pR 1 0,(20,.d (.bool true)),(22,.d (.sl 1 (List.map e30 b.Needs)))] [(0,.var 29 (cv29 b))] 1 0) ?_
    refine r_lenX rfl rfl lenm ?_
    refine aX 3 (sT [pR 1 0,(20,.d (.bool true)),(23,jI (b.Needs.length:Int)),(26,.d (.sl 3 (List.map e112 b.Hair.Horses)))] [(0,.var 29 (cv29 b))] 1 0) ?_
    refine r_lenX rfl rfl lenm ?_
    refine aX 2 (sT [pR 1 0,(29,.d (.bool (decide ((b.Needs.length:Int)=(b.Hair.Horses.length:Int)))))] [(0,.var 29 (cv29 b))] 1 0) ?_
    obtain rfl:=Option.some.inj h
    refine RunC.finJ (Can.kp (by kernel_rfl))
   ·have h:=ifF hb_7 hx_6
    refine aX 9 (sT [pR 1 0,(29,.d (.bool false))] [(0,.var 29 (cv29 b))] 1 0) ?_
    obtain rfl:=Option.some.inj h
    refine RunC.finJ (Can.kp (by kernel_rfl))
  ·refine Au 1 (sT [pR 1 0,(30,.d (.bool v1))] [(0,.var 29 (cv29 b))] 1 0) ?_
   obtain ⟨v2,hx_8,h⟩:=bsome h
   refine RW.cut fokW 4 ((sT [pR 1 0,(34,.d (.bool v2))] [(0,.var 29 (cv29 b))] 1 0)) ?_ ?_
   ·refine r_split 30 rfl (fun hb_10=>?_) (fun hb_10=>?_)
    ·have h:=ifT hb_10 hx_8
     refine aX 2 (sT [pR 1 0,(30,.d (.bool true)),(32,jI b.Pack)] [(0,.var 29 (cv29 b))] 1 0) ?_
     obtain ⟨r0_1,hx_9,h⟩:=bsome h
     refine r_call rfl rfl (k68 b.Pack 1 12 _ hx_9) rfl rfl ?_
     refine aX 1 (sT [pR 1 0,(34,.d (.bool r0_1))] [(0,.var 29 (cv29 b))] 1 0) ?_
     obtain rfl:=Option.some.inj h
     refine RunC.finJ (Can.kp (by kernel_rfl))
    ·have h:=ifF hb_10 hx_8
     refine aX 4 (sT [pR 1 0,(34,.d (.bool false))] [(0,.var 29 (cv29 b))] 1 0) ?_
     obtain rfl:=Option.some.inj h
     refine RunC.finJ (Can.kp (by kernel_rfl))
   ·refine Au 1 (sT [pR 1 0,(35,.d (.bool v2))] [(0,.var 29 (cv29 b))] 1 0) ?_
    obtain ⟨v3,hx_11,h⟩:=bsome h
    refine RW.cut fokW 7 ((sT [pR 1 0,(42,.d (.bool v3))] [(0,.var 29 (cv29 b))] 1 0)) ?_ ?_
    ·refine r_split 35 rfl (fun hb_13=>?_) (fun hb_13=>?_)
     ·have h:=ifT hb_13 hx_11
      refine aX 5 (sT [pR 1 0,(35,.d (.bool true)),(37,jI b.Bad),(40,jI (wr (b.Pack - 1)))] [(0,.var 29 (cv29 b))] 1 0) ?_
      obtain ⟨r0_2,hx_12,h⟩:=bsome h
      refine r_call rfl rfl (k68 b.Bad 0 (wr (b.Pack - 1)) _ hx_12) rfl rfl ?_
      refine aX 1 (sT [pR 1 0,(42,.d (.bool r0_2))] [(0,.var 29 (cv29 b))] 1 0) ?_
      obtain rfl:=Option.some.inj h
      refine RunC.finJ (Can.kp (by kernel_rfl))
     ·have h:=ifF hb_13 hx_11
      refine aX 7 (sT [pR 1 0,(42,.d (.bool false))] [(0,.var 29 (cv29 b))] 1 0) ?_
      obtain rfl:=Option.some.inj h
      refine RunC.finJ (Can.kp (by kernel_rfl))
    ·refine Au 1 (sT [pR 1 0,(3,.d (.bool v3))] [(0,.var 29 (cv29 b))] 1 0) ?_
     refine RW.nil (hQ_1 _ ?_)
     refine AW.seqK fun K_14 hK_14=>AW.srwK fun Q_15 hQ_15=>?_
     refine Au 2 (sT [pR 1 0,(3,.d (.bool v3)),(44,.d (.sl 2 (List.map e37 b.Stock)))] [(0,.var 29 (cv29 b))] 1 0) ?_
     refine rL rfl ?_
     refine Au 1 (sT [pR 1 0,(3,.d (.bool v3)),(44,.d (.sl 2 (List.map e37 b.Stock))),(45,jI (b.Stock.length:Int)),(46,jI 0)] [(0,.var 29 (cv29 b))] 1 0) ?_
     refine RW.nil (hQ_15 _ ?_)
     refine AW.block ?_
     refine AW.sln (t:=44) rfl (fun hN_16=>?_)
     rw [List.length_map] at hN_16
     obtain ⟨out_16,hx_16,h⟩:=bsome h
     refine AW.evSK (fun (v4:Int) (ok:Bool)=>(sT [pR 1 0,(3,.d (.bool ok)),(44,.d (.sl 2 (List.map e37 b.Stock))),(45,jI (b.Stock.length:Int)),(46,jI v4)] [(0,.var 29 (cv29 b))] 1 0)) g18_16 hx_16 (Can.kp (by kernel_rfl)) (fun v4 p ok hi_16 hl_16 hp_16 c_16 h K_16 hK_16=>?_) (fun v4 ok hi_16 hl_16 hout=>?_)
     ·unfold g18_16 at h
      refine Sa (sT [pR 1 0,(3,.d (.bool ok)),(44,.d (.sl 2 (List.map e37 b.Stock))),(45,jI (b.Stock.length:Int)),(46,jI v4),(47,.d (.bool (decide (v4<(b.Stock.length:Int)))))] [(0,.var 29 (cv29 b))] 1 0) ?_
      refine AW.seqK (fun K_17 hK_17=>?_)
      refine AW.cond rfl (fun hb_18=>?_) (fun hb_18=>False.elim (by have:=of_decide_eq_false hb_18;omega))
      refine AW.skip (hK_17 _ ?_)
      refine AW.seqK (fun K_19 hK_19=>?_)
      refine AW.block ?_
      refine AW.srwK (fun Q_20 hQ_20=>?_)
      refine RW.one fokW (r_iaD trivial rfl rfl hi_16 (row:=e37 p) (mapget hp_16) (r_end ?_))
      refine Au 3 (sT [pR 1 0,(3,.d (.bool ok)),pR 5 1,(44,.d (.sl 2 (List.map e37 b.Stock))),(45,jI (b.Stock.length:Int)),(46,jI v4)] [(1,.var 37 [jI p.Low,jI p.High]),(0,.var 29 (cv29 b))] 2 0) ?_
      refine RW.nil (hQ_20 _ ?_)
      refine AW.rw ?_
      refine Au 2 (sT [pR 1 0,pR 5 1,(44,.d (.sl 2 (List.map e37 b.Stock))),(45,jI (b.Stock.length:Int)),(46,jI v4),(51,.d (.bool ok))] [(1,.var 37 [jI p.Low,jI p.High]),(0,.var 29 (cv29 b))] 2 0) ?_
      obtain ⟨v5,hx_22,h⟩:=bsome h
      refine RW.cut fokW 6 ((sT [pR 1 0,pR 5 1,(44,.d (.sl 2 (List.map e37 b.Stock))),(45,jI (b.Stock.length:Int)),(46,jI v4),(57,.d (.bool v5))] [(1,.var 37 [jI p.Low,jI p.High]),(0,.var 29 (cv29 b))] 2 0)) ?_ ?_
      ·refine r_split 51 rfl (fun hb_24=>?_) (fun hb_24=>?_)
       ·have h:=ifT hb_24 hx_22
        refine aX 4 (sT [pR 1 0,pR 5 1,(44,.d (.sl 2 (List.map e37 b.Stock))),(45,jI (b.Stock.length:Int)),(46,jI v4),(51,.d (.bool true)),(53,jI p.Low),(55,jI p.High)] [(1,.var 37 [jI p.Low,jI p.High]),(0,.var 29 (cv29 b))] 2 0) ?_
        obtain ⟨r0_3,hx_23,h⟩:=bsome h
        refine r_call rfl rfl (k68 p.Low 0 p.High _ hx_23) rfl rfl ?_
        refine aX 1 (sT [pR 1 0,pR 5 1,(44,.d (.sl 2 (List.map e37 b.Stock))),(45,jI (b.Stock.length:Int)),(46,jI v4),(57,.d (.bool r0_3))] [(1,.var 37 [jI p.Low,jI p.High]),(0,.var 29 (cv29 b))] 2 0) ?_
        obtain rfl:=Option.some.inj h
        refine RunC.finJ (Can.kp (by kernel_rfl))
       ·have h:=ifF hb_24 hx_22
        refine aX 6 (sT [pR 1 0,pR 5 1,(44,.d (.sl 2 (List.map e37 b.Stock))),(45,jI (b.Stock.length:Int)),(46,jI v4),(57,.d (.bool false))] [(1,.var 37 [jI p.Low,jI p.High]),(0,.var 29 (cv29 b))] 2 0) ?_
        obtain rfl:=Option.some.inj h
        refine RunC.finJ (Can.kp (by kernel_rfl))
      ·refine RW.au fokW 14 [58,63] (sT [pR 1 0,(3,.d (.bool ((v5&&(decide (p.High≤40)))&&(decide ((wr (p.High - p.Low))≤4))))),(44,.d (.sl 2 (List.map e37 b.Stock))),(45,jI (b.Stock.length:Int)),(46,jI v4)] [(0,.var 29 (cv29 b))] 2 0) (by kernel_rfl) ?_
       refine RW.nil ?_
       refine hK_19 _ ?_
       refine Ra (sT [pR 1 0,(3,.d (.bool ((v5&&(decide (p.High≤40)))&&(decide ((wr (p.High - p.Low))≤4))))),(44,.d (.sl 2 (List.map e37 b.Stock))),(45,jI (b.Stock.length:Int)),(46,jI (wr (v4+1)))] [(0,.var 29 (cv29 b))] 2 0) ?_
       obtain rfl:=Option.some.inj h
       have ew:wr (v4+1)=v4+1:=inext (N:=(b.Stock.length:Int)) (by omega) (by omega) (by omega)
       rw [ew]
       exact hK_16 _ (Can.kp (by kernel_rfl))
     ·subst hout
      refine Sa (sT [pR 1 0,(3,.d (.bool ok)),(44,.d (.sl 2 (List.map e37 b.Stock))),(45,jI (b.Stock.length:Int)),(46,jI v4),(47,.d (.bool (decide (v4<(b.Stock.length:Int)))))] [(0,.var 29 (cv29 b))] 1 0) ?_
      refine AW.seqK (fun K_25 hK_25=>?_)
      refine AW.cond rfl (fun hb_26=>False.elim (by have:=of_decide_eq_true hb_26;omega)) (fun hb_26=>?_)
      refine AW.exit ?_
      refine hK_14 _ ?_
      refine AW.seqK fun K_27 hK_27=>AW.srwK fun Q_28 hQ_28=>?_
      refine Au 2 (sT [pR 1 0,(3,.d (.bool ok)),(73,.d (.sl 1 (List.map e30 b.Needs)))] [(0,.var 29 (cv29 b))] 1 0) ?_
      refine rL rfl ?_
      refine Au 1 (sT [pR 1 0,(3,.d (.bool ok)),(73,.d (.sl 1 (List.map e30 b.Needs))),(74,jI (b.Needs.length:Int)),(75,jI 0)] [(0,.var 29 (cv29 b))] 1 0) ?_
      refine RW.nil (hQ_28 _ ?_)
      refine AW.block ?_
      refine AW.sln (t:=73) rfl (fun hN_29=>?_)
      rw [List.length_map] at hN_29
      obtain ⟨out_29,hx_29,h⟩:=bsome h
      refine AW.evSK (fun (v6:Int) (ok1:Bool)=>(sT [pR 1 0,(3,.d (.bool ok1)),(73,.d (.sl 1 (List.map e30 b.Needs))),(74,jI (b.Needs.length:Int)),(75,jI v6)] [(0,.var 29 (cv29 b))] 1 0)) (g18_29 b) hx_29 (Can.kp (by kernel_rfl)) (fun v6 p1 ok1 hi_29 hl_29 hp_29 c_29 h K_29 hK_29=>?_) (fun v6 ok1 hi_29 hl_29 hout=>?_)
      ·unfold g18_29 at h
       refine Sa (sT [pR 1 0,(3,.d (.bool ok1)),(73,.d (.sl 1 (List.map e30 b.Needs))),(74,jI (b.Needs.length:Int)),(75,jI v6),(76,.d (.bool (decide (v6<(b.Needs.length:Int)))))] [(0,.var 29 (cv29 b))] 1 0) ?_
       refine AW.seqK (fun K_30 hK_30=>?_)
       refine AW.cond rfl (fun hb_31=>?_) (fun hb_31=>False.elim (by have:=of_decide_eq_false hb_31;omega))
       refine AW.skip (hK_30 _ ?_)
       refine AW.seqK (fun K_32 hK_32=>?_)
       refine AW.block ?_
       refine AW.srwK (fun Q_33 hQ_33=>?_)
       refine RW.one fokW (r_iaD trivial rfl rfl hi_29 (row:=e30 p1) (mapget hp_29) (r_end ?_))
       refine Au 2 (sT [pR 1 0,(3,.d (.bool ok1)),(7,.d (q1 p1)),(73,.d (.sl 1 (List.map e30 b.Needs))),(74,jI (b.Needs.length:Int)),(75,jI v6)] [(0,.var 29 (cv29 b))] 1 0) ?_
       refine RW.nil (hQ_33 _ ?_)
       refine AW.srwK (fun Q_34 hQ_34=>?_)
       refine Au 2 (sT [pR 1 0,(7,.d (q1 p1)),(73,.d (.sl 1 (List.map e30 b.Needs))),(74,jI (b.Needs.length:Int)),(75,jI v6),(80,.d (.bool ok1))] [(0,.var 29 (cv29 b))] 1 0) ?_
       obtain ⟨v7,hx_35,h⟩:=bsome h
       refine RW.cut fokW 7 ((sT [pR 1 0,(7,.d (q1 p1)),(73,.d (.sl 1 (List.map e30 b.Needs))),(74,jI (b.Needs.length:Int)),(75,jI v6),(87,.d (.bool v7))] [(0,.var 29 (cv29 b))] 1 0)) ?_ ?_
       ·refine r_split 80 rfl (fun hb_36=>?_) (fun hb_36=>?_)
        ·have h:=ifT hb_36 hx_35
         refine aX 1 (sT [pR 1 0,(7,.d (q1 p1)),(73,.d (.sl 1 (List.map e30 b.Needs))),(74,jI (b.Needs.length:Int)),(75,jI v6),(80,.d (.bool true)),(81,.d (q1 p1))] [(0,.var 29 (cv29 b))] 1 0) ?_
         refine r_lenX rfl rfl lenm ?_
         refine aX 2 (sT [pR 1 0,(7,.d (q1 p1)),(73,.d (.sl 1 (List.map e30 b.Needs))),(74,jI (b.Needs.length:Int)),(75,jI v6),(80,.d (.bool true)),(82,jI (p1.length:Int)),(84,.d (.sl 2 (List.map e37 b.Stock)))] [(0,.var 29 (cv29 b))] 1 0) ?_
         refine r_lenX rfl rfl lenm ?_
         refine aX 2 (sT [pR 1 0,(7,.d (q1 p1)),(73,.d (.sl 1 (List.map e30 b.Needs))),(74,jI (b.Needs.length:Int)),(75,jI v6),(87,.d (.bool (decide ((p1.length:Int)=(b.Stock.length:Int)))))] [(0,.var 29 (cv29 b))] 1 0) ?_
         obtain rfl:=Option.some.inj h
         refine RunC.finJ (Can.kp (by kernel_rfl))
        ·have h:=ifF hb_36 hx_35
         refine aX 7 (sT [pR 1 0,(7,.d (q1 p1)),(73,.d (.sl 1 (List.map e30 b.Needs))),(74,jI (b.Needs.length:Int)),(75,jI v6),(87,.d (.bool false))] [(0,.var 29 (cv29 b))] 1 0) ?_
         obtain rfl:=Option.some.inj h
         refine RunC.finJ (Can.kp (by kernel_rfl))
       ·refine Au 1 (sT [pR 1 0,(3,.d (.bool v7)),(7,.d (q1 p1)),(73,.d (.sl 1 (List.map e30 b.Needs))),(74,jI (b.Needs.length:Int)),(75,jI v6)] [(0,.var 29 (cv29 b))] 1 0) ?_
        refine RW.nil (hQ_34 _ ?_)
        refine AW.srwK (fun Q_37 hQ_37=>?_)
        refine Au 1 (sT [pR 1 0,(3,.d (.bool v7)),(73,.d (.sl 1 (List.map e30 b.Needs))),(74,jI (b.Needs.length:Int)),(75,jI v6),(88,.d (q1 p1))] [(0,.var 29 (cv29 b))] 1 0) ?_
        refine rL rfl ?_
        refine Au 1 (sT [pR 1 0,(3,.d (.bool v7)),(73,.d (.sl 1 (List.map e30 b.Needs))),(74,jI (b.Needs.length:Int)),(75,jI v6),(88,.d (q1 p1)),(89,jI (p1.length:Int)),(90,jI 0)] [(0,.var 29 (cv29 b))] 1 0) ?_
        refine RW.nil (hQ_37 _ ?_)
        refine AW.block ?_
        refine AW.sln (t:=88) rfl (fun hN_38=>?_)
        rw [List.length_map] at hN_38
        obtain ⟨out_38,hx_38,h⟩:=bsome h
        refine AW.evSK (fun (v8:Int) (ok2:Bool)=>(sT [pR 1 0,(3,.d (.bool ok2)),(73,.d (.sl 1 (List.map e30 b.Needs))),(74,jI (b.Needs.length:Int)),(75,jI v6),(88,.d (q1 p1)),(89,jI (p1.length:Int)),(90,jI v8)] [(0,.var 29 (cv29 b))] 1 0)) g18_38 hx_38 (Can.kp (by kernel_rfl)) (fun v8 p2 ok2 hi_38 hl_38 hp_38 c_38 h K_38 hK_38=>?_) (fun v8 ok2 hi_38 hl_38 hout=>?_)
        ·unfold g18_38 at h
         refine Sa (sT [pR 1 0,(3,.d (.bool ok2)),(73,.d (.sl 1 (List.map e30 b.Needs))),(74,jI (b.Needs.length:Int)),(75,jI v6),(88,.d (q1 p1)),(89,jI (p1.length:Int)),(90,jI v8),(91,.d (.bool (decide (v8<(p1.length:Int)))))] [(0,.var 29 (cv29 b))] 1 0) ?_
         refine AW.seqK (fun K_39 hK_39=>?_)
         refine AW.cond rfl (fun hb_40=>?_) (fun hb_40=>False.elim (by have:=of_decide_eq_false hb_40;omega))
         refine AW.skip (hK_39 _ ?_)
         refine AW.seqK (fun K_41 hK_41=>?_)
         refine AW.block ?_
         refine AW.srwK (fun Q_42 hQ_42=>?_)
         refine RW.one fokW (r_iaD trivial rfl rfl hi_38 (row:=e3 p2) (mapget hp_38) (r_end ?_))
         refine Au 2 (sT [pR 1 0,(3,.d (.bool ok2)),(9,jI p2),(73,.d (.sl 1 (List.map e30 b.Needs))),(74,jI (b.Needs.length:Int)),(75,jI v6),(88,.d (q1 p1)),(89,jI (p1.length:Int)),(90,jI v8)] [(0,.var 29 (cv29 b))] 1 0) ?_
         refine RW.nil (hQ_42 _ ?_)
         refine AW.rw ?_
         refine Au 2 (sT [pR 1 0,(9,jI p2),(73,.d (.sl 1 (List.map e30 b.Needs))),(74,jI (b.Needs.length:Int)),(75,jI v6),(88,.d (q1 p1)),(89,jI (p1.length:Int)),(90,jI v8),(95,.d (.bool ok2))] [(0,.var 29 (cv29 b))] 1 0) ?_
         obtain ⟨v9,hx_44,h⟩:=bsome h
         refine RW.cut fokW 3 ((sT [pR 1 0,(73,.d (.sl 1 (List.map e30 b.Needs))),(74,jI (b.Needs.length:Int)),(75,jI v6),(88,.d (q1 p1)),(89,jI (p1.length:Int)),(90,jI v8),(98,.d (.bool v9))] [(0,.var 29 (cv29 b))] 1 0)) ?_ ?_
         ·refine r_split 95 rfl (fun hb_46=>?_) (fun hb_46=>?_)
          ·have h:=ifT hb_46 hx_44
           refine aX 1 (sT [pR 1 0,(73,.d (.sl 1 (List.map e30 b.Needs))),(74,jI (b.Needs.length:Int)),(75,jI v6),(88,.d (q1 p1)),(89,jI (p1.length:Int)),(90,jI v8),(95,.d (.bool true)),(96,jI p2)] [(0,.var 29 (cv29 b))] 1 0) ?_
           obtain ⟨r0_4,hx_45,h⟩:=bsome h
           refine r_call rfl rfl (k68 p2 0 9 _ hx_45) rfl rfl ?_
           refine aX 1 (sT [pR 1 0,(73,.d (.sl 1 (List.map e30 b.Needs))),(74,jI (b.Needs.length:Int)),(75,jI v6),(88,.d (q1 p1)),(89,jI (p1.length:Int)),(90,jI v8),(98,.d (.bool r0_4))] [(0,.var 29 (cv29 b))] 1 0) ?_
           obtain rfl:=Option.some.inj h
           refine RunC.finJ (Can.kp (by kernel_rfl))
          ·have h:=ifF hb_46 hx_44
           refine aX 3 (sT [pR 1 0,(73,.d (.sl 1 (List.map e30 b.Needs))),(74,jI (b.Needs.length:Int)),(75,jI v6),(88,.d (q1 p1)),(89,jI (p1.length:Int)),(90,jI v8),(98,.d (.bool false))] [(0,.var 29 (cv29 b))] 1 0) ?_
           obtain rfl:=Option.some.inj h
           refine RunC.finJ (Can.kp (by kernel_rfl))
         ·refine Au 1 (sT [pR 1 0,(3,.d (.bool v9)),(73,.d (.sl 1 (List.map e30 b.Needs))),(74,jI (b.Needs.length:Int)),(75,jI v6),(88,.d (q1 p1)),(89,jI (p1.length:Int)),(90,jI v8)] [(0,.var 29 (cv29 b))] 1 0) ?_
          refine RW.nil ?_
          refine hK_41 _ ?_
          refine Ra (sT [pR 1 0,(3,.d (.bool v9)),(73,.d (.sl 1 (List.map e30 b.Needs))),(74,jI (b.Needs.length:Int)),(75,jI v6),(88,.d (q1 p1)),(89,jI (p1.length:Int)),(90,jI (wr (v8+1)))] [(0,.var 29 (cv29 b))] 1 0) ?_
          obtain rfl:=Option.some.inj h
          have ew:wr (v8+1)=v8+1:=inext (N:=(p1.length:Int)) (by omega) (by omega) (by omega)
          rw [ew]
          exact hK_38 _ (Can.kp (by kernel_rfl))
        ·subst hout
         refine Sa (sT [pR 1 0,(3,.d (.bool ok2)),(73,.d (.sl 1 (List.map e30 b.Needs))),(74,jI (b.Needs.length:Int)),(75,jI v6),(88,.d (q1 p1)),(89,jI (p1.length:Int)),(90,jI v8),(91,.d (.bool (decide (v8<(p1.length:Int)))))] [(0,.var 29 (cv29 b))] 1 0) ?_
         refine AW.seqK (fun K_47 hK_47=>?_)
         refine AW.cond rfl (fun hb_48=>False.elim (by have:=of_decide_eq_true hb_48;omega)) (fun hb_48=>?_)
         refine AW.exit ?_
         refine hK_32 _ ?_
         refine Ra (sT [pR 1 0,(3,.d (.bool ok2)),(73,.d (.sl 1 (List.map e30 b.Needs))),(74,jI (b.Needs.length:Int)),(75,jI (wr (v6+1)))] [(0,.var 29 (cv29 b))] 1 0) ?_
         obtain rfl:=Option.some.inj h
         have ew:wr (v6+1)=v6+1:=inext (N:=(b.Needs.length:Int)) (by omega) (by omega) (by omega)
         rw [ew]
         exact hK_29 _ (Can.kp (by kernel_rfl))
      ·subst hout
       refine Sa (sT [pR 1 0,(3,.d (.bool ok1)),(73,.d (.sl 1 (List.map e30 b.Needs))),(74,jI (b.Needs.length:Int)),(75,jI v6),(76,.d (.bool (decide (v6<(b.Needs.length:Int)))))] [(0,.var 29 (cv29 b))] 1 0) ?_
       refine AW.seqK (fun K_49 hK_49=>?_)
       refine AW.cond rfl (fun hb_50=>False.elim (by have:=of_decide_eq_true hb_50;omega)) (fun hb_50=>?_)
       refine AW.exit ?_
       refine hK_27 _ ?_
       refine AW.seqK (fun K_51 hK_51=>?_)
       refine Sa (sT [(102,.d (.bool (!ok1)))] [] 1 0) ?_
       refine AW.cond rfl (fun hb_52=>?_) (fun hb_52=>?_)
       ·have h:=ifT hb_52 h
        refine Sa (sT [(2,jI 100)] [] 1 0) ?_
        obtain rfl:=Option.some.inj h
        exact rT hR_0 (.cons (.tmp rfl) .nil)
       ·have h:=ifF hb_52 h
        refine AW.skip (hK_51 _ ?_)
        refine Sa (sT [(2,jI 0)] [] 1 0) ?_
        obtain rfl:=Option.some.inj h
        exact rT hR_0 (.cons (.tmp rfl) .nil)
def g44 (n:Int) (first:Int) (last:Int):Option Bool:=some ((decide (first≤n))&&(decide (n≤last)))
theorem k44 (n:Int) (first:Int) (last:Int) (r:Bool) (h:g44 n first last=some r):SCall Tryd.prog Gs 44 [jI n,jI first,jI last] [] 0 Fr.emp (.d (.bool r)) [] 0 Fr.emp:=by
 unfold g44 at h
 refine SCall.mkK Tryd.func44 c44 rfl rfl (by kernel_rfl) (fun Q_0 hR_0 hN_0=>?_)
 refine Sa (sT [(0,jI n),(1,jI first),(2,jI last)] [] 0 0) ?_
 refine AW.sa fokW [10] (sT [(6,.d (.bool ((decide (first≤n))&&(decide (n≤last)))))] [] 0 0) (by kernel_rfl) ?_
 obtain rfl:=Option.some.inj h
 exact rT hR_0 (.cons (.tmp rfl) .nil)
def g70 (s:Span) (first:Int) (last:Int):Option Bool:=some (((decide (first≤s.Low))&&(decide (s.Low≤s.High)))&&(decide (s.High≤last)))
theorem k70 (s:Span) (first:Int) (last:Int) (r:Bool) (h:g70 s first last=some r):SCall Tryd.prog Gs 70 [.agg [jI s.Low,jI s.High],jI first,jI last] [] 0 Fr.emp (.d (.bool r)) [] 0 Fr.emp:=by
 unfold g70 at h
 refine SCall.mkK Tryd.func70 c70 rfl rfl (by kernel_rfl) (fun Q_0 hR_0 hN_0=>?_)
 refine Sa (sT [(1,jI first),(2,jI last),pR 3 0] [(0,.var 37 [jI s.Low,jI s.High])] 1 0) ?_
 refine AW.sa fokW [11,18] (sT [(6,.d (.bool (((decide (first≤s.Low))&&(decide (s.Low≤s.High)))&&(decide (s.High≤last)))))] [] 1 0) (by kernel_rfl) ?_
 obtain rfl:=Option.some.inj h
 exact rT hR_0 (.cons (.tmp rfl) .nil)
def g35_21 (b:HarnessBook):(Bool×Int)→Option (Ctl (Bool×Int) (Bool)):=fun  (ok2,i)=>(bif ok2 then (some (decide (i<(b.Stock.length:Int)))) else (some false)).bind fun v6=>bif v6 then ((ixL b.Stock i).bind fun p=>(g70 p 0 40).bind fun r0_3=>some (.next (r0_3,(wr (i+1))))) else (some (.brk ok2))
def g35_43 (p1:(List Int)):(Bool×Int)→Option (Ctl (Bool×Int) (Bool)):=fun  (ok8,k)=>(bif ok8 then (some (decide (k<(p1.length:Int)))) else (some false)).bind fun v8=>bif v8 then ((ixL p1 k).bind fun p2=>(g44 p2 0 9).bind fun r0_4=>some (.next (r0_4,(wr (k+1))))) else (some (.brk ok8))
def g35_33 (b:HarnessBook):(Bool×Int)→Option (Ctl (Bool×Int) (Bool)):=fun  (ok5,i1)=>(bif ok5 then (some (decide (i1<(b.Needs.length:Int)))) else (some false)).bind fun v7=>bif v7 then (((ixL b.Needs i1).bind fun p1=>(whileC (g35_43 p1) 1000 ((decide ((p1.length:Int)=(b.Stock.length:Int))),0)).bind fun ok7=>some ok7).bind fun ok6=>some (.next (ok6,(wr (i1+1))))) else (some (.brk ok5))
def g35 (b:HarnessBook):Option Bool:=(g18 b).bind fun r0_6=>(bif (decide (r0_6=0)) then ((g67 b.Hair).bind fun r0_9=>some (decide (r0_9=0))) else (some false)).bind fun v=>(bif v then (some (decide ((b.Hair.Horses.length:Int)≤3))) else (some false)).bind fun v1=>(bif v1 then ((g44 (b.Stock.length:Int) 1 3).bind fun r0=>some r0) else (some false)).bind fun v2=>(bif v2 then (some (decide ((b.Needs.length:Int)=(b.Hair.Horses.length:Int)))) else (some false)).bind fun v3=>(bif v3 then ((g44 b.Pack 1 12).bind fun r0_1=>some r0_1) else (some false)).bind fun v4=>(bif v4 then ((g44 b.Bad 0 (wr (b.Pack - 1))).bind fun r0_2=>some r0_2) else (some false)).bind fun v5=>((whileC (g35_21 b) 1000 (v5,0)).bind fun ok1=>some ok1).bind fun ok=>((whileC (g35_33 b) 1000 (ok,0)).bind fun ok4=>some ok4).bind fun ok3=>some ok3
theorem k35 (b:HarnessBook) (r:Bool) (h:g35 b=some r):SCall Tryd.prog Gs 35 [.agg (cv29 b)] [] 0 Fr.emp (.d (.bool r)) [] 0 Fr.emp:=by
 unfold g35 at h
 refine SCall.mkK Tryd.func35 c35 rfl rfl (by kernel_rfl) (fun Q_0 hR_0 hN_0=>?_)
 refine Sa (sT [pR 1 0] [(0,.var 29 (cv29 b))] 1 0) ?_
 refine AW.srwK (fun Q_1 hQ_1=>?_)
 refine Au 1 (sT [pR 1 0,(7,.agg (cv29 b))] [(0,.var 29 (cv29 b))] 1 0) ?_
 obtain ⟨r0_6,hx_2,h⟩:=bsome h
 refine rC (k18 b _ hx_2) ?_
 refine Au 2 (sT [pR 1 0,(10,.d (.bool (decide (r0_6=0))))] [(0,.var 29 (cv29 b))] 1 0) ?_
 obtain ⟨v,hx_3,h⟩:=bsome h
 refine RW.cut fokW 5 ((sT [pR 1 0,(15,.d (.bool v))] [(0,.var 29 (cv29 b))] 1 0)) ?_ ?_
 ·refine r_split 10 rfl (fun hb_5=>?_) (fun hb_5=>?_)
  ·have h:=ifT hb_5 hx_3
   refine aX 2 (sT [pR 1 0,(10,.d (.bool true)),(12,.agg (cv25 b.Hair))] [(0,.var 29 (cv29 b))] 1 0) ?_
   obtain ⟨r0_9,hx_4,h⟩:=bsome h
   refine r_call rfl rfl (k67 b.Hair _ hx_4) rfl rfl ?_
   refine aX 2 (sT [pR 1 0,(15,.d (.bool (decide (r0_9=0))))] [(0,.var 29 (cv29 b))] 1 0) ?_
   obtain rfl:=Option.some.inj h
   refine RunC.finJ (Can.kp (by kernel_rfl))
  ·have h:=ifF hb_5 hx_3
   refine aX 5 (sT [pR 1 0,(15,.d (.bool false))] [(0,.var 29 (cv29 b))] 1 0) ?_
   obtain rfl:=Option.some.inj h
   refine RunC.finJ (Can.kp (by kernel_rfl))
 ·refine Au 1 (sT [pR 1 0,(16,.d (.bool v))] [(0,.var 29 (cv29 b))] 1 0) ?_
  obtain ⟨v1,hx_6,h⟩:=bsome h
  refine RW.cut fokW 6 ((sT [pR 1 0,(22,.d (.bool v1))] [(0,.var 29 (cv29 b))] 1 0)) ?_ ?_
  ·refine r_split 16 rfl (fun hb_7=>?_) (fun hb_7=>?_)
   ·have h:=ifT hb_7 hx_6
    refine aX 3 (sT [pR 1 0,(16,.d (.bool true)),(19,.d (.sl 3 (List.map e112 b.Hair.Horses)))] [(0,.var 29 (cv29 b))] 1 0) ?_
    refine r_lenX rfl rfl lenm ?_
    refine aX 2 (sT [pR 1 0,(22,.d (.bool (decide ((b.Hair.Horses.length:Int)≤3))))] [(0,.var 29 (cv29 b))] 1 0) ?_
    obtain rfl:=Option.some.inj h
    refine RunC.finJ (Can.kp (by kernel_rfl))
   ·have h:=ifF hb_7 hx_6
    refine aX 6 (sT [pR 1 0,(22,.d (.bool false))] [(0,.var 29 (cv29 b))] 1 0) ?_
    obtain rfl:=Option.some.inj h
    refine RunC.finJ (Can.kp (by kernel_rfl))
  ·refine Au 1 (sT [pR 1 0,(23,.d (.bool v1))] [(0,.var 29 (cv29 b))] 1 0) ?_
   obtain ⟨v2,hx_8,h⟩:=bsome h
   refine RW.cut fokW 5 ((sT [pR 1 0,(28,.d (.bool v2))] [(0,.var 29 (cv29 b))] 1 0)) ?_ ?_
   ·refine r_split 23 rfl (fun hb_10=>?_) (fun hb_10=>?_)
    ·have h:=ifT hb_10 hx_8
     refine aX 2 (sT [pR 1 0,(23,.d (.bool true)),(25,.d (.sl 2 (List.map e37 b.Stock)))] [(0,.var 29 (cv29 b))] 1 0) ?_
     refine r_lenX rfl rfl lenm ?_
     obtain ⟨r0,hx_9,h⟩:=bsome h
     refine r_call rfl rfl (k44 (b.Stock.length:Int) 1 3 _ hx_9) rfl rfl ?_
     refine aX 1 (sT [pR 1 0,(28,.d (.bool r0))] [(0,.var 29 (cv29 b))] 1 0) ?_
     obtain rfl:=Option.some.inj h
     refine RunC.finJ (Can.kp (by kernel_rfl))
    ·have h:=ifF hb_10 hx_8
     refine aX 5 (sT [pR 1 0,(28,.d (.bool false))] [(0,.var 29 (cv29 b))] 1 0) ?_
     obtain rfl:=Option.some.inj h
     refine RunC.finJ (Can.kp (by kernel_rfl))
   ·refine Au 1 (sT [pR 1 0,(29,.d (.bool v2))] [(0,.var 29 (cv29 b))] 1 0) ?_
    obtain ⟨v3,hx_11,h⟩:=bsome h
    refine RW.cut fokW 9 ((sT [pR 1 0,(38,.d (.bool v3))] [(0,.var 29 (cv29 b))] 1 0)) ?_ ?_
    ·refine r_split 29 rfl (fun hb_12=>?_) (fun hb_12=>?_)
     ·have h:=ifT hb_12 hx_11
      refine aX 2 (sT [pR 1 0,(29,.d (.bool true)),(31,.d (.sl 1 (List.map e30 b.Needs)))] [(0,.var 29 (cv29 b))] 1 0) ?_
      refine r_lenX rfl rfl lenm ?_
      refine aX 3 (sT [pR 1 0,(29,.d (.bool true)),(32,jI (b.Needs.length:Int)),(35,.d (.sl 3 (List.map e112 b.Hair.Horses)))] [(0,.var 29 (cv29 b))] 1 0) ?_
      refine r_lenX rfl rfl lenm ?_
      refine aX 2 (sT [pR 1 0,(38,.d (.bool (decide ((b.Needs.length:Int)=(b.Hair.Horses.length:Int)))))] [(0,.var 29 (cv29 b))] 1 0) ?_
      obtain rfl:=Option.some.inj h
      refine RunC.finJ (Can.kp (by kernel_rfl))
     ·have h:=ifF hb_12 hx_11
      refine aX 9 (sT [pR 1 0,(38,.d (.bool false))] [(0,.var 29 (cv29 b))] 1 0) ?_
      obtain rfl:=Option.some.inj h
      refine RunC.finJ (Can.kp (by kernel_rfl))
    ·refine Au 1 (sT [pR 1 0,(39,.d (.bool v3))] [(0,.var 29 (cv29 b))] 1 0) ?_
     obtain ⟨v4,hx_13,h⟩:=bsome h
     refine RW.cut fokW 4 ((sT [pR 1 0,(43,.d (.bool v4))] [(0,.var 29 (cv29 b))] 1 0)) ?_ ?_
     ·refine r_split 39 rfl (fun hb_15=>?_) (fun hb_15=>?_)
      ·have h:=ifT hb_15 hx_13
       refine aX 2 (sT [pR 1 0,(39,.d (.bool true)),(41,jI b.Pack)] [(0,.var 29 (cv29 b))] 1 0) ?_
       obtain ⟨r0_1,hx_14,h⟩:=bsome h
       refine r_call rfl rfl (k44 b.Pack 1 12 _ hx_14) rfl rfl ?_
       refine aX 1 (sT [pR 1 0,(43,.d (.bool r0_1))] [(0,.var 29 (cv29 b))] 1 0) ?_
       obtain rfl:=Option.some.inj h
       refine RunC.finJ (Can.kp (by kernel_rfl))
      ·have h:=ifF hb_15 hx_13
       refine aX 4 (sT [pR 1 0,(43,.d (.bool false))] [(0,.var 29 (cv29 b))] 1 0) ?_
       obtain rfl:=Option.some.inj h
       refine RunC.finJ (Can.kp (by kernel_rfl))
     ·refine Au 1 (sT [pR 1 0,(44,.d (.bool v4))] [(0,.var 29 (cv29 b))] 1 0) ?_
      obtain ⟨v5,hx_16,h⟩:=bsome h
      refine RW.cut fokW 7 ((sT [pR 1 0,(51,.d (.bool v5))] [(0,.var 29 (cv29 b))] 1 0)) ?_ ?_
      ·refine r_split 44 rfl (fun hb_18=>?_) (fun hb_18=>?_)
       ·have h:=ifT hb_18 hx_16
        refine aX 5 (sT [pR 1 0,(44,.d (.bool true)),(46,jI b.Bad),(49,jI (wr (b.Pack - 1)))] [(0,.var 29 (cv29 b))] 1 0) ?_
        obtain ⟨r0_2,hx_17,h⟩:=bsome h
        refine r_call rfl rfl (k44 b.Bad 0 (wr (b.Pack - 1)) _ hx_17) rfl rfl ?_
        refine aX 1 (sT [pR 1 0,(51,.d (.bool r0_2))] [(0,.var 29 (cv29 b))] 1 0) ?_
        obtain rfl:=Option.some.inj h
        refine RunC.finJ (Can.kp (by kernel_rfl))
       ·have h:=ifF hb_18 hx_16
        refine aX 7 (sT [pR 1 0,(51,.d (.bool false))] [(0,.var 29 (cv29 b))] 1 0) ?_
        obtain rfl:=Option.some.inj h
        refine RunC.finJ (Can.kp (by kernel_rfl))
      ·refine Au 1 (sT [pR 1 0,(3,.d (.bool v5))] [(0,.var 29 (cv29 b))] 1 0) ?_
       refine RW.nil (hQ_1 _ ?_)
       obtain ⟨ok,hx_19,h⟩:=bsome h
       refine AW.jnSK (fun (ok:Bool)=>(sT [pR 1 0,(3,.d (.bool ok))] [(0,.var 29 (cv29 b))] 1 0)) (c:=ok) (fun K_19 hK_19=>?_) ?_
       ·have h:=hx_19
        refine Sa (sT [pR 1 0,(3,.d (.bool v5)),(4,jI 0)] [(0,.var 29 (cv29 b))] 1 0) ?_
        obtain ⟨ok1,hx_20,h⟩:=bsome h
        refine AW.jqSK (fun (ok1:Bool)=>(sT [pR 1 0,(3,.d (.bool ok1))] [(0,.var 29 (cv29 b))] 1 0)) (c:=ok1) (fun K_20 hK_20=>?_) ?_
        ·have h:=hx_20
         refine AW.block ?_
         refine AW.whK (fun (⟨ok2,i⟩:Bool×Int)=>(sT [pR 1 0,(3,.d (.bool ok2)),(4,jI i)] [(0,.var 29 (cv29 b))] 1 0)) (g35_21 b) h (Can.kp (by kernel_rfl)) (fun s_21 c_21 h hb_21 K_21 hK_21=>?_)
         obtain ⟨ok2,i⟩:=s_21
         unfold g35_21 at h
         refine AW.seqK fun K_22 hK_22=>AW.srwK fun Q_23 hQ_23=>?_
         refine Au 2 (sT [pR 1 0,(3,.d (.bool ok2)),(4,jI i),(53,.d (.bool ok2))] [(0,.var 29 (cv29 b))] 1 0) ?_
         obtain ⟨v6,hx_24,h⟩:=bsome h
         refine RW.cut fokW 6 ((sT [pR 1 0,(3,.d (.bool ok2)),(4,jI i),(59,.d (.bool v6))] [(0,.var 29 (cv29 b))] 1 0)) ?_ ?_
         ·refine r_split 53 rfl (fun hb_25=>?_) (fun hb_25=>?_)
          ·have h:=ifT hb_25 hx_24
           refine aX 3 (sT [pR 1 0,(3,.d (.bool ok2)),(4,jI i),(53,.d (.bool true)),(54,jI i),(56,.d (.sl 2 (List.map e37 b.Stock)))] [(0,.var 29 (cv29 b))] 1 0) ?_
           refine r_lenX rfl rfl lenm ?_
           refine aX 2 (sT [pR 1 0,(3,.d (.bool ok2)),(4,jI i),(59,.d (.bool (decide (i<(b.Stock.length:Int)))))] [(0,.var 29 (cv29 b))] 1 0) ?_
           obtain rfl:=Option.some.inj h
           refine RunC.finJ (Can.kp (by kernel_rfl))
          ·have h:=ifF hb_25 hx_24
           refine aX 6 (sT [pR 1 0,(3,.d (.bool ok2)),(4,jI i),(59,.d (.bool false))] [(0,.var 29 (cv29 b))] 1 0) ?_
           obtain rfl:=Option.some.inj h
           refine RunC.finJ (Can.kp (by kernel_rfl))
         ·refine RW.nil (hQ_23 _ ?_)
          refine AW.cond rfl (fun hb_26=>?_) (fun hb_26=>?_)
          ·have h:=ifT hb_26 h
           refine AW.skip (hK_22 _ ?_)
           refine AW.seqK (fun K_27 hK_27=>?_)
           refine AW.block ?_
           refine AW.rw ?_
           refine Au 3 (sT [pR 1 0,(4,jI i),(63,.d (.sl 2 (List.map e37 b.Stock))),(64,jI i)] [(0,.var 29 (cv29 b))] 1 0) ?_
           obtain ⟨p,hv_29,h⟩:=bsome h
           refine RW.one fokW (r_iaD trivial rfl rfl (ixL_ok hv_29).1 (row:=e37 p) (mapget (ixL_ok hv_29).2) (r_end ?_))
           refine Au 1 (sT [pR 1 0,(4,jI i),(66,.agg [jI p.Low,jI p.High])] [(0,.var 29 (cv29 b))] 1 0) ?_
           obtain ⟨r0_3,hx_30,h⟩:=bsome h
           refine rC (k70 p 0 40 _ hx_30) ?_
           refine Au 1 (sT [pR 1 0,(3,.d (.bool r0_3)),(4,jI i)] [(0,.var 29 (cv29 b))] 1 0) ?_
           refine RW.nil ?_
           refine hK_27 _ ?_
           refine Ra (sT [pR 1 0,(3,.d (.bool r0_3)),(4,jI (wr (i+1)))] [(0,.var 29 (cv29 b))] 1 0) ?_
           obtain rfl:=Option.some.inj h
           exact hK_21 _ _ rfl (Can.kp (by kernel_rfl))
          ·have h:=ifF hb_26 h
           refine AW.exit ?_
           obtain rfl:=Option.some.inj h
           obtain rfl:=hb_21 _ rfl
           exact hK_20 _ (Can.kp (by kernel_rfl))
        ·obtain rfl:=Option.some.inj h
         exact hK_19 _ (Can.kp (by kernel_rfl))
       ·obtain ⟨ok3,hx_31,h⟩:=bsome h
        refine AW.jnSK (fun (ok3:Bool)=>(sT [(3,.d (.bool ok3))] [] 1 0)) (c:=ok3) (fun K_31 hK_31=>?_) ?_
        ·have h:=hx_31
         refine Sa (sT [pR 1 0,(3,.d (.bool ok)),(5,jI 0)] [(0,.var 29 (cv29 b))] 1 0) ?_
         obtain ⟨ok4,hx_32,h⟩:=bsome h
         refine AW.jqSK (fun (ok4:Bool)=>(sT [(3,.d (.bool ok4))] [] 1 0)) (c:=ok4) (fun K_32 hK_32=>?_) ?_
         ·have h:=hx_32
          refine AW.block ?_
          refine AW.whK (fun (⟨ok5,i1⟩:Bool×Int)=>(sT [pR 1 0,(3,.d (.bool ok5)),(5,jI i1)] [(0,.var 29 (cv29 b))] 1 0)) (g35_33 b) h (Can.kp (by kernel_rfl)) (fun s_33 c_33 h hb_33 K_33 hK_33=>?_)
          obtain ⟨ok5,i1⟩:=s_33
          unfold g35_33 at h
          refine AW.seqK fun K_34 hK_34=>AW.srwK fun Q_35 hQ_35=>?_
          refine Au 2 (sT [pR 1 0,(3,.d (.bool ok5)),(5,jI i1),(69,.d (.bool ok5))] [(0,.var 29 (cv29 b))] 1 0) ?_
          obtain ⟨v7,hx_36,h⟩:=bsome h
          refine RW.cut fokW 6 ((sT [pR 1 0,(3,.d (.bool ok5)),(5,jI i1),(75,.d (.bool v7))] [(0,.var 29 (cv29 b))] 1 0)) ?_ ?_
          ·refine r_split 69 rfl (fun hb_37=>?_) (fun hb_37=>?_)
           ·have h:=ifT hb_37 hx_36
            refine aX 3 (sT [pR 1 0,(3,.d (.bool ok5)),(5,jI i1),(69,.d (.bool true)),(70,jI i1),(72,.d (.sl 1 (List.map e30 b.Needs)))] [(0,.var 29 (cv29 b))] 1 0) ?_
            refine r_lenX rfl rfl lenm ?_
            refine aX 2 (sT [pR 1 0,(3,.d (.bool ok5)),(5,jI i1),(75,.d (.bool (decide (i1<(b.Needs.length:Int)))))] [(0,.var 29 (cv29 b))] 1 0) ?_
            obtain rfl:=Option.some.inj h
            refine RunC.finJ (Can.kp (by kernel_rfl))
           ·have h:=ifF hb_37 hx_36
            refine aX 6 (sT [pR 1 0,(3,.d (.bool ok5)),(5,jI i1),(75,.d (.bool false))] [(0,.var 29 (cv29 b))] 1 0) ?_
            obtain rfl:=Option.some.inj h
            refine RunC.finJ (Can.kp (by kernel_rfl))
          ·refine RW.nil (hQ_35 _ ?_)
           refine AW.cond rfl (fun hb_38=>?_) (fun hb_38=>?_)
           ·have h:=ifT hb_38 h
            refine AW.skip (hK_34 _ ?_)
            obtain ⟨ok6,hx_39,h⟩:=bsome h
            refine AW.jnSK (fun (ok6:Bool)=>(sT [pR 1 0,(3,.d (.bool ok6)),(5,jI i1)] [(0,.var 29 (cv29 b))] 1 0)) (c:=ok6) (fun K_39 hK_39=>?_) ?_
            ·have h:=hx_39
             refine AW.block ?_
             refine AW.sdrwK fokW (fun Q_40 hQ_40=>?_)
             refine aX 3 (sT [pR 1 0,(5,jI i1),(79,.d (.sl 1 (List.map e30 b.Needs))),(80,jI i1)] [(0,.var 29 (cv29 b))] 1 0) ?_
             obtain ⟨p1,hv_41,h⟩:=bsome h
             refine r_iaD trivial rfl rfl (ixL_ok hv_41).1 (row:=e30 p1) (mapget (ixL_ok hv_41).2) ?_
             refine aX 1 (sT [pR 1 0,(5,jI i1),(82,.d (q1 p1))] [(0,.var 29 (cv29 b))] 1 0) ?_
             refine r_lenX trivial rfl lenm ?_
             refine aX 2 (sT [pR 1 0,(5,jI i1),(83,jI (p1.length:Int)),(85,.d (.sl 2 (List.map e37 b.Stock)))] [(0,.var 29 (cv29 b))] 1 0) ?_
             refine r_lenX trivial rfl lenm ?_
             refine aX 2 (sT [pR 1 0,(3,.d (.bool (decide ((p1.length:Int)=(b.Stock.length:Int))))),(5,jI i1)] [(0,.var 29 (cv29 b))] 1 0) ?_
             refine Fi (sT [pR 1 0,(3,.d (.bool (decide ((p1.length:Int)=(b.Stock.length:Int))))),(5,jI i1)] [(0,.var 29 (cv29 b))] 1 0) ?_
             refine hQ_40 _ ?_
             refine Sa (sT [pR 1 0,(3,.d (.bool (decide ((p1.length:Int)=(b.Stock.length:Int))))),(5,jI i1),(6,jI 0)] [(0,.var 29 (cv29 b))] 1 0) ?_
             obtain ⟨ok7,hx_42,h⟩:=bsome h
             refine AW.jqSK (fun (ok7:Bool)=>(sT [pR 1 0,(3,.d (.bool ok7)),(5,jI i1)] [(0,.var 29 (cv29 b))] 1 0)) (c:=ok7) (fun K_42 hK_42=>?_) ?_
             ·have h:=hx_42
              refine AW.block ?_
              refine AW.whK (fun (⟨ok8,k⟩:Bool×Int)=>(sT [pR 1 0,(3,.d (.bool ok8)),(5,jI i1),(6,jI k)] [(0,.var 29 (cv29 b))] 1 0)) (g35_43 p1) h (Can.kp (by kernel_rfl)) (fun s_43 c_43 h hb_43 K_43 hK_43=>?_)
              obtain ⟨ok8,k⟩:=s_43
              unfold g35_43 at h
              refine AW.seqK fun K_44 hK_44=>AW.srwK fun Q_45 hQ_45=>?_
              refine Au 2 (sT [pR 1 0,(3,.d (.bool ok8)),(5,jI i1),(6,jI k),(89,.d (.bool ok8))] [(0,.var 29 (cv29 b))] 1 0) ?_
              obtain ⟨v8,hx_46,h⟩:=bsome h
              refine RW.cut fokW 9 ((sT [pR 1 0,(3,.d (.bool ok8)),(5,jI i1),(6,jI k),(98,.d (.bool v8))] [(0,.var 29 (cv29 b))] 1 0)) ?_ ?_
              ·refine r_split 89 rfl (fun hb_47=>?_) (fun hb_47=>?_)
               ·have h:=ifT hb_47 hx_46
                refine aX 4 (sT [pR 1 0,(3,.d (.bool ok8)),(5,jI i1),(6,jI k),(89,.d (.bool true)),(90,jI k),(92,.d (.sl 1 (List.map e30 b.Needs))),(93,jI i1)] [(0,.var 29 (cv29 b))] 1 0) ?_
                refine r_iaD rfl rfl rfl (ixL_ok hv_41).1 (row:=e30 p1) (mapget (ixL_ok hv_41).2) ?_
                refine aX 1 (sT [pR 1 0,(3,.d (.bool ok8)),(5,jI i1),(6,jI k),(89,.d (.bool true)),(90,jI k),(95,.d (q1 p1))] [(0,.var 29 (cv29 b))] 1 0) ?_
                refine r_lenX rfl rfl lenm ?_
                refine aX 2 (sT [pR 1 0,(3,.d (.bool ok8)),(5,jI i1),(6,jI k),(98,.d (.bool (decide (k<(p1.length:Int)))))] [(0,.var 29 (cv29 b))] 1 0) ?_
                obtain rfl:=Option.some.inj h
                refine RunC.finJ (Can.kp (by kernel_rfl))
               ·have h:=ifF hb_47 hx_46
                refine aX 9 (sT [pR 1 0,(3,.d (.bool ok8)),(5,jI i1),(6,jI k),(98,.d (.bool false))] [(0,.var 29 (cv29 b))] 1 0) ?_
                obtain rfl:=Option.some.inj h
                refine RunC.finJ (Can.kp (by kernel_rfl))
              ·refine RW.nil (hQ_45 _ ?_)
               refine AW.cond rfl (fun hb_48=>?_) (fun hb_48=>?_)
               ·have h:=ifT hb_48 h
                refine AW.skip (hK_44 _ ?_)
                refine AW.seqK (fun K_49 hK_49=>?_)
                refine AW.block ?_
                refine AW.rw ?_
                refine Au 3 (sT [pR 1 0,(5,jI i1),(6,jI k),(102,.d (.sl 1 (List.map e30 b.Needs))),(103,jI i1)] [(0,.var 29 (cv29 b))] 1 0) ?_
                refine RW.one fokW (r_iaD trivial rfl rfl (ixL_ok hv_41).1 (row:=e30 p1) (mapget (ixL_ok hv_41).2) (r_end ?_))
                refine Au 2 (sT [pR 1 0,(5,jI i1),(6,jI k),(105,.d (q1 p1)),(106,jI k)] [(0,.var 29 (cv29 b))] 1 0) ?_
                obtain ⟨p2,hv_51,h⟩:=bsome h
                refine RW.one fokW (r_iaD trivial rfl rfl (ixL_ok hv_51).1 (row:=e3 p2) (mapget (ixL_ok hv_51).2) (r_end ?_))
                refine Au 1 (sT [pR 1 0,(5,jI i1),(6,jI k),(108,jI p2)] [(0,.var 29 (cv29 b))] 1 0) ?_
                obtain ⟨r0_4,hx_52,h⟩:=bsome h
                refine rC (k44 p2 0 9 _ hx_52) ?_
                refine Au 1 (sT [pR 1 0,(3,.d (.bool r0_4)),(5,jI i1),(6,jI k)] [(0,.var 29 (cv29 b))] 1 0) ?_
                refine RW.nil ?_
                refine hK_49 _ ?_
                refine Ra (sT [pR 1 0,(3,.d (.bool r0_4)),(5,jI i1),(6,jI (wr (k+1)))] [(0,.var 29 (cv29 b))] 1 0) ?_
                obtain rfl:=Option.some.inj h
                exact hK_43 _ _ rfl (Can.kp (by kernel_rfl))
               ·have h:=ifF hb_48 h
                refine AW.exit ?_
                obtain rfl:=Option.some.inj h
                obtain rfl:=hb_43 _ rfl
                exact hK_42 _ (Can.kp (by kernel_rfl))
             ·obtain rfl:=Option.some.inj h
              exact hK_39 _ (Can.kp (by kernel_rfl))
            ·refine Ra (sT [pR 1 0,(3,.d (.bool ok6)),(5,jI (wr (i1+1)))] [(0,.var 29 (cv29 b))] 1 0) ?_
             obtain rfl:=Option.some.inj h
             exact hK_33 _ _ rfl (Can.kp (by kernel_rfl))
           ·have h:=ifF hb_38 h
            refine AW.exit ?_
            obtain rfl:=Option.some.inj h
            obtain rfl:=hb_33 _ rfl
            exact hK_32 _ (Can.kp (by kernel_rfl))
         ·obtain rfl:=Option.some.inj h
          exact hK_31 _ (Can.kp (by kernel_rfl))
        ·refine Sa (sT [(2,.d (.bool ok3))] [] 1 0) ?_
         obtain rfl:=Option.some.inj h
         exact rT hR_0 (.cons (.tmp rfl) .nil)
def g46 (low:Int) (high:Int):Option Span:=some (Span.mk low high)
theorem k46 (low:Int) (high:Int) (r:Span) (h:g46 low high=some r):SCall Tryd.prog Gs 46 [jI low,jI high] [] 0 Fr.emp (.agg [jI r.Low,jI r.High]) [] 0 Fr.emp:=by
 unfold g46 at h
 refine SCall.mkK Tryd.func46 c46 rfl rfl (by kernel_rfl) (fun Q_0 hR_0 hN_0=>?_)
 refine Sa (sT [(0,jI low),(1,jI high),pR 4 0] [(0,.var 37 [jI 0,jI 0])] 1 0) ?_
 refine Sa (sT [pR 4 0] [(0,.var 37 [jI low,jI high])] 1 0) ?_
 obtain rfl:=Option.some.inj h
 exact rT hR_0 (.cons (.agg rfl rfl (Nat.le_of_ble_eq_true rfl)) .nil)
def g113 (weight:Span) (shade:Span):Option HairHank:=some (HairHank.mk weight shade)
theorem k113 (weight:Span) (shade:Span) (r:HairHank) (h:g113 weight shade=some r):SCall Tryd.prog Gs 113 [.agg [jI weight.Low,jI weight.High],.agg [jI shade.Low,jI shade.High]] [] 0 Fr.emp (.agg [jI r.Weight.Low,jI r.Weight.High,jI r.Shade.Low,jI r.Shade.High]) [] 0 Fr.emp:=by
 unfold g113 at h
 refine SCall.mkK Tryd.func113 c113 rfl rfl (by kernel_rfl) (fun Q_0 hR_0 hN_0=>?_)
 refine Sa (sT [pR 2 0,pR 3 1,pR 4 2] [(2,.var 107 [jI 0,jI 0,jI 0,jI 0]),(1,.var 37 [jI shade.Low,jI shade.High]),(0,.var 37 [jI weight.Low,jI weight.High])] 3 0) ?_
 refine Sa (sT [pR 4 2] [(2,.var 107 [jI weight.Low,jI weight.High,jI shade.Low,jI shade.High])] 3 0) ?_
 obtain rfl:=Option.some.inj h
 exact rT hR_0 (.cons (.agg rfl rfl (Nat.le_of_ble_eq_true rfl)) .nil)
def g56 (n:Int):Option Span:=some (Span.mk n n)
theorem k56 (n:Int) (r:Span) (h:g56 n=some r):SCall Tryd.prog Gs 56 [jI n] [] 0 Fr.emp (.agg [jI r.Low,jI r.High]) [] 0 Fr.emp:=by
 unfold g56 at h
 refine SCall.mkK Tryd.func56 c56 rfl rfl (by kernel_rfl) (fun Q_0 hR_0 hN_0=>?_)
 refine Sa (sT [(0,jI n),pR 2 0] [(0,.var 37 [jI 0,jI 0])] 1 0) ?_
 refine Sa (sT [pR 2 0] [(0,.var 37 [jI n,jI n])] 1 0) ?_
 obtain rfl:=Option.some.inj h
 exact rT hR_0 (.cons (.agg rfl rfl (Nat.le_of_ble_eq_true rfl)) .nil)
def g92 :Option ((List HairHank)×(List HairHorse)×Int×Int×Int):=(g46 10 11).bind fun r0=>(g46 4 5).bind fun r0_1=>(g113 r0 r0_1).bind fun r0_2=>(g46 8 9).bind fun r0_3=>(g56 6).bind fun r0_4=>(g113 r0_3 r0_4).bind fun r0_5=>(g46 20 22).bind fun r0_6=>(g56 3).bind fun r0_7=>(g113 r0_6 r0_7).bind fun r0_8=>some ([r0_2,r0_5,r0_8],[(HairHorse.mk 6 4 6),(HairHorse.mk 5 3 7)],2,1,1)
theorem k92  (r:(List HairHank)×(List HairHorse)×Int×Int×Int) (h:g92=some r):SCall Tryd.prog Gs 92 [] [] 0 Fr.emp (match r with | (r0_Hanks,r0_Horses,r0_Dark,r0_Near,r0_Match)=>.agg [.own 1 (List.map e107 r0_Hanks).length,.own 2 (List.map e112 r0_Horses).length,jI r0_Dark,jI r0_Near,jI r0_Match]) (match r with | (r0_Hanks,r0_Horses,r0_Dark,r0_Near,r0_Match)=>[(1,.row 107 4 (List.map e107 r0_Hanks)),(2,.row 112 3 (List.map e112 r0_Horses))]) 3 Fr.emp:=by
 unfold g92 at h
 refine SCall.mkK Tryd.func92 c92 rfl rfl (by kernel_rfl) (fun Q_0 hR_0 hN_0=>?_)
 refine Sa (sT [pR 0 0] [(0,.var 25 [.d (.nilSl),.d (.nilSl),jI 0,jI 0,jI 0])] 1 0) ?_
 refine AW.srwK (fun Q_1 hQ_1=>?_)
 obtain ⟨r0,hx_2,h⟩:=bsome h
 refine rC (k46 10 11 _ hx_2) ?_
 obtain ⟨r0_1,hx_3,h⟩:=bsome h
 refine rC (k46 4 5 _ hx_3) ?_
 obtain ⟨r0_2,hx_4,h⟩:=bsome h
 refine rC (k113 r0 r0_1 _ hx_4) ?_
 obtain ⟨r0_3,hx_5,h⟩:=bsome h
 refine rC (k46 8 9 _ hx_5) ?_
 obtain ⟨r0_4,hx_6,h⟩:=bsome h
 refine rC (k56 6 _ hx_6) ?_
 obtain ⟨r0_5,hx_7,h⟩:=bsome h
 refine rC (k113 r0_3 r0_4 _ hx_7) ?_
 obtain ⟨r0_6,hx_8,h⟩:=bsome h
 refine rC (k46 20 22 _ hx_8) ?_
 obtain ⟨r0_7,hx_9,h⟩:=bsome h
 refine rC (k56 3 _ hx_9) ?_
 obtain ⟨r0_8,hx_10,h⟩:=bsome h
 refine rC (k113 r0_6 r0_7 _ hx_10) ?_
 refine Au 6 (sT [pR 0 0] [(0,.var 25 [.own 1 (List.map e107 [r0_2,r0_5,r0_8]).length,.own 2 (List.map e112 [(HairHorse.mk 6 4 6),(HairHorse.mk 5 3 7)]).length,jI 2,jI 1,jI 1]),(2,.row 112 3 (List.map e112 [(HairHorse.mk 6 4 6),(HairHorse.mk 5 3 7)])),(1,.row 107 4 (List.map e107 [r0_2,r0_5,r0_8]))] 3 0) ?_
 refine RW.nil (hQ_1 _ ?_)
 obtain rfl:=Option.some.inj h
 exact rT hR_0 (.cons (.agg rfl rfl (Nat.le_of_ble_eq_true rfl)) .nil)
def g55 :Option ((List HairHank)×(List HairHorse)×Int×Int×Int×(List (List Int))×(List Span)×Int×Int):=(g92).bind fun (r0_Hanks,r0_Horses,r0_Dark,r0_Near,r0_Match)=>(g46 2 3).bind fun r0=>(g46 4 5).bind fun r0_1=>some (r0_Hanks,r0_Horses,r0_Dark,r0_Near,r0_Match,[[1,4],[1,2]],[r0,r0_1],7,1)
theorem k55  (r:(List HairHank)×(List HairHorse)×Int×Int×Int×(List (List Int))×(List Span)×Int×Int) (h:g55=some r):SCall Tryd.prog Gs 55 [] [] 0 Fr.emp (match r with | (r0_Hair_Hanks,r0_Hair_Horses,r0_Hair_Dark,r0_Hair_Near,r0_Hair_Match,r0_Needs,r0_Stock,r0_Pack,r0_Bad)=>.agg [.own 2 (List.map e107 r0_Hair_Hanks).length,.own 3 (List.map e112 r0_Hair_Horses).length,jI r0_Hair_Dark,jI r0_Hair_Near,jI r0_Hair_Match,.own 6 (List.map e30 r0_Needs).length,.own 7 (List.map e37 r0_Stock).length,jI r0_Pack,jI r0_Bad]) (match r with | (r0_Hair_Hanks,r0_Hair_Horses,r0_Hair_Dark,r0_Hair_Near,r0_Hair_Match,r0_Needs,r0_Stock,r0_Pack,r0_Bad)=>[(2,.row 107 4 (List.map e107 r0_Hair_Hanks)),(3,.row 112 3 (List.map e112 r0_Hair_Horses)),(6,.row 30 1 (List.map e30 r0_Needs)),(7,.row 37 2 (List.map e37 r0_Stock))]) 8 Fr.emp:=by
 unfold g55 at h
 refine SCall.mkK Tryd.func55 c55 rfl rfl (by kernel_rfl) (fun Q_0 hR_0 hN_0=>?_)
 refine Sa (sT [pR 0 0] [(0,.var 29 [.d (.nilSl),.d (.nilSl),jI 0,jI 0,jI 0,.d (.nilSl),.d (.nilSl),jI 0,jI 0])] 1 0) ?_
 refine AW.srwK (fun Q_1 hQ_1=>?_)
 obtain ⟨⟨r0_Hanks,r0_Horses,r0_Dark,r0_Near,r0_Match⟩,hx_2,h⟩:=bsome h
 refine RW.one fokW (r_callS (zr:=[]) [] trivial rfl (k92 _ hx_2) trivial rfl rfl trivial rfl rfl rfl (r_end ?_))
 refine RW.one fokW (r_bslF trivial rfl rfl rfl rfl rfl rfl (ys:=List.map e3 [1,4]) rfl (r_end ?_))
 refine RW.one fokW (r_bslF trivial rfl rfl rfl rfl rfl rfl (ys:=List.map e3 [1,2]) rfl (r_end ?_))
 refine Au 1 (sT [pR 0 0,(1,.agg [.own 2 (List.map e107 r0_Hanks).length,.own 3 (List.map e112 r0_Horses).length,jI r0_Dark,jI r0_Near,jI r0_Match]),(4,.own 6 (List.map e30 ([[1,4],[1,2]])).length)] [(6,.row 30 1 (List.map e30 ([[1,4],[1,2]]))),(2,.row 107 4 (List.map e107 r0_Hanks)),(3,.row 112 3 (List.map e112 r0_Horses)),(0,.var 29 [.d (.nilSl),.d (.nilSl),jI 0,jI 0,jI 0,.d (.nilSl),.d (.nilSl),jI 0,jI 0])] 7 0) ?_
 obtain ⟨r0,hx_3,h⟩:=bsome h
 refine rC (k46 2 3 _ hx_3) ?_
 obtain ⟨r0_1,hx_4,h⟩:=bsome h
 refine rC (k46 4 5 _ hx_4) ?_
 refine Au 3 (sT [pR 0 0] [(0,.var 29 [.own 2 (List.map e107 r0_Hanks).length,.own 3 (List.map e112 r0_Horses).length,jI r0_Dark,jI r0_Near,jI r0_Match,.own 6 (List.map e30 ([[1,4],[1,2]])).length,.own 7 (List.map e37 [r0,r0_1]).length,jI 7,jI 1]),(7,.row 37 2 (List.map e37 [r0,r0_1])),(6,.row 30 1 (List.map e30 ([[1,4],[1,2]]))),(2,.row 107 4 (List.map e107 r0_Hanks)),(3,.row 112 3 (List.map e112 r0_Horses))] 8 0) ?_
 refine RW.nil (hQ_1 _ ?_)
 obtain rfl:=Option.some.inj h
 exact rT hR_0 (.cons (.agg rfl rfl (Nat.le_of_ble_eq_true rfl)) .nil)
def g111_8 (v:Int) (p:HairHank):Int→(List (Hair_dye×Span))→Option (List (Hair_dye×Span)):=fun v1 m1=>(mput q131 m1 (Hair_dye.mk v v1) (Span.mk (wr (p.Shade.Low+v1)) (wr (p.Shade.High+v1)))).bind fun m2=>some m2
def g111_3 (x:HairBook):Int→HairHank→(List (Hair_dye×Span))→Option (List (Hair_dye×Span)):=fun v p m=>(forS (g111_8 v p) ((((wr (x.Dark+1)):Int) - 0).toNat) 0 m).bind fun m1=>some m1
def g111 (x:HairBook):Option (HairBook×(List (Hair_dye×Span))):=(eachS (g111_3 x) x.Hanks 0 ([]:List (Hair_dye×Span))).bind fun m=>some (x,m)
def y1 (x:HairBook):List (Nat×Blk):=[(3,.var 122 (catV (cv25 x) [.map 2])),(2,.mp (List.map m131_37 [])),(1,.var 122 [.d (.nilSl),.d (.nilSl),jI 0,jI 0,jI 0,.d (.nilMap)]),(0,.var 25 (cv25 x))]
def y2 (x:HairBook) (m:List (Hair_dye×Span)):List (Nat×Blk):=[(3,.var 122 (catV (cv25 x) [.map 2])),(2,.mp (List.map m131_37 m)),(1,.var 122 [.d (.nilSl),.d (.nilSl),jI 0,jI 0,jI 0,.d (.nilMap)]),(0,.var 25 (cv25 x))]
theorem k111 (x:HairBook) (r:HairBook×(List (Hair_dye×Span))) (h:g111 x=some r):SCall Tryd.prog Gs 111 [.agg (cv25 x)] [] 0 Fr.emp (match r with | (r0_B,mf)=>.agg (hbm r0_B mf)) [] 0 Fr.emp:=by
 unfold g111 at h
 refine SCall.mkK Tryd.func111 c111 rfl rfl (by kernel_rfl) (fun Q_0 hR_0 hN_0=>?_)
 refine Sa (sT [pR 1 0,pR 2 1] [(1,.var 122 [.d (.nilSl),.d (.nilSl),jI 0,jI 0,jI 0,.d (.nilMap)]),(0,.var 25 (cv25 x))] 2 0) ?_
 refine Sa (sT [pR 1 0,pR 2 1,pR 3 3] (y1 x) 4 0) ?_
 refine AW.seqK fun K_1 hK_1=>AW.srwK fun Q_2 hQ_2=>?_
 refine Au 2 (sT [pR 1 0,pR 2 1,pR 3 3,(11,.d (.sl 4 (List.map e107 x.Hanks)))] (y1 x) 4 0) ?_
 refine rL rfl ?_
 refine Au 1 (sT [pR 1 0,pR 2 1,pR 3 3,(11,.d (.sl 4 (List.map e107 x.Hanks))),(12,jI (x.Hanks.length:Int)),(13,jI 0)] (y1 x) 4 0) ?_
 refine RW.nil (hQ_2 _ ?_)
 refine AW.block ?_
 refine AW.sln (t:=11) rfl (fun hN_3=>?_)
 rw [List.length_map] at hN_3
 obtain ⟨out_3,hx_3,h⟩:=bsome h
 refine AW.evSK (fun (v:Int) (m:List (Hair_dye×Span))=>(sT [pR 1 0,pR 2 1,pR 3 3,(11,.d (.sl 4 (List.map e107 x.Hanks))),(12,jI (x.Hanks.length:Int)),(13,jI v)] (y2 x m) 4 0)) (g111_3 x) hx_3 (Can.kp (by kernel_rfl)) (fun v p m hi_3 hl_3 hp_3 c_3 h K_3 hK_3=>?_) (fun v m hi_3 hl_3 hout=>?_)
 ·unfold g111_3 at h
  refine Sa (sT [pR 1 0,pR 2 1,pR 3 3,(11,.d (.sl 4 (List.map e107 x.Hanks))),(12,jI (x.Hanks.length:Int)),(13,jI v),(14,.d (.bool (decide (v<(x.Hanks.length:Int)))))] (y2 x m) 4 0) ?_
  refine AW.seqK (fun K_4 hK_4=>?_)
  refine AW.cond rfl (fun hb_5=>?_) (fun hb_5=>False.elim (by have:=of_decide_eq_false hb_5;omega))
  refine AW.skip (hK_4 _ ?_)
  refine AW.seqK (fun K_6 hK_6=>?_)
  refine AW.block ?_
  refine AW.srwK (fun Q_7 hQ_7=>?_)
  refine Au 1 (sT [pR 1 0,pR 2 1,pR 3 3,(11,.d (.sl 4 (List.map e107 x.Hanks))),(12,jI (x.Hanks.length:Int)),(13,jI v),(15,jI v)] (y2 x m) 4 0) ?_
  refine RW.one fokW (r_iaD trivial rfl rfl hi_3 (row:=e107 p) (mapget hp_3) (r_end ?_))
  refine Au 4 (sT [pR 1 0,pR 2 1,pR 3 3,(4,jI v),pR 5 4,(11,.d (.sl 4 (List.map e107 x.Hanks))),(12,jI (x.Hanks.length:Int)),(13,jI v)] [(4,.var 107 (cv107 p)),(3,.var 122 (catV (cv25 x) [.map 2])),(2,.mp (List.map m131_37 m)),(1,.var 122 [.d (.nilSl),.d (.nilSl),jI 0,jI 0,jI 0,.d (.nilMap)]),(0,.var 25 (cv25 x))] 5 0) ?_
  refine RW.nil (hQ_7 _ ?_)
  refine Sa (sT [pR 1 0,pR 2 1,pR 3 3,(4,jI v),pR 5 4,(11,.d (.sl 4 (List.map e107 x.Hanks))),(12,jI (x.Hanks.length:Int)),(13,jI v),(20,jI (wr (x.Dark+1))),(21,jI 0)] [(4,.var 107 (cv107 p)),(3,.var 122 (catV (cv25 x) [.map 2])),(2,.mp (List.map m131_37 m)),(1,.var 122 [.d (.nilSl),.d (.nilSl),jI 0,jI 0,jI 0,.d (.nilMap)]),(0,.var 25 (cv25 x))] 5 0) ?_
  refine AW.block ?_
  have hN_8:(wr (x.Dark+1))≤9223372036854775807:=(wr_range _).2
  obtain ⟨out_8,hx_8,h⟩:=bsome h
  refine AW.lpSK (fun (v1:Int) (m1:List (Hair_dye×Span))=>(sT [pR 1 0,pR 2 1,pR 3 3,(4,jI v),pR 5 4,(11,.d (.sl 4 (List.map e107 x.Hanks))),(12,jI (x.Hanks.length:Int)),(13,jI v),(20,jI (wr (x.Dark+1))),(21,jI v1)] [(4,.var 107 (cv107 p)),(3,.var 122 (catV (cv25 x) [.map 2])),(2,.mp (List.map m131_37 m1)),(1,.var 122 [.d (.nilSl),.d (.nilSl),jI 0,jI 0,jI 0,.d (.nilMap)]),(0,.var 25 (cv25 x))] 5 0)) (g111_8 v p) ((wr (x.Dark+1))) hx_8 (Can.kp (by kernel_rfl)) (fun v1 m1 hi_8 hl_8 c_8 h K_8 hK_8=>?_) (fun v1 m1 hi_8 hl_8 hout=>?_)
  ·unfold g111_8 at h
   refine Sa (sT [pR 1 0,pR 2 1,pR 3 3,(4,jI v),pR 5 4,(11,.d (.sl 4 (List.map e107 x.Hanks))),(12,jI (x.Hanks.length:Int)),(13,jI v),(20,jI (wr (x.Dark+1))),(21,jI v1),(22,.d (.bool (decide (v1<(wr (x.Dark+1))))))] [(4,.var 107 (cv107 p)),(3,.var 122 (catV (cv25 x) [.map 2])),(2,.mp (List.map m131_37 m1)),(1,.var 122 [.d (.nilSl),.d (.nilSl),jI 0,jI 0,jI 0,.d (.nilMap)]),(0,.var 25 (cv25 x))] 5 0) ?_
   refine AW.seqK (fun K_9 hK_9=>?_)
   refine AW.cond rfl (fun hb_10=>?_) (fun hb_10=>False.elim (by have:=of_decide_eq_false hb_10;omega))
   refine AW.skip (hK_9 _ ?_)
   refine AW.seqK (fun K_11 hK_11=>?_)
   refine AW.block ?_
   refine Sa (sT [pR 1 0,pR 2 1,pR 3 3,(4,jI v),pR 5 4,(6,jI v1),(11,.d (.sl 4 (List.map e107 x.Hanks))),(12,jI (x.Hanks.length:Int)),(13,jI v),(20,jI (wr (x.Dark+1))),(21,jI v1)] [(4,.var 107 (cv107 p)),(3,.var 122 (catV (cv25 x) [.map 2])),(2,.mp (List.map m131_37 m1)),(1,.var 122 [.d (.nilSl),.d (.nilSl),jI 0,jI 0,jI 0,.d (.nilMap)]),(0,.var 25 (cv25 x))] 5 0) ?_
   refine AW.rw ?_
   refine Au 16 (sT [pR 1 0,pR 2 1,pR 3 3,(4,jI v),pR 5 4,(11,.d (.sl 4 (List.map e107 x.Hanks))),(12,jI (x.Hanks.length:Int)),(13,jI v),(20,jI (wr (x.Dark+1))),(21,jI v1),(25,.map 2),(28,.agg [jI v,jI v1]),(39,.agg [jI (wr (p.Shade.Low+v1)),jI (wr (p.Shade.High+v1))])] [(4,.var 107 (cv107 p)),(3,.var 122 (catV (cv25 x) [.map 2])),(2,.mp (List.map m131_37 m1)),(1,.var 122 [.d (.nilSl),.d (.nilSl),jI 0,jI 0,jI 0,.d (.nilMap)]),(0,.var 25 (cv25 x))] 5 0) ?_
   obtain ⟨m2,hv_13,h⟩:=bsome h
   refine RW.one fokW (r_mput q131 e131 (fun x=>DV.a (e37 x)) trivial rfl rfl rfl rfl ft131 q131_ok (fun _=>rfl) rfl hv_13 (r_end ?_))
   refine RW.nil ?_
   refine hK_11 _ ?_
   refine Ra (sT [pR 1 0,pR 2 1,pR 3 3,(4,jI v),pR 5 4,(11,.d (.sl 4 (List.map e107 x.Hanks))),(12,jI (x.Hanks.length:Int)),(13,jI v),(20,jI (wr (x.Dark+1))),(21,jI (wr (v1+1)))] [(2,.mp (List.map m131_37 m2)),(4,.var 107 (cv107 p)),(3,.var 122 (catV (cv25 x) [.map 2])),(1,.var 122 [.d (.nilSl),.d (.nilSl),jI 0,jI 0,jI 0,.d (.nilMap)]),(0,.var 25 (cv25 x))] 5 0) ?_
   obtain rfl:=Option.some.inj h
   have ew:wr (v1+1)=v1+1:=inext (N:=(wr (x.Dark+1))) (by omega) (by omega) (by omega)
   rw [ew]
   exact hK_8 _ (Can.kp (by kernel_rfl))
  ·subst hout
   refine Sa (sT [pR 1 0,pR 2 1,pR 3 3,(4,jI v),pR 5 4,(11,.d (.sl 4 (List.map e107 x.Hanks))),(12,jI (x.Hanks.length:Int)),(13,jI v),(20,jI (wr (x.Dark+1))),(21,jI v1),(22,.d (.bool (decide (v1<(wr (x.Dark+1))))))] [(4,.var 107 (cv107 p)),(3,.var 122 (catV (cv25 x) [.map 2])),(2,.mp (List.map m131_37 m1)),(1,.var 122 [.d (.nilSl),.d (.nilSl),jI 0,jI 0,jI 0,.d (.nilMap)]),(0,.var 25 (cv25 x))] 5 0) ?_
   refine AW.seqK (fun K_14 hK_14=>?_)
   refine AW.cond rfl (fun hb_15=>False.elim (by have:=of_decide_eq_true hb_15;omega)) (fun hb_15=>?_)
   refine AW.exit ?_
   refine hK_6 _ ?_
   refine Ra (sT [pR 1 0,pR 2 1,pR 3 3,(11,.d (.sl 4 (List.map e107 x.Hanks))),(12,jI (x.Hanks.length:Int)),(13,jI (wr (v+1)))] [(3,.var 122 (catV (cv25 x) [.map 2])),(2,.mp (List.map m131_37 m1)),(1,.var 122 [.d (.nilSl),.d (.nilSl),jI 0,jI 0,jI 0,.d (.nilMap)]),(0,.var 25 (cv25 x))] 5 0) ?_
   obtain rfl:=Option.some.inj h
   have ew:wr (v+1)=v+1:=inext (N:=(x.Hanks.length:Int)) (by omega) (by omega) (by omega)
   rw [ew]
   exact hK_3 _ (Can.kp (by kernel_rfl))
 ·subst hout
  refine Sa (sT [pR 1 0,pR 2 1,pR 3 3,(11,.d (.sl 4 (List.map e107 x.Hanks))),(12,jI (x.Hanks.length:Int)),(13,jI v),(14,.d (.bool (decide (v<(x.Hanks.length:Int)))))] (y2 x m) 4 0) ?_
  refine AW.seqK (fun K_16 hK_16=>?_)
  refine AW.cond rfl (fun hb_17=>False.elim (by have:=of_decide_eq_true hb_17;omega)) (fun hb_17=>?_)
  refine AW.exit ?_
  refine hK_1 _ ?_
  refine Sa (sT [pR 2 1] [(1,.var 122 (catV (cv25 x) [.map 2])),(2,.mp (List.map m131_37 m))] 4 0) ?_
  obtain rfl:=Option.some.inj h
  exact AW.ret (hR_0 _ (retXM (.cons (.agg rfl rfl (Nat.le_of_ble_eq_true rfl)) .nil) (FrzR.agg_of ⟨.of (.refl _),.of (.refl _),.of (.refl _),.of (.refl _),.of (.refl _),.mp rfl,trivial⟩) rfl (by kernel_rfl) (by kernel_rfl)))
def g120 :Option Unit:=some ()
theorem k120  (r:Unit) (h:g120=some r):SCall Tryd.prog Gs 120 [] [] 0 Fr.emp (.agg [.d (.fn 127)]) [] 0 Fr.emp:=by
 unfold g120 at h
 refine SCall.mkK Tryd.func120 c120 rfl rfl (by kernel_rfl) (fun Q_0 hR_0 hN_0=>?_)
 refine Sa (sT [pR 0 0] [(0,.var 135 [.d (.nilFn)])] 1 0) ?_
 refine Sa (sT [pR 0 0] [(0,.var 135 [.d (.fn 127)])] 1 0) ?_
 obtain rfl:=Option.some.inj h
 exact rT hR_0 (.cons (.agg rfl rfl (Nat.le_of_ble_eq_true rfl)) .nil)
def g119 (b_B:HairBook) (mf:List (Hair_dye×Span)) (m0_B:HairBook) (mf_1:List (Hair_dye×Span)):Option (HairBook×(List (Hair_dye×Span))):=some (b_B,mf)
theorem k119 (b_B:HairBook) (mf:List (Hair_dye×Span)) (m0_B:HairBook) (mf_1:List (Hair_dye×Span)) (r:HairBook×(List (Hair_dye×Span))) (h:g119 b_B mf m0_B mf_1=some r):SCall Tryd.prog Gs 119 [.agg (hbm b_B mf),.agg [.d (.fn 127)],.clo 121 [.agg (hbm m0_B mf_1)] []] [] 0 Fr.emp (match r with | (o0_B,mf1)=>.clo 124 [] [.ptr 0 0,.ptr 1 0,.ptr 2 0]) (match r with | (o0_B,mf1)=>[(0,.var 122 (hbm o0_B mf1)),(1,.var 135 [.d (.fn 127)]),(2,.var 58 [.clo 121 [.agg (hbm m0_B mf_1)] []])]) 3 Fr.emp:=by
 unfold g119 at h
 refine SCall.mkK Tryd.func119 c119 rfl rfl (by kernel_rfl) (fun Q_0 hR_0 hN_0=>?_)
 refine Sa (sT [pR 3 0,pR 4 1,pR 5 2] [(2,.var 58 [.clo 121 [.agg (hbm m0_B mf_1)] []]),(1,.var 135 [.d (.fn 127)]),(0,.var 122 (hbm b_B mf))] 3 0) ?_
 refine Sa (sT [(6,.clo 124 [] [.ptr 0 0,.ptr 1 0,.ptr 2 0])] [(2,.var 58 [.clo 121 [.agg (hbm m0_B mf_1)] []]),(1,.var 135 [.d (.fn 127)]),(0,.var 122 (hbm b_B mf))] 3 0) ?_
 obtain rfl:=Option.some.inj h
 exact rT hR_0 (.cons (.tmp rfl) .nil)
def g126 :Option (Nat→Int):=some (arrL [0,0,0,0,0])
theorem k126  (r:(Nat→Int)) (h:g126=some r):SCall Tryd.prog Gs 126 [] [] 0 Fr.emp (.agg (cfv r)) [] 0 Fr.emp:=by
 unfold g126 at h
 refine SCall.mkK Tryd.func126 c126 rfl rfl (by kernel_rfl) (fun Q_0 hR_0 hN_0=>?_)
 refine Sa (sT [pR 0 0] [(0,.var 140 [jI 0,jI 0,jI 0,jI 0,jI 0])] 1 0) ?_
 refine Sa (sT [pR 0 0,pR 1 1] [(1,.var 140 [jI 0,jI 0,jI 0,jI 0,jI 0]),(0,.var 140 [jI 0,jI 0,jI 0,jI 0,jI 0])] 2 0) ?_
 refine Sa (sT [pR 0 0] [(0,.var 140 [jI 0,jI 0,jI 0,jI 0,jI 0])] 2 0) ?_
 obtain rfl:=Option.some.inj h
 exact rT hR_0 (.cons (.agg rfl rfl (Nat.le_of_ble_eq_true rfl)) .nil)
def g153 (h_:HairHorse):Option Int:=some h_.Mane
theorem k153 (h_:HairHorse) (r:Int) (h:g153 h_=some r):SCall Tryd.prog Gs 153 [.agg [jI h_.Mane,jI h_.Tail,jI h_.Shade]] [] 0 Fr.emp (jI r) [] 0 Fr.emp:=by
 unfold g153 at h
 refine SCall.mkK Tryd.func153 c153 rfl rfl (by kernel_rfl) (fun Q_0 hR_0 hN_0=>?_)
 refine Sa (sT [pR 1 0] [(0,.var 143 [jI h_.Mane,jI h_.Tail,jI h_.Shade])] 1 0) ?_
 refine Sa (sT [(2,jI h_.Mane)] [] 1 0) ?_
 obtain rfl:=Option.some.inj h
 exact rT hR_0 (.cons (.tmp rfl) .nil)
def g157 (h_:HairHorse):Option Int:=some h_.Tail
theorem k157 (h_:HairHorse) (r:Int) (h:g157 h_=some r):SCall Tryd.prog Gs 157 [.agg [jI h_.Mane,jI h_.Tail,jI h_.Shade]] [] 0 Fr.emp (jI r) [] 0 Fr.emp:=by
 unfold g157 at h
 refine SCall.mkK Tryd.func157 c157 rfl rfl (by kernel_rfl) (fun Q_0 hR_0 hN_0=>?_)
 refine Sa (sT [pR 1 0] [(0,.var 143 [jI h_.Mane,jI h_.Tail,jI h_.Shade])] 1 0) ?_
 refine Sa (sT [(2,jI h_.Tail)] [] 1 0) ?_
 obtain rfl:=Option.some.inj h
 exact rT hR_0 (.cons (.tmp rfl) .nil)
def g127 (s:Span):Option Int:=some s.Low
theorem k127 (s:Span) (r:Int) (h:g127 s=some r):SCall Tryd.prog Gs 127 [.agg [jI s.Low,jI s.High]] [] 0 Fr.emp (jI r) [] 0 Fr.emp:=by
 unfold g127 at h
 refine SCall.mkK Tryd.func127 c127 rfl rfl (by kernel_rfl) (fun Q_0 hR_0 hN_0=>?_)
 refine Sa (sT [pR 1 0] [(0,.var 37 [jI s.Low,jI s.High])] 1 0) ?_
 refine Sa (sT [(2,jI s.Low)] [] 1 0) ?_
 obtain rfl:=Option.some.inj h
 exact rT hR_0 (.cons (.tmp rfl) .nil)
def g134_3:Int→Int→Int→Option Int:=fun v p first1=>some (max first1 p)
def g134 (first:Int) (l:(List Int)):Option Int:=(eachS g134_3 l 0 first).bind fun first1=>some first1
theorem k134 (first:Int) (l:(List Int)) (r:Int) (h:g134 first l=some r):SCall Tryd.prog Gs 134 [jI first,.d (q1 l)] [] 0 Fr.emp (jI r) [] 0 Fr.emp:=by
 unfold g134 at h
 refine SCall.mkK Tryd.func134 c134 rfl rfl (by kernel_rfl) (fun Q_0 hR_0 hN_0=>?_)
 refine Sa (sT [(0,jI first),(1,.d (q1 l))] [] 0 0) ?_
 refine AW.seqK fun K_1 hK_1=>AW.srwK fun Q_2 hQ_2=>?_
 refine Au 1 (sT [(0,jI first),(7,.d (q1 l))] [] 0 0) ?_
 refine rL rfl ?_
 refine Au 1 (sT [(0,jI first),(7,.d (q1 l)),(8,jI (l.length:Int)),(9,jI 0)] [] 0 0) ?_
 refine RW.nil (hQ_2 _ ?_)
 refine AW.block ?_
 refine AW.sln (t:=7) rfl (fun hN_3=>?_)
 rw [List.length_map] at hN_3
 obtain ⟨out_3,hx_3,h⟩:=bsome h
 refine AW.evSK (fun (v:Int) (first1:Int)=>(sT [(0,jI first1),(7,.d (q1 l)),(8,jI (l.length:Int)),(9,jI v)] [] 0 0)) g134_3 hx_3 (Can.kp (by kernel_rfl)) (fun v p first1 hi_3 hl_3 hp_3 c_3 h K_3 hK_3=>?_) (fun v first1 hi_3 hl_3 hout=>?_)
 ·unfold g134_3 at h
  refine Sa (sT [(0,jI first1),(7,.d (q1 l)),(8,jI (l.length:Int)),(9,jI v),(10,.d (.bool (decide (v<(l.length:Int)))))] [] 0 0) ?_
  refine AW.seqK (fun K_4 hK_4=>?_)
  refine AW.cond rfl (fun hb_5=>?_) (fun hb_5=>False.elim (by have:=of_decide_eq_false hb_5;omega))
  refine AW.skip (hK_4 _ ?_)
  refine AW.seqK (fun K_6 hK_6=>?_)
  refine AW.block ?_
  refine AW.srwK (fun Q_7 hQ_7=>?_)
  refine RW.one fokW (r_iaD trivial rfl rfl hi_3 (row:=e3 p) (mapget hp_3) (r_end ?_))
  refine Au 2 (sT [(0,jI first1),(6,jI p),(7,.d (q1 l)),(8,jI (l.length:Int)),(9,jI v)] [] 0 0) ?_
  refine RW.nil (hQ_7 _ ?_)
  refine Ra (sT [(0,jI (max first1 p)),(7,.d (q1 l)),(8,jI (l.length:Int)),(9,jI v)] [] 0 0) ?_
  refine hK_6 _ ?_
  refine Ra (sT [(0,jI (max first1 p)),(7,.d (q1 l)),(8,jI (l.length:Int)),(9,jI (wr (v+1)))] [] 0 0) ?_
  obtain rfl:=Option.some.inj h
  have ew:wr (v+1)=v+1:=inext (N:=(l.length:Int)) (by omega) (by omega) (by omega)
  rw [ew]
  exact hK_3 _ (Can.kp (by kernel_rfl))
 ·subst hout
  refine Sa (sT [(0,jI first1),(7,.d (q1 l)),(8,jI (l.length:Int)),(9,jI v),(10,.d (.bool (decide (v<(l.length:Int)))))] [] 0 0) ?_
  refine AW.seqK (fun K_8 hK_8=>?_)
  refine AW.cond rfl (fun hb_9=>False.elim (by have:=of_decide_eq_true hb_9;omega)) (fun hb_9=>?_)
  refine AW.exit ?_
  refine hK_1 _ ?_
  refine Sa (sT [(4,jI first1)] [] 0 0) ?_
  obtain rfl:=Option.some.inj h
  exact rT hR_0 (.cons (.tmp rfl) .nil)
def g131 (b_B:HairBook) (mf:List (Hair_dye×Span)) (horse:Int) (mane:Hair_dye) (tail:Hair_dye):Option Bool:=(ixL b_B.Horses horse).bind fun p=>(g134 (wr ((((mget q131 mf mane).getD (Span.mk 0 0)).High) - p.Shade)) [(wr (p.Shade - (((mget q131 mf mane).getD (Span.mk 0 0)).Low))),(wr ((((mget q131 mf tail).getD (Span.mk 0 0)).High) - p.Shade)),(wr (p.Shade - (((mget q131 mf tail).getD (Span.mk 0 0)).Low)))]).bind fun r0=>bif (decide (b_B.Near<r0)) then (some false) else (bif (decide (mane.hank=tail.hank)) then ((bif (false != ((mane.hank==tail.hank)&&((mane.steps==tail.steps)&&true))) then (some true) else ((g97 (wr (mane.steps - tail.steps)) (wr (-b_B.Match)) b_B.Match).bind fun r0_1=>some r0_1)).bind fun v=>some v) else ((g134 (wr ((((mget q131 mf mane).getD (Span.mk 0 0)).High) - (((mget q131 mf tail).getD (Span.mk 0 0)).Low))) [(wr ((((mget q131 mf tail).getD (Span.mk 0 0)).High) - (((mget q131 mf mane).getD (Span.mk 0 0)).Low)))]).bind fun r0_2=>some (decide (r0_2≤b_B.Match))))
def y3 (tail:Hair_dye) (mane:Hair_dye) (b_B:HairBook) (mf:List (Hair_dye×Span)):List (Nat×Blk):=[(2,.var 131 [jI tail.hank,jI tail.steps]),(1,.var 131 [jI mane.hank,jI mane.steps]),(0,.var 122 (hbm b_B mf))]
theorem k131 (b_B:HairBook) (mf:List (Hair_dye×Span)) (horse:Int) (mane:Hair_dye) (tail:Hair_dye) (r:Bool) (h:g131 b_B mf horse mane tail=some r):SCall Tryd.prog Gs 131 [.agg (hbm b_B mf),jI horse,.agg [jI mane.hank,jI mane.steps],.agg [jI tail.hank,jI tail.steps]] [] 0 Fr.emp (.d (.bool r)) [] 0 Fr.emp:=by
 unfold g131 at h
 refine SCall.mkK Tryd.func131 c131 rfl rfl (by kernel_rfl) (fun Q_0 hR_0 hN_0=>?_)
 refine Sa (sT [(1,jI horse),pR 4 0,pR 6 1,pR 7 2] (y3 tail mane b_B mf) 3 0) ?_
 refine AW.srwK (fun Q_1 hQ_1=>?_)
 refine Au 4 (sT [pR 4 0,pR 6 1,pR 7 2,(14,.d (.sl 3 (List.map e112 b_B.Horses))),(15,jI horse)] (y3 tail mane b_B mf) 3 0) ?_
 obtain ⟨p,hv_2,h⟩:=bsome h
 refine RW.one fokW (r_iaD trivial rfl rfl (ixL_ok hv_2).1 (row:=e112 p) (mapget (ixL_ok hv_2).2) (r_end ?_))
 refine Au 3 (sT [pR 4 0,pR 6 1,pR 7 2,(9,jI p.Shade)] (y3 tail mane b_B mf) 3 0) ?_
 refine RW.nil (hQ_1 _ ?_)
 refine AW.sdrwK fokW (fun Q_3 hQ_3=>?_)
 refine aX 3 (sT [pR 4 0,pR 6 1,pR 7 2,(9,jI p.Shade),(20,.fmp (List.map m131_37 mf)),(21,.agg [jI mane.hank,jI mane.steps])] (y3 tail mane b_B mf) 3 0) ?_
 refine r_lookFA q131 e131 e37 mf mane (Span.mk 0 0) trivial rfl rfl ft131 q131_ok (fun _=>rfl) rfl ?_
 refine aX 3 (sT [pR 4 0,pR 6 1,pR 7 2,(9,jI p.Shade),(22,.agg [jI (((mget q131 mf mane).getD (Span.mk 0 0)).Low),jI (((mget q131 mf mane).getD (Span.mk 0 0)).High)]),(24,.fmp (List.map m131_37 mf)),(25,.agg [jI tail.hank,jI tail.steps])] (y3 tail mane b_B mf) 3 0) ?_
 refine r_lookFA q131 e131 e37 mf tail (Span.mk 0 0) trivial rfl rfl ft131 q131_ok (fun _=>rfl) rfl ?_
 refine aX 4 (sT [pR 4 0,pR 6 1,pR 7 2,(9,jI p.Shade),pR 10 3,pR 11 4] [(4,.var 37 [jI (((mget q131 mf tail).getD (Span.mk 0 0)).Low),jI (((mget q131 mf tail).getD (Span.mk 0 0)).High)]),(3,.var 37 [jI (((mget q131 mf mane).getD (Span.mk 0 0)).Low),jI (((mget q131 mf mane).getD (Span.mk 0 0)).High)]),(2,.var 131 [jI tail.hank,jI tail.steps]),(1,.var 131 [jI mane.hank,jI mane.steps]),(0,.var 122 (hbm b_B mf))] 5 0) ?_
 refine Fi (sT [pR 4 0,pR 6 1,pR 7 2,(9,jI p.Shade),pR 10 3,pR 11 4] [(4,.var 37 [jI (((mget q131 mf tail).getD (Span.mk 0 0)).Low),jI (((mget q131 mf tail).getD (Span.mk 0 0)).High)]),(3,.var 37 [jI (((mget q131 mf mane).getD (Span.mk 0 0)).Low),jI (((mget q131 mf mane).getD (Span.mk 0 0)).High)]),(2,.var 131 [jI tail.hank,jI tail.steps]),(1,.var 131 [jI mane.hank,jI mane.steps]),(0,.var 122 (hbm b_B mf))] 5 0) ?_
 refine hQ_3 _ ?_
 refine AW.seqK (fun K_4 hK_4=>?_)
 refine AW.sdrwK fokW (fun Q_5 hQ_5=>?_)
 refine aX 17 (sT [pR 4 0,pR 6 1,pR 7 2,pR 10 3,pR 11 4,(30,jI (wr ((((mget q131 mf mane).getD (Span.mk 0 0)).High) - p.Shade))),(43,.own 5 (List.map e3 [(wr (p.Shade - (((mget q131 mf mane).getD (Span.mk 0 0)).Low))),(wr ((((mget q131 mf tail).getD (Span.mk 0 0)).High) - p.Shade)),(wr (p.Shade - (((mget q131 mf tail).getD (Span.mk 0 0)).Low)))]).length)] [(5,.row 3 1 (List.map e3 [(wr (p.Shade - (((mget q131 mf mane).getD (Span.mk 0 0)).Low))),(wr ((((mget q131 mf tail).getD (Span.mk 0 0)).High) - p.Shade)),(wr (p.Shade - (((mget q131 mf tail).getD (Span.mk 0 0)).Low)))])),(4,.var 37 [jI (((mget q131 mf tail).getD (Span.mk 0 0)).Low),jI (((mget q131 mf tail).getD (Span.mk 0 0)).High)]),(3,.var 37 [jI (((mget q131 mf mane).getD (Span.mk 0 0)).Low),jI (((mget q131 mf mane).getD (Span.mk 0 0)).High)]),(2,.var 131 [jI tail.hank,jI tail.steps]),(1,.var 131 [jI mane.hank,jI mane.steps]),(0,.var 122 (hbm b_B mf))] 6 0) ?_
 obtain ⟨r0,hx_6,h⟩:=bsome h
 refine r_callF (rs:=[(5,.row 3 1 (List.map e3 [(wr (p.Shade - (((mget q131 mf mane).getD (Span.mk 0 0)).Low))),(wr ((((mget q131 mf tail).getD (Span.mk 0 0)).High) - p.Shade)),(wr (p.Shade - (((mget q131 mf tail).getD (Span.mk 0 0)).Low)))]))]) trivial rfl (k134 (wr ((((mget q131 mf mane).getD (Span.mk 0 0)).High) - p.Shade)) [(wr (p.Shade - (((mget q131 mf mane).getD (Span.mk 0 0)).Low))),(wr ((((mget q131 mf tail).getD (Span.mk 0 0)).High) - p.Shade)),(wr (p.Shade - (((mget q131 mf tail).getD (Span.mk 0 0)).Low)))] _ hx_6) ⟨rfl,trivial⟩ ⟨.refl _,(.own rfl rfl),trivial⟩ rfl rfl rfl ?_
 refine aX 4 (sT [pR 4 0,pR 6 1,pR 7 2,pR 10 3,pR 11 4,(48,.d (.bool (decide (b_B.Near<r0))))] [(5,.row 3 1 (List.map e3 [(wr (p.Shade - (((mget q131 mf mane).getD (Span.mk 0 0)).Low))),(wr ((((mget q131 mf tail).getD (Span.mk 0 0)).High) - p.Shade)),(wr (p.Shade - (((mget q131 mf tail).getD (Span.mk 0 0)).Low)))])),(4,.var 37 [jI (((mget q131 mf tail).getD (Span.mk 0 0)).Low),jI (((mget q131 mf tail).getD (Span.mk 0 0)).High)]),(3,.var 37 [jI (((mget q131 mf mane).getD (Span.mk 0 0)).Low),jI (((mget q131 mf mane).getD (Span.mk 0 0)).High)]),(2,.var 131 [jI tail.hank,jI tail.steps]),(1,.var 131 [jI mane.hank,jI mane.steps]),(0,.var 122 (hbm b_B mf))] 6 0) ?_
 refine Fi (sT [pR 4 0,pR 6 1,pR 7 2,pR 10 3,pR 11 4,(48,.d (.bool (decide (b_B.Near<r0))))] [(4,.var 37 [jI (((mget q131 mf tail).getD (Span.mk 0 0)).Low),jI (((mget q131 mf tail).getD (Span.mk 0 0)).High)]),(3,.var 37 [jI (((mget q131 mf mane).getD (Span.mk 0 0)).Low),jI (((mget q131 mf mane).getD (Span.mk 0 0)).High)]),(2,.var 131 [jI tail.hank,jI tail.steps]),(1,.var 131 [jI mane.hank,jI mane.steps]),(0,.var 122 (hbm b_B mf))] 6 0) ?_
 refine hQ_5 _ ?_
 refine AW.cond rfl (fun hb_7=>?_) (fun hb_7=>?_)
 ·have h:=ifT hb_7 h
  refine Sa (sT [(8,.d (.bool false))] [] 6 0) ?_
  obtain rfl:=Option.some.inj h
  exact rT hR_0 (.cons (.tmp rfl) .nil)
 ·have h:=ifF hb_7 h
  refine AW.skip (hK_4 _ ?_)
  refine AW.seqK (fun K_8 hK_8=>?_)
  refine Sa (sT [pR 4 0,pR 6 1,pR 7 2,pR 10 3,pR 11 4,(53,.d (.bool (decide (mane.hank=tail.hank))))] [(4,.var 37 [jI (((mget q131 mf tail).getD (Span.mk 0 0)).Low),jI (((mget q131 mf tail).getD (Span.mk 0 0)).High)]),(3,.var 37 [jI (((mget q131 mf mane).getD (Span.mk 0 0)).Low),jI (((mget q131 mf mane).getD (Span.mk 0 0)).High)]),(2,.var 131 [jI tail.hank,jI tail.steps]),(1,.var 131 [jI mane.hank,jI mane.steps]),(0,.var 122 (hbm b_B mf))] 6 0) ?_
  refine AW.cond rfl (fun hb_9=>?_) (fun hb_9=>?_)
  ·have h:=ifT hb_9 h
   refine AW.srwK (fun Q_10 hQ_10=>?_)
   refine Au 2 (sT [pR 4 0,pR 6 1,pR 7 2,(54,.agg [jI mane.hank,jI mane.steps]),(55,.agg [jI tail.hank,jI tail.steps])] (y3 tail mane b_B mf) 6 0) ?_
   refine RW.one fokW (r_aeq trivial rfl rfl rfl rfl ft131 rfl rfl rfl (r_end ?_))
   refine Au 1 (sT [pR 4 0,pR 6 1,pR 7 2,(57,.d (.bool (false != ((mane.hank==tail.hank)&&((mane.steps==tail.steps)&&true)))))] (y3 tail mane b_B mf) 6 0) ?_
   obtain ⟨v,hx_11,h⟩:=bsome h
   refine RW.cut fokW 14 ((sT [(71,.d (.bool v))] [] 6 0)) ?_ ?_
   ·refine r_split 57 rfl (fun hb_13=>?_) (fun hb_13=>?_)
    ·have h:=ifT hb_13 hx_11
     refine aX 14 (sT [(71,.d (.bool true))] (y3 tail mane b_B mf) 6 0) ?_
     obtain rfl:=Option.some.inj h
     refine RunC.finJ (Can.kp (by kernel_rfl))
    ·have h:=ifF hb_13 hx_11
     refine aX 12 (sT [(57,.d (.bool false)),(62,jI (wr (mane.steps - tail.steps))),(66,jI (wr (-b_B.Match))),(69,jI b_B.Match)] (y3 tail mane b_B mf) 6 0) ?_
     obtain ⟨r0_1,hx_12,h⟩:=bsome h
     refine r_call rfl rfl (k97 (wr (mane.steps - tail.steps)) (wr (-b_B.Match)) b_B.Match _ hx_12) rfl rfl ?_
     refine aX 1 (sT [(71,.d (.bool r0_1))] (y3 tail mane b_B mf) 6 0) ?_
     obtain rfl:=Option.some.inj h
     refine RunC.finJ (Can.kp (by kernel_rfl))
   ·refine Au 1 (sT [(8,.d (.bool v))] [] 6 0) ?_
    refine RW.nil (hQ_10 _ ?_)
    obtain rfl:=Option.some.inj h
    exact rT hR_0 (.cons (.tmp rfl) .nil)
  ·have h:=ifF hb_9 h
   refine AW.skip (hK_8 _ ?_)
   refine AW.sdrwK fokW (fun Q_14 hQ_14=>?_)
   refine aX 11 (sT [pR 4 0,(76,jI (wr ((((mget q131 mf mane).getD (Span.mk 0 0)).High) - (((mget q131 mf tail).getD (Span.mk 0 0)).Low)))),(82,.own 6 (List.map e3 [(wr ((((mget q131 mf tail).getD (Span.mk 0 0)).High) - (((mget q131 mf mane).getD (Span.mk 0 0)).Low)))]).length)] [(6,.row 3 1 (List.map e3 [(wr ((((mget q131 mf tail).getD (Span.mk 0 0)).High) - (((mget q131 mf mane).getD (Span.mk 0 0)).Low)))])),(4,.var 37 [jI (((mget q131 mf tail).getD (Span.mk 0 0)).Low),jI (((mget q131 mf tail).getD (Span.mk 0 0)).High)]),(3,.var 37 [jI (((mget q131 mf mane).getD (Span.mk 0 0)).Low),jI (((mget q131 mf mane).getD (Span.mk 0 0)).High)]),(2,.var 131 [jI tail.hank,jI tail.steps]),(1,.var 131 [jI mane.hank,jI mane.steps]),(0,.var 122 (hbm b_B mf))] 7 0) ?_
   obtain ⟨r0_2,hx_15,h⟩:=bsome h
   refine r_callF (rs:=[(6,.row 3 1 (List.map e3 [(wr ((((mget q131 mf tail).getD (Span.mk 0 0)).High) - (((mget q131 mf mane).getD (Span.mk 0 0)).Low)))]))]) trivial rfl (k134 (wr ((((mget q131 mf mane).getD (Span.mk 0 0)).High) - (((mget q131 mf tail).getD (Span.mk 0 0)).Low))) [(wr ((((mget q131 mf tail).getD (Span.mk 0 0)).High) - (((mget q131 mf mane).getD (Span.mk 0 0)).Low)))] _ hx_15) ⟨rfl,trivial⟩ ⟨.refl _,(.own rfl rfl),trivial⟩ rfl rfl rfl ?_
   refine aX 5 (sT [(8,.d (.bool (decide (r0_2≤b_B.Match))))] [(6,.row 3 1 (List.map e3 [(wr ((((mget q131 mf tail).getD (Span.mk 0 0)).High) - (((mget q131 mf mane).getD (Span.mk 0 0)).Low)))])),(4,.var 37 [jI (((mget q131 mf tail).getD (Span.mk 0 0)).Low),jI (((mget q131 mf tail).getD (Span.mk 0 0)).High)]),(3,.var 37 [jI (((mget q131 mf mane).getD (Span.mk 0 0)).Low),jI (((mget q131 mf mane).getD (Span.mk 0 0)).High)]),(2,.var 131 [jI tail.hank,jI tail.steps]),(1,.var 131 [jI mane.hank,jI mane.steps]),(0,.var 122 (hbm b_B mf))] 7 0) ?_
   refine Fi (sT [(8,.d (.bool (decide (r0_2≤b_B.Match))))] [] 7 0) ?_
   refine hQ_14 _ ?_
   obtain rfl:=Option.some.inj h
   exact rT hR_0 (.cons (.tmp rfl) .nil)
end Go.Proofs.Tr
namespace Go.Proofs.Tr
open Go Go.Abs Go.Proofs
def g128_6 (b_B:HairBook) (mf:List (Hair_dye×Span)) (horse:Int) (mane:Int) (tail:Int) (v:Int):Int→Unit→Option (Ctl (Unit) (Ctl (Unit) (Hair_dye×Hair_dye×Bool))):=fun v1 _=>(g131 b_B mf horse (Hair_dye.mk mane v) (Hair_dye.mk tail v1)).bind fun r0_5=>bif r0_5 then (some (.brk (.brk ((Hair_dye.mk mane v),(Hair_dye.mk tail v1),true)))) else (some (.next ()))
def g128_2 (b_B:HairBook) (mf:List (Hair_dye×Span)) (horse:Int) (mane:Int) (tail:Int):Int→Unit→Option (Ctl (Unit) (Hair_dye×Hair_dye×Bool)):=fun v _=>bindC (forC (g128_6 b_B mf horse mane tail v) ((((wr (b_B.Dark+1)):Int) - 0).toNat) 0 ()) fun _=>some (.next ())
def g128 (b_B:HairBook) (mf:List (Hair_dye×Span)) (horse:Int) (mane:Int) (tail:Int):Option (Hair_dye×Hair_dye×Bool):=bindC (forC (g128_2 b_B mf horse mane tail) ((((wr (b_B.Dark+1)):Int) - 0).toNat) 0 ()) fun _=>some ((Hair_dye.mk 0 0),(Hair_dye.mk 0 0),false)
def y4 (b_B:HairBook) (mf:List (Hair_dye×Span)):List (Nat×Blk):=[(2,.var 131 [jI 0,jI 0]),(1,.var 131 [jI 0,jI 0]),(0,.var 122 (hbm b_B mf))]
theorem k128 (b_B:HairBook) (mf:List (Hair_dye×Span)) (horse:Int) (mane:Int) (tail:Int) (r:Hair_dye×Hair_dye×Bool) (h:g128 b_B mf horse mane tail=some r):SCall Tryd.prog Gs 128 [.agg (hbm b_B mf),jI horse,jI mane,jI tail] [] 0 Fr.emp (match r with | (r0_1,r1_1,r2_1)=>.tup [.agg [jI r0_1.hank,jI r0_1.steps],.agg [jI r1_1.hank,jI r1_1.steps],.d (.bool r2_1)]) [] 0 Fr.emp:=by
 unfold g128 at h
 refine SCall.mkK Tryd.func128 c128 rfl rfl (by kernel_rfl) (fun Q_0 hR_0 hN_0=>?_)
 refine Sa (sT [(1,jI horse),(2,jI mane),(3,jI tail),pR 4 0,pR 8 1,pR 9 2] (y4 b_B mf) 3 0) ?_
 refine Sa (sT [(1,jI horse),(2,jI mane),(3,jI tail),pR 4 0,pR 8 1,pR 9 2,(11,.clo 131 [.agg (hbm b_B mf)] [])] (y4 b_B mf) 3 0) ?_
 refine AW.seqK (fun K_1 hK_1=>?_)
 refine Sa (sT [(1,jI horse),(2,jI mane),(3,jI tail),pR 4 0,pR 8 1,pR 9 2,(11,.clo 131 [.agg (hbm b_B mf)] []),(19,jI (wr (b_B.Dark+1))),(20,jI 0)] (y4 b_B mf) 3 0) ?_
 refine AW.block ?_
 have hN_2:(wr (b_B.Dark+1))≤9223372036854775807:=(wr_range _).2
 obtain ⟨out_2,hx_2,hk_2⟩:=bsomeC h
 refine AW.lpCK (fun (v:Int) (_:Unit)=>(sT [(1,jI horse),(2,jI mane),(3,jI tail),pR 4 0,pR 8 1,pR 9 2,(11,.clo 131 [.agg (hbm b_B mf)] []),(19,jI (wr (b_B.Dark+1))),(20,jI v)] (y4 b_B mf) 3 0)) (g128_2 b_B mf horse mane tail) ((wr (b_B.Dark+1))) hx_2 (Can.kp (by kernel_rfl)) (fun v s_2 hi_2 hl_2 c_2 h hb_2 K_2 hK_2=>?_) (fun v s_2 hi_2 hl_2 hout=>?_)
 ·unfold g128_2 at h
  refine Sa (sT [(1,jI horse),(2,jI mane),(3,jI tail),pR 4 0,pR 8 1,pR 9 2,(11,.clo 131 [.agg (hbm b_B mf)] []),(19,jI (wr (b_B.Dark+1))),(20,jI v),(21,.d (.bool (decide (v<(wr (b_B.Dark+1))))))] (y4 b_B mf) 3 0) ?_
  refine AW.seqK (fun K_3 hK_3=>?_)
  refine AW.cond rfl (fun hb_4=>?_) (fun hb_4=>False.elim (by have:=of_decide_eq_false hb_4;omega))
  refine AW.skip (hK_3 _ ?_)
  refine AW.seqK (fun K_5 hK_5=>?_)
  refine AW.block ?_
  refine Sa (sT [(1,jI horse),(2,jI mane),(3,jI tail),pR 4 0,pR 8 1,pR 9 2,(11,.clo 131 [.agg (hbm b_B mf)] []),(12,jI v),(19,jI (wr (b_B.Dark+1))),(20,jI v)] (y4 b_B mf) 3 0) ?_
  refine Sa (sT [(1,jI horse),(2,jI mane),(3,jI tail),pR 4 0,pR 8 1,pR 9 2,(11,.clo 131 [.agg (hbm b_B mf)] []),(12,jI v),(19,jI (wr (b_B.Dark+1))),(20,jI v),(26,jI (wr (b_B.Dark+1))),(27,jI 0)] (y4 b_B mf) 3 0) ?_
  refine AW.block ?_
  have hN_6:(wr (b_B.Dark+1))≤9223372036854775807:=(wr_range _).2
  obtain ⟨out_6,hx_6,hk_6⟩:=bsomeC h
  refine AW.lpCK (fun (v1:Int) (_:Unit)=>(sT [(1,jI horse),(2,jI mane),(3,jI tail),pR 4 0,pR 8 1,pR 9 2,(11,.clo 131 [.agg (hbm b_B mf)] []),(12,jI v),(19,jI (wr (b_B.Dark+1))),(20,jI v),(26,jI (wr (b_B.Dark+1))),(27,jI v1)] (y4 b_B mf) 3 0)) (g128_6 b_B mf horse mane tail v) ((wr (b_B.Dark+1))) hx_6 (Can.kp (by kernel_rfl)) (fun v1 s_6 hi_6 hl_6 c_6 h hb_6 K_6 hK_6=>?_) (fun v1 s_6 hi_6 hl_6 hout=>?_)
  ·unfold g128_6 at h
   refine Sa (sT [(1,jI horse),(2,jI mane),(3,jI tail),pR 4 0,pR 8 1,pR 9 2,(11,.clo 131 [.agg (hbm b_B mf)] []),(12,jI v),(19,jI (wr (b_B.Dark+1))),(20,jI v),(26,jI (wr (b_B.Dark+1))),(27,jI v1),(28,.d (.bool (decide (v1<(wr (b_B.Dark+1))))))] (y4 b_B mf) 3 0) ?_
   refine AW.seqK (fun K_7 hK_7=>?_)
   refine AW.cond rfl (fun hb_8=>?_) (fun hb_8=>False.elim (by have:=of_decide_eq_false hb_8;omega))
   refine AW.skip (hK_7 _ ?_)
   refine AW.seqK (fun K_9 hK_9=>?_)
   refine AW.block ?_
   refine Sa (sT [(1,jI horse),(2,jI mane),(3,jI tail),pR 4 0,pR 8 1,pR 9 2,(11,.clo 131 [.agg (hbm b_B mf)] []),(12,jI v),(13,jI v1),(19,jI (wr (b_B.Dark+1))),(20,jI v),(26,jI (wr (b_B.Dark+1))),(27,jI v1)] (y4 b_B mf) 3 0) ?_
   refine AW.srwK (fun Q_10 hQ_10=>?_)
   refine Au 8 (sT [(1,jI horse),(2,jI mane),(3,jI tail),pR 4 0,pR 8 1,pR 9 2,(11,.clo 131 [.agg (hbm b_B mf)] []),(12,jI v),(13,jI v1),(19,jI (wr (b_B.Dark+1))),(20,jI v),(26,jI (wr (b_B.Dark+1))),(27,jI v1),(30,.clo 131 [.agg (hbm b_B mf)] []),(31,jI horse),(34,.agg [jI mane,jI v]),(37,.agg [jI tail,jI v1])] (y4 b_B mf) 3 0) ?_
   obtain ⟨r0_5,hx_11,h⟩:=bsome h
   refine RW.one fokW (r_callvZ (zr:=[]) trivial rfl (.clo _ _ _) (by kernel_rfl) rfl (k131 b_B mf horse (Hair_dye.mk mane v) (Hair_dye.mk tail v1) _ hx_11) trivial ⟨.refl _,.refl _,.refl _,.refl _,trivial⟩ rfl rfl rfl rfl (r_end ?_))
   refine RW.nil (hQ_10 _ ?_)
   refine AW.cond rfl (fun hb_12=>?_) (fun hb_12=>?_)
   ·have h:=ifT hb_12 h
    refine Sa (sT [pR 8 1,pR 9 2,(10,.d (.bool true))] [(2,.var 131 [jI tail,jI v1]),(1,.var 131 [jI mane,jI v])] 3 0) ?_
    obtain rfl:=Option.some.inj h
    have e_2:=hb_6 _ rfl
    subst e_2
    obtain rfl:=Aft.bk hk_6
    have e_1:=hb_2 _ rfl
    subst e_1
    obtain rfl:=Aft.bk hk_2
    exact rT hR_0 (.cons (.agg rfl rfl (Nat.le_of_ble_eq_true rfl)) (.cons (.agg rfl rfl (Nat.le_of_ble_eq_true rfl)) (.cons (.tmp rfl) .nil)))
   ·have h:=ifF hb_12 h
    refine AW.skip (hK_9 _ ?_)
    refine Ra (sT [(1,jI horse),(2,jI mane),(3,jI tail),pR 4 0,pR 8 1,pR 9 2,(11,.clo 131 [.agg (hbm b_B mf)] []),(12,jI v),(19,jI (wr (b_B.Dark+1))),(20,jI v),(26,jI (wr (b_B.Dark+1))),(27,jI (wr (v1+1)))] (y4 b_B mf) 3 0) ?_
    obtain rfl:=Option.some.inj h
    have ew:wr (v1+1)=v1+1:=inext (N:=(wr (b_B.Dark+1))) (by omega) (by omega) (by omega)
    rw [ew]
    exact hK_6 _ _ rfl (Can.kp (by kernel_rfl))
  ·subst hout
   have h:=Aft.nx hk_6
   refine Sa (sT [(1,jI horse),(2,jI mane),(3,jI tail),pR 4 0,pR 8 1,pR 9 2,(11,.clo 131 [.agg (hbm b_B mf)] []),(12,jI v),(19,jI (wr (b_B.Dark+1))),(20,jI v),(26,jI (wr (b_B.Dark+1))),(27,jI v1),(28,.d (.bool (decide (v1<(wr (b_B.Dark+1))))))] (y4 b_B mf) 3 0) ?_
   refine AW.seqK (fun K_13 hK_13=>?_)
   refine AW.cond rfl (fun hb_14=>False.elim (by have:=of_decide_eq_true hb_14;omega)) (fun hb_14=>?_)
   refine AW.exit ?_
   refine hK_5 _ ?_
   refine Ra (sT [(1,jI horse),(2,jI mane),(3,jI tail),pR 4 0,pR 8 1,pR 9 2,(11,.clo 131 [.agg (hbm b_B mf)] []),(19,jI (wr (b_B.Dark+1))),(20,jI (wr (v+1)))] (y4 b_B mf) 3 0) ?_
   obtain rfl:=Option.some.inj h
   have ew:wr (v+1)=v+1:=inext (N:=(wr (b_B.Dark+1))) (by omega) (by omega) (by omega)
   rw [ew]
   exact hK_2 _ _ rfl (Can.kp (by kernel_rfl))
 ·subst hout
  have h:=Aft.nx hk_2
  refine Sa (sT [(1,jI horse),(2,jI mane),(3,jI tail),pR 4 0,pR 8 1,pR 9 2,(11,.clo 131 [.agg (hbm b_B mf)] []),(19,jI (wr (b_B.Dark+1))),(20,jI v),(21,.d (.bool (decide (v<(wr (b_B.Dark+1))))))] (y4 b_B mf) 3 0) ?_
  refine AW.seqK (fun K_15 hK_15=>?_)
  refine AW.cond rfl (fun hb_16=>False.elim (by have:=of_decide_eq_true hb_16;omega)) (fun hb_16=>?_)
  refine AW.exit ?_
  refine hK_1 _ ?_
  refine Sa (sT [pR 8 1,pR 9 2,(10,.d (.bool false))] [(2,.var 131 [jI 0,jI 0]),(1,.var 131 [jI 0,jI 0])] 3 0) ?_
  obtain rfl:=Option.some.inj h
  exact rT hR_0 (.cons (.agg rfl rfl (Nat.le_of_ble_eq_true rfl)) (.cons (.agg rfl rfl (Nat.le_of_ble_eq_true rfl)) (.cons (.tmp rfl) .nil)))
def g121 (b_B:HairBook) (mf:List (Hair_dye×Span)) (horse:Int) (mane:Int) (tail:Int):Option Bool:=(g128 b_B mf horse mane tail).bind fun (r0_1,r1_1,r2_1)=>some r2_1
theorem k121 (b_B:HairBook) (mf:List (Hair_dye×Span)) (horse:Int) (mane:Int) (tail:Int) (r:Bool) (h:g121 b_B mf horse mane tail=some r):SCall Tryd.prog Gs 121 [.agg (hbm b_B mf),jI horse,jI mane,jI tail] [] 0 Fr.emp (.d (.bool r)) [] 0 Fr.emp:=by
 unfold g121 at h
 refine SCall.mkK Tryd.func121 c121 rfl rfl (by kernel_rfl) (fun Q_0 hR_0 hN_0=>?_)
 refine Sa (sT [(1,jI horse),(2,jI mane),(3,jI tail),pR 4 0] [(0,.var 122 (hbm b_B mf))] 1 0) ?_
 refine AW.srwK (fun Q_1 hQ_1=>?_)
 refine Au 4 (sT [(13,.agg (hbm b_B mf)),(14,jI horse),(15,jI mane),(16,jI tail)] [] 1 0) ?_
 obtain ⟨⟨r0_1,r1_1,r2_1⟩,hx_2,h⟩:=bsome h
 refine rC (k128 b_B mf horse mane tail _ hx_2) ?_
 refine Au 9 (sT [(11,.d (.bool r2_1))] [] 3 0) ?_
 refine RW.nil (hQ_1 _ ?_)
 refine Sa (sT [(8,.d (.bool r2_1))] [] 3 0) ?_
 obtain rfl:=Option.some.inj h
 exact rT hR_0 (.cons (.tmp rfl) .nil)
def g125_16 {S_:Type} (rec_:(List Int)→(Nat→Int)→HairBook→(List (Hair_dye×Span))→HairBook→(List (Hair_dye×Span))→S_→Option (Bool×S_)) (plan:(List Int)) (cut:(Nat→Int)) (o0_B:HairBook) (mf:List (Hair_dye×Span)) (m0_B:HairBook) (mf_1:List (Hair_dye×Span)) (need:Int):Int→HairHank→S_→Option (Ctl (S_) (Bool×S_)):=fun v p2 s_2=>bindC ((ixN 5 v).bind fun j1=>(g127 p2.Weight).bind fun r0_2=>bif (decide (r0_2<(wr ((cut j1)+need)))) then (some (.brk (.next s_2))) else (bif (decide (((plan.length:Int).tmod 2)=1)) then ((ixL plan (wr ((plan.length:Int) - 1))).bind fun p3=>(g121 m0_B mf_1 (wr ((plan.length:Int).tdiv 2)) p3 v).bind fun r0_3=>bif (!r0_3) then (some (.brk (.next s_2))) else (some (.next ()))) else (some (.next ()))):Option (Ctl (Unit) (Ctl (S_) (Bool×S_)))) fun _=>(ixN 5 v).bind fun j2=>(ixN 5 v).bind fun j3=>(slcL plan 0 (plan.length:Int)).bind fun l=>(appL 8 l [v]).bind fun l1=>(rec_ l1 (aset cut j3 (wr ((cut j2)+need))) o0_B mf m0_B mf_1 s_2).bind fun (r0_7_1,s_5_1)=>bif (!r0_7_1) then (some (.brk (false,s_5_1))) else (some (.next s_5_1))
def g125 {S_:Type} (c_:(List Int)→(Nat→Int)→S_→Option (S_×Bool)):Nat→(List Int)→(Nat→Int)→HairBook→(List (Hair_dye×Span))→HairBook→(List (Hair_dye×Span))→S_→Option (Bool×S_)
 | 0,_,_,_,_,_,_,_=>none
 | n_+1,plan,cut,o0_B,mf,m0_B,mf_1,s_=>bif (decide ((plan.length:Int)=(wr (2*(o0_B.Horses.length:Int))))) then ((c_ plan cut s_).bind fun (s_1,go)=>some (go,s_1)) else (((ixN 2 ((plan.length:Int).tmod 2)).bind fun j=>match j with | 0=>(ixL o0_B.Horses (wr ((plan.length:Int).tdiv 2))).bind fun p=>(g153 p).bind fun r0=>some r0 | 1=>(ixL o0_B.Horses (wr ((plan.length:Int).tdiv 2))).bind fun p1=>(g157 p1).bind fun r0_1=>some r0_1 | _=>none).bind fun need=>bindC (eachC (g125_16 (g125 c_ n_) plan cut o0_B mf m0_B mf_1 need) o0_B.Hanks 0 s_) fun s_2=>some (true,s_2))
def y5 (cut:(Nat→Int)) (o0_B:HairBook) (mf:List (Hair_dye×Span)) (m0_B:HairBook) (mf_1:List (Hair_dye×Span)):List (Nat×Blk):=[(5,.var 140 (cfv cut)),(0,.var 122 (hbm o0_B mf)),(1,.var 138 [.yld]),(2,.var 135 [.d (.fn 127)]),(3,.var 58 [.clo 121 [.agg (hbm m0_B mf_1)] []]),(4,.var 138 [.clo 125 [] [.ptr 0 0,.ptr 1 0,.ptr 2 0,.ptr 3 0,.ptr 4 0]])]
def y6 (o0_B:HairBook) (mf:List (Hair_dye×Span)) (m0_B:HairBook) (mf_1:List (Hair_dye×Span)):List (Nat×Blk):=[(0,.var 122 (hbm o0_B mf)),(1,.var 138 [.yld]),(2,.var 135 [.d (.fn 127)]),(3,.var 58 [.clo 121 [.agg (hbm m0_B mf_1)] []]),(4,.var 138 [.clo 125 [] [.ptr 0 0,.ptr 1 0,.ptr 2 0,.ptr 3 0,.ptr 4 0]])]
def y7 (cut:(Nat→Int)) (o0_B:HairBook) (mf:List (Hair_dye×Span)) (m0_B:HairBook) (mf_1:List (Hair_dye×Span)):List (Nat×Blk):=[(7,.var 140 (cfv cut)),(5,.var 140 (cfv cut)),(0,.var 122 (hbm o0_B mf)),(1,.var 138 [.yld]),(2,.var 135 [.d (.fn 127)]),(3,.var 58 [.clo 121 [.agg (hbm m0_B mf_1)] []]),(4,.var 138 [.clo 125 [] [.ptr 0 0,.ptr 1 0,.ptr 2 0,.ptr 3 0,.ptr 4 0]])]
def y8 (o0_B:HairBook) (mf:List (Hair_dye×Span)) (m0_B:HairBook) (mf_1:List (Hair_dye×Span)) (cut:(Nat→Int)):List (Nat×Blk):=[(0,.var 122 (hbm o0_B mf)),(1,.var 138 [.yld]),(2,.var 135 [.d (.fn 127)]),(3,.var 58 [.clo 121 [.agg (hbm m0_B mf_1)] []]),(4,.var 138 [.clo 125 [] [.ptr 0 0,.ptr 1 0,.ptr 2 0,.ptr 3 0,.ptr 4 0]]),(5,.var 140 (cfv cut))]
theorem k125 {S_:Type} (fr_:S_→Fr) (c_:(List Int)→(Nat→Int)→S_→Option (S_×Bool)) (hc_:∀ (a0:(List Int)) (a1:(Nat→Int)) s s2 b,c_ a0 a1 s=some (s2,b)→YCall Tryd.prog Gs (fr_ s) [.d (q1 a0),.agg (cfv a1)] (.d (.bool b)) (fr_ s2)):∀ (n_:Nat) (plan:(List Int)) (cut:(Nat→Int)) (o0_B:HairBook) (mf:List (Hair_dye×Span)) (m0_B:HairBook) (mf_1:List (Hair_dye×Span)) (s_:S_) (r:Bool×S_) (h:g125 c_ n_ plan cut o0_B mf m0_B mf_1 s_=some r),SCall Tryd.prog Gs 125 [.d (q1 plan),.agg (cfv cut),.ptr 0 0,.ptr 1 0,.ptr 2 0,.ptr 3 0,.ptr 4 0] [(0,.var 122 (hbm o0_B mf)),(1,.var 138 [.yld]),(2,.var 135 [.d (.fn 127)]),(3,.var 58 [.clo 121 [.agg (hbm m0_B mf_1)] []]),(4,.var 138 [.clo 125 [] [.ptr 0 0,.ptr 1 0,.ptr 2 0,.ptr 3 0,.ptr 4 0]])] 5 (fr_ s_) (match r with | (r0_7,s_5)=>.d (.bool r0_7)) (match r with | (r0_7,s_5)=>[(0,.var 122 (hbm o0_B mf)),(1,.var 138 [.yld]),(2,.var 135 [.d (.fn 127)]),(3,.var 58 [.clo 121 [.agg (hbm m0_B mf_1)] []]),(4,.var 138 [.clo 125 [] [.ptr 0 0,.ptr 1 0,.ptr 2 0,.ptr 3 0,.ptr 4 0]])]) 5 (fr_ (match r with | (r0_7,s_5)=>s_5)):=by
 intro n_
 induction n_ with
 | zero=>intro plan cut o0_B mf m0_B mf_1 s_ r h;cases h
 | succ n_ ih=>
  intro plan cut o0_B mf m0_B mf_1 s_ r h
  rw [g125] at h
  refine SCall.mkK Tryd.func125 c125 rfl rfl (by kernel_rfl) (fun Q_0 hR_0 hN_0=>?_)
  refine Sa ⟨[(0,.d (q1 plan)),pR 2 0,pR 3 1,pR 4 2,pR 5 3,pR 6 4,pR 8 5],(y5 cut o0_B mf m0_B mf_1),6,(fr_ s_),[],5⟩ ?_
  refine AW.scope ?_
  refine AW.srwK (fun Q_1 hQ_1=>?_)
  refine Au 1 ⟨[(0,.d (q1 plan)),pR 2 0,pR 3 1,pR 4 2,pR 5 3,pR 6 4,pR 8 5,(15,.d (q1 plan))],(y5 cut o0_B mf m0_B mf_1),6,(fr_ s_),[],5⟩ ?_
  refine rL rfl ?_
  refine Au 1 ⟨[(0,.d (q1 plan)),pR 2 0,pR 3 1,pR 4 2,pR 5 3,pR 6 4,pR 8 5,(10,jI (plan.length:Int))],(y5 cut o0_B mf m0_B mf_1),6,(fr_ s_),[],5⟩ ?_
  refine RW.nil (hQ_1 _ ?_)
  refine AW.seqK fun K_2 hK_2=>AW.srwK fun Q_3 hQ_3=>?_
  refine Au 4 ⟨[(0,.d (q1 plan)),pR 2 0,pR 3 1,pR 4 2,pR 5 3,pR 6 4,pR 8 5,(10,jI (plan.length:Int)),(17,jI (plan.length:Int)),(20,.d (.sl 3 (List.map e112 o0_B.Horses)))],(y5 cut o0_B mf m0_B mf_1),6,(fr_ s_),[],5⟩ ?_
  refine rL rfl ?_
  refine Au 2 ⟨[(0,.d (q1 plan)),pR 2 0,pR 3 1,pR 4 2,pR 5 3,pR 6 4,pR 8 5,(10,jI (plan.length:Int)),(23,.d (.bool (decide ((plan.length:Int)=(wr (2*(o0_B.Horses.length:Int)))))))],(y5 cut o0_B mf m0_B mf_1),6,(fr_ s_),[],5⟩ ?_
  refine RW.nil (hQ_3 _ ?_)
  refine AW.cond rfl (fun hb_4=>?_) (fun hb_4=>?_)
  ·have h:=ifT hb_4 h
   refine AW.srwK (fun Q_5 hQ_5=>?_)
   refine Au 3 ⟨[(24,.yld),(25,.d (q1 plan)),(26,.agg (cfv cut))],(y6 o0_B mf m0_B mf_1),6,(fr_ s_),[],5⟩ ?_
   obtain ⟨⟨s_1,go⟩,hx_6,h⟩:=bsome h
   refine RW.one fokW (r_yield (zr:=[]) trivial rfl rfl (hc_ plan cut _ _ _ hx_6) trivial ⟨.refl _,.refl _,trivial⟩ rfl rfl rfl rfl (r_end ?_))
   refine Au 1 ⟨[(9,.d (.bool go))],(y6 o0_B mf m0_B mf_1),6,(fr_ s_1),[],5⟩ ?_
   refine RW.nil (hQ_5 _ ?_)
   obtain rfl:=Option.some.inj h
   exact rT hR_0 (.cons (.tmp rfl) .nil)
  ·have h:=ifF hb_4 h
   refine AW.skip (hK_2 _ ?_)
   obtain ⟨need,hx_7,h⟩:=bsome h
   refine AW.jnSK (fun (need:Int)=>⟨[(0,.d (q1 plan)),pR 2 0,pR 4 2,pR 5 3,pR 6 4,pR 8 5,(10,jI (plan.length:Int)),(11,jI need)],(y5 cut o0_B mf m0_B mf_1),6,(fr_ s_),[],5⟩) (c:=need) (fun K_7 hK_7=>?_) ?_
   ·have h:=hx_7
    refine AW.drw fokW ?_
    refine aX 2 ⟨[(0,.d (q1 plan)),pR 2 0,pR 4 2,pR 5 3,pR 6 4,pR 8 5,(10,jI (plan.length:Int)),(29,jI ((plan.length:Int).tmod 2))],(y5 cut o0_B mf m0_B mf_1),6,(fr_ s_),[],5⟩ ?_
    obtain ⟨j,hv_9,h⟩:=bsome h
    rcases j with _ | _ | j
    ·refine r_iaF trivial rfl rfl (ixN_ok hv_9).1 (ixN_ok hv_9).2.1 ?_
     refine r_loadF trivial rfl (u:=.fn 153) (by rw [(ixN_ok hv_9).2.2];rfl) ?_
     refine aX 5 ⟨[(0,.d (q1 plan)),pR 2 0,pR 4 2,pR 5 3,pR 6 4,pR 8 5,(10,jI (plan.length:Int)),(31,.d (.fn 153)),(34,.d (.sl 3 (List.map e112 o0_B.Horses))),(36,jI (wr ((plan.length:Int).tdiv 2)))],(y5 cut o0_B mf m0_B mf_1),6,(fr_ s_),[],5⟩ ?_
     obtain ⟨p,hv_10,h⟩:=bsome h
     refine r_iaD trivial rfl rfl (ixL_ok hv_10).1 (row:=e112 p) (mapget (ixL_ok hv_10).2) ?_
     refine aX 1 ⟨[(0,.d (q1 plan)),pR 2 0,pR 4 2,pR 5 3,pR 6 4,pR 8 5,(10,jI (plan.length:Int)),(31,.d (.fn 153)),(38,.agg [jI p.Mane,jI p.Tail,jI p.Shade])],(y5 cut o0_B mf m0_B mf_1),6,(fr_ s_),[],5⟩ ?_
     obtain ⟨r0,hx_11,h⟩:=bsome h
     refine r_callvZ (zr:=[]) trivial rfl (.fn _) (by kernel_rfl) rfl (k153 p _ hx_11) trivial ⟨.refl _,trivial⟩ rfl rfl rfl rfl ?_
     refine aX 1 ⟨[(0,.d (q1 plan)),pR 2 0,pR 4 2,pR 5 3,pR 6 4,pR 8 5,(10,jI (plan.length:Int)),(11,jI r0)],(y5 cut o0_B mf m0_B mf_1),6,(fr_ s_),[],5⟩ ?_
     refine Fi ⟨[(0,.d (q1 plan)),pR 2 0,pR 4 2,pR 5 3,pR 6 4,pR 8 5,(10,jI (plan.length:Int)),(11,jI r0)],(y5 cut o0_B mf m0_B mf_1),6,(fr_ s_),[],5⟩ ?_
     obtain rfl:=Option.some.inj h
     exact hK_7 _ (Can.kp (by kernel_rfl))
    ·refine r_iaF trivial rfl rfl (ixN_ok hv_9).1 (ixN_ok hv_9).2.1 ?_
     refine r_loadF trivial rfl (u:=.fn 157) (by rw [(ixN_ok hv_9).2.2];rfl) ?_
     refine aX 5 ⟨[(0,.d (q1 plan)),pR 2 0,pR 4 2,pR 5 3,pR 6 4,pR 8 5,(10,jI (plan.length:Int)),(31,.d (.fn 157)),(34,.d (.sl 3 (List.map e112 o0_B.Horses))),(36,jI (wr ((plan.length:Int).tdiv 2)))],(y5 cut o0_B mf m0_B mf_1),6,(fr_ s_),[],5⟩ ?_
     obtain ⟨p1,hv_12,h⟩:=bsome h
     refine r_iaD trivial rfl rfl (ixL_ok hv_12).1 (row:=e112 p1) (mapget (ixL_ok hv_12).2) ?_
     refine aX 1 ⟨[(0,.d (q1 plan)),pR 2 0,pR 4 2,pR 5 3,pR 6 4,pR 8 5,(10,jI (plan.length:Int)),(31,.d (.fn 157)),(38,.agg [jI p1.Mane,jI p1.Tail,jI p1.Shade])],(y5 cut o0_B mf m0_B mf_1),6,(fr_ s_),[],5⟩ ?_
     obtain ⟨r0_1,hx_13,h⟩:=bsome h
     refine r_callvZ (zr:=[]) trivial rfl (.fn _) (by kernel_rfl) rfl (k157 p1 _ hx_13) trivial ⟨.refl _,trivial⟩ rfl rfl rfl rfl ?_
     refine aX 1 ⟨[(0,.d (q1 plan)),pR 2 0,pR 4 2,pR 5 3,pR 6 4,pR 8 5,(10,jI (plan.length:Int)),(11,jI r0_1)],(y5 cut o0_B mf m0_B mf_1),6,(fr_ s_),[],5⟩ ?_
     refine Fi ⟨[(0,.d (q1 plan)),pR 2 0,pR 4 2,pR 5 3,pR 6 4,pR 8 5,(10,jI (plan.length:Int)),(11,jI r0_1)],(y5 cut o0_B mf m0_B mf_1),6,(fr_ s_),[],5⟩ ?_
     obtain rfl:=Option.some.inj h
     exact hK_7 _ (Can.kp (by kernel_rfl))
    ·cases h
   ·refine AW.seq (AW.skip ?_)
    refine AW.seqK fun K_14 hK_14=>AW.srwK fun Q_15 hQ_15=>?_
    refine Au 3 ⟨[(0,.d (q1 plan)),pR 4 2,pR 5 3,pR 6 4,pR 8 5,(10,jI (plan.length:Int)),(11,jI need),(42,.d (.sl 4 (List.map e107 o0_B.Hanks)))],(y5 cut o0_B mf m0_B mf_1),6,(fr_ s_),[],5⟩ ?_
    refine rL rfl ?_
    refine Au 1 ⟨[(0,.d (q1 plan)),pR 4 2,pR 5 3,pR 6 4,pR 8 5,(10,jI (plan.length:Int)),(11,jI need),(42,.d (.sl 4 (List.map e107 o0_B.Hanks))),(43,jI (o0_B.Hanks.length:Int)),(44,jI 0)],(y5 cut o0_B mf m0_B mf_1),6,(fr_ s_),[],5⟩ ?_
    refine RW.nil (hQ_15 _ ?_)
    refine AW.block ?_
    refine AW.sln (t:=42) rfl (fun hN_16=>?_)
    rw [List.length_map] at hN_16
    obtain ⟨out_16,hx_16,hk_16⟩:=bsomeC h
    refine AW.evCK (fun (v:Int) (s_2:S_)=>⟨[(0,.d (q1 plan)),pR 4 2,pR 5 3,pR 6 4,pR 8 5,(10,jI (plan.length:Int)),(11,jI need),(42,.d (.sl 4 (List.map e107 o0_B.Hanks))),(43,jI (o0_B.Hanks.length:Int)),(44,jI v)],(y5 cut o0_B mf m0_B mf_1),6,(fr_ s_2),[],5⟩) (g125_16 (g125 c_ n_) plan cut o0_B mf m0_B mf_1 need) hx_16 (Can.kp (by kernel_rfl)) (fun v p2 s_2 hi_16 hl_16 hp_16 c_16 h hb_16 K_16 hK_16=>?_) (fun v s_2 hi_16 hl_16 hout=>?_)
    ·unfold g125_16 at h
     refine Sa ⟨[(0,.d (q1 plan)),pR 4 2,pR 5 3,pR 6 4,pR 8 5,(10,jI (plan.length:Int)),(11,jI need),(42,.d (.sl 4 (List.map e107 o0_B.Hanks))),(43,jI (o0_B.Hanks.length:Int)),(44,jI v),(45,.d (.bool (decide (v<(o0_B.Hanks.length:Int)))))],(y5 cut o0_B mf m0_B mf_1),6,(fr_ s_2),[],5⟩ ?_
     refine AW.seqK (fun K_17 hK_17=>?_)
     refine AW.cond rfl (fun hb_18=>?_) (fun hb_18=>False.elim (by have:=of_decide_eq_false hb_18;omega))
     refine AW.skip (hK_17 _ ?_)
     refine AW.seqK (fun K_19 hK_19=>?_)
     refine AW.block ?_
     refine AW.srwK (fun Q_20 hQ_20=>?_)
     refine Au 1 ⟨[(0,.d (q1 plan)),pR 4 2,pR 5 3,pR 6 4,pR 8 5,(10,jI (plan.length:Int)),(11,jI need),(42,.d (.sl 4 (List.map e107 o0_B.Hanks))),(43,jI (o0_B.Hanks.length:Int)),(44,jI v),(46,jI v)],(y5 cut o0_B mf m0_B mf_1),6,(fr_ s_2),[],5⟩ ?_
     refine RW.one fokW (r_iaD trivial rfl rfl hi_16 (row:=e107 p2) (mapget hp_16) (r_end ?_))
     refine Au 4 ⟨[(0,.d (q1 plan)),pR 4 2,pR 5 3,pR 6 4,pR 8 5,(10,jI (plan.length:Int)),(11,jI need),(12,jI v),pR 13 6,(42,.d (.sl 4 (List.map e107 o0_B.Hanks))),(43,jI (o0_B.Hanks.length:Int)),(44,jI v)],[(6,.var 107 (cv107 p2)),(5,.var 140 (cfv cut)),(0,.var 122 (hbm o0_B mf)),(1,.var 138 [.yld]),(2,.var 135 [.d (.fn 127)]),(3,.var 58 [.clo 121 [.agg (hbm m0_B mf_1)] []]),(4,.var 138 [.clo 125 [] [.ptr 0 0,.ptr 1 0,.ptr 2 0,.ptr 3 0,.ptr 4 0]])],7,(fr_ s_2),[],5⟩ ?_
     refine RW.nil (hQ_20 _ ?_)
     obtain ⟨c_21,hx_21,hk_21⟩:=bsomeC h
     refine AW.jnK (fun (_:Unit)=>⟨[(0,.d (q1 plan)),pR 4 2,pR 5 3,pR 6 4,pR 8 5,(10,jI (plan.length:Int)),(11,jI need),(12,jI v),(42,.d (.sl 4 (List.map e107 o0_B.Hanks))),(43,jI (o0_B.Hanks.length:Int)),(44,jI v)],(y5 cut o0_B mf m0_B mf_1),7,(fr_ s_2),[],5⟩) (c:=c_21) (fun K_21 hK_21=>?_) (fun j_21 hj_21=>?_)
     ·have h:=hx_21
      refine AW.sdrwK fokW (fun Q_22 hQ_22=>?_)
      refine aX 1 ⟨[(0,.d (q1 plan)),pR 4 2,pR 5 3,pR 6 4,pR 8 5,(10,jI (plan.length:Int)),(11,jI need),(12,jI v),pR 13 6,(42,.d (.sl 4 (List.map e107 o0_B.Hanks))),(43,jI (o0_B.Hanks.length:Int)),(44,jI v),(49,jI v)],[(6,.var 107 (cv107 p2)),(5,.var 140 (cfv cut)),(0,.var 122 (hbm o0_B mf)),(1,.var 138 [.yld]),(2,.var 135 [.d (.fn 127)]),(3,.var 58 [.clo 121 [.agg (hbm m0_B mf_1)] []]),(4,.var 138 [.clo 125 [] [.ptr 0 0,.ptr 1 0,.ptr 2 0,.ptr 3 0,.ptr 4 0]])],7,(fr_ s_2),[],5⟩ ?_
      obtain ⟨j1,hv_23,h⟩:=bsome h
      refine r_iaV trivial rfl rfl rfl (ixN_ok hv_23).1 (ixN_ok hv_23).2.1 ?_
      refine r_loadV trivial rfl rfl (u:=jI (cut j1)) (agt (f:=fun k=>jI (cut k)) hv_23) ?_
      refine aX 6 ⟨[(0,.d (q1 plan)),pR 4 2,pR 5 3,pR 6 4,pR 8 5,(10,jI (plan.length:Int)),(11,jI need),(12,jI v),(42,.d (.sl 4 (List.map e107 o0_B.Hanks))),(43,jI (o0_B.Hanks.length:Int)),(44,jI v),(53,jI (wr ((cut j1)+need))),(55,.d (.fn 127)),(57,.agg [jI p2.Weight.Low,jI p2.Weight.High])],[(6,.var 107 (cv107 p2)),(5,.var 140 (cfv cut)),(0,.var 122 (hbm o0_B mf)),(1,.var 138 [.yld]),(2,.var 135 [.d (.fn 127)]),(3,.var 58 [.clo 121 [.agg (hbm m0_B mf_1)] []]),(4,.var 138 [.clo 125 [] [.ptr 0 0,.ptr 1 0,.ptr 2 0,.ptr 3 0,.ptr 4 0]])],7,(fr_ s_2),[],5⟩ ?_
      obtain ⟨r0_2,hx_24,h⟩:=bsome h
      refine r_callvZ (zr:=[]) trivial rfl (.fn _) (by kernel_rfl) rfl (k127 p2.Weight _ hx_24) trivial ⟨.refl _,trivial⟩ rfl rfl rfl rfl ?_
      refine aX 2 ⟨[(0,.d (q1 plan)),pR 4 2,pR 5 3,pR 6 4,pR 8 5,(10,jI (plan.length:Int)),(11,jI need),(12,jI v),(42,.d (.sl 4 (List.map e107 o0_B.Hanks))),(43,jI (o0_B.Hanks.length:Int)),(44,jI v),(60,.d (.bool (decide (r0_2<(wr ((cut j1)+need))))))],[(6,.var 107 (cv107 p2)),(5,.var 140 (cfv cut)),(0,.var 122 (hbm o0_B mf)),(1,.var 138 [.yld]),(2,.var 135 [.d (.fn 127)]),(3,.var 58 [.clo 121 [.agg (hbm m0_B mf_1)] []]),(4,.var 138 [.clo 125 [] [.ptr 0 0,.ptr 1 0,.ptr 2 0,.ptr 3 0,.ptr 4 0]])],7,(fr_ s_2),[],5⟩ ?_
      refine r_split 60 rfl (fun hb_25=>?_) (fun hb_25=>?_)
      ·have h:=ifT hb_25 h
       refine aX 17 ⟨[(0,.d (q1 plan)),pR 4 2,pR 5 3,pR 6 4,pR 8 5,(10,jI (plan.length:Int)),(11,jI need),(12,jI v),(42,.d (.sl 4 (List.map e107 o0_B.Hanks))),(43,jI (o0_B.Hanks.length:Int)),(44,jI v),(77,.d (.bool true))],[(6,.var 107 (cv107 p2)),(5,.var 140 (cfv cut)),(0,.var 122 (hbm o0_B mf)),(1,.var 138 [.yld]),(2,.var 135 [.d (.fn 127)]),(3,.var 58 [.clo 121 [.agg (hbm m0_B mf_1)] []]),(4,.var 138 [.clo 125 [] [.ptr 0 0,.ptr 1 0,.ptr 2 0,.ptr 3 0,.ptr 4 0]])],7,(fr_ s_2),[],5⟩ ?_
       refine Fi ⟨[(0,.d (q1 plan)),pR 4 2,pR 5 3,pR 6 4,pR 8 5,(10,jI (plan.length:Int)),(11,jI need),(12,jI v),(42,.d (.sl 4 (List.map e107 o0_B.Hanks))),(43,jI (o0_B.Hanks.length:Int)),(44,jI v),(77,.d (.bool true))],(y5 cut o0_B mf m0_B mf_1),7,(fr_ s_2),[],5⟩ ?_
       refine hQ_22 _ ?_
       refine AW.condT rfl ?_
       refine AW.exit ?_
       refine hK_19 _ ?_
       refine Ra ⟨[(0,.d (q1 plan)),pR 4 2,pR 5 3,pR 6 4,pR 8 5,(10,jI (plan.length:Int)),(11,jI need),(42,.d (.sl 4 (List.map e107 o0_B.Hanks))),(43,jI (o0_B.Hanks.length:Int)),(44,jI (wr (v+1)))],(y5 cut o0_B mf m0_B mf_1),7,(fr_ s_2),[],5⟩ ?_
       obtain rfl:=Option.some.inj h
       obtain rfl:=Aft.bk hk_21
       have ew:wr (v+1)=v+1:=inext (N:=(o0_B.Hanks.length:Int)) (by omega) (by omega) (by omega)
       rw [ew]
       exact hK_16 _ _ rfl (Can.kp (by kernel_rfl))
      ·have h:=ifF hb_25 h
       refine aX 4 ⟨[(0,.d (q1 plan)),pR 4 2,pR 5 3,pR 6 4,pR 8 5,(10,jI (plan.length:Int)),(11,jI need),(12,jI v),(42,.d (.sl 4 (List.map e107 o0_B.Hanks))),(43,jI (o0_B.Hanks.length:Int)),(44,jI v),(60,.d (.bool false)),(64,.d (.bool (decide (((plan.length:Int).tmod 2)=1))))],[(6,.var 107 (cv107 p2)),(5,.var 140 (cfv cut)),(0,.var 122 (hbm o0_B mf)),(1,.var 138 [.yld]),(2,.var 135 [.d (.fn 127)]),(3,.var 58 [.clo 121 [.agg (hbm m0_B mf_1)] []]),(4,.var 138 [.clo 125 [] [.ptr 0 0,.ptr 1 0,.ptr 2 0,.ptr 3 0,.ptr 4 0]])],7,(fr_ s_2),[],5⟩ ?_
       refine r_split 64 rfl (fun hb_26=>?_) (fun hb_26=>?_)
       ·have h:=ifT hb_26 h
        refine aX 6 ⟨[(0,.d (q1 plan)),pR 4 2,pR 5 3,pR 6 4,pR 8 5,(10,jI (plan.length:Int)),(11,jI need),(12,jI v),(42,.d (.sl 4 (List.map e107 o0_B.Hanks))),(43,jI (o0_B.Hanks.length:Int)),(44,jI v),(60,.d (.bool false)),(64,.d (.bool true)),(65,.clo 121 [.agg (hbm m0_B mf_1)] []),(67,jI (wr ((plan.length:Int).tdiv 2))),(68,.d (q1 plan)),(70,jI (wr ((plan.length:Int) - 1)))],[(6,.var 107 (cv107 p2)),(5,.var 140 (cfv cut)),(0,.var 122 (hbm o0_B mf)),(1,.var 138 [.yld]),(2,.var 135 [.d (.fn 127)]),(3,.var 58 [.clo 121 [.agg (hbm m0_B mf_1)] []]),(4,.var 138 [.clo 125 [] [.ptr 0 0,.ptr 1 0,.ptr 2 0,.ptr 3 0,.ptr 4 0]])],7,(fr_ s_2),[],5⟩ ?_
        obtain ⟨p3,hv_27,h⟩:=bsome h
        refine r_iaD rfl rfl rfl (ixL_ok hv_27).1 (row:=e3 p3) (mapget (ixL_ok hv_27).2) ?_
        refine aX 2 ⟨[(0,.d (q1 plan)),pR 4 2,pR 5 3,pR 6 4,pR 8 5,(10,jI (plan.length:Int)),(11,jI need),(12,jI v),(42,.d (.sl 4 (List.map e107 o0_B.Hanks))),(43,jI (o0_B.Hanks.length:Int)),(44,jI v),(60,.d (.bool false)),(64,.d (.bool true)),(65,.clo 121 [.agg (hbm m0_B mf_1)] []),(67,jI (wr ((plan.length:Int).tdiv 2))),(72,jI p3),(73,jI v)],[(6,.var 107 (cv107 p2)),(5,.var 140 (cfv cut)),(0,.var 122 (hbm o0_B mf)),(1,.var 138 [.yld]),(2,.var 135 [.d (.fn 127)]),(3,.var 58 [.clo 121 [.agg (hbm m0_B mf_1)] []]),(4,.var 138 [.clo 125 [] [.ptr 0 0,.ptr 1 0,.ptr 2 0,.ptr 3 0,.ptr 4 0]])],7,(fr_ s_2),[],5⟩ ?_
        obtain ⟨r0_3,hx_28,h⟩:=bsome h
        refine r_callvZ (zr:=[]) rfl rfl (.clo _ _ _) (by kernel_rfl) rfl (k121 m0_B mf_1 (wr ((plan.length:Int).tdiv 2)) p3 v _ hx_28) trivial ⟨.refl _,.refl _,.refl _,.refl _,trivial⟩ rfl rfl rfl rfl ?_
        refine aX 3 ⟨[(0,.d (q1 plan)),pR 4 2,pR 5 3,pR 6 4,pR 8 5,(10,jI (plan.length:Int)),(11,jI need),(12,jI v),(42,.d (.sl 4 (List.map e107 o0_B.Hanks))),(43,jI (o0_B.Hanks.length:Int)),(44,jI v),(77,.d (.bool (!r0_3)))],[(6,.var 107 (cv107 p2)),(5,.var 140 (cfv cut)),(0,.var 122 (hbm o0_B mf)),(1,.var 138 [.yld]),(2,.var 135 [.d (.fn 127)]),(3,.var 58 [.clo 121 [.agg (hbm m0_B mf_1)] []]),(4,.var 138 [.clo 125 [] [.ptr 0 0,.ptr 1 0,.ptr 2 0,.ptr 3 0,.ptr 4 0]])],7,(fr_ s_2),[],5⟩ ?_
        refine Fi ⟨[(0,.d (q1 plan)),pR 4 2,pR 5 3,pR 6 4,pR 8 5,(10,jI (plan.length:Int)),(11,jI need),(12,jI v),(42,.d (.sl 4 (List.map e107 o0_B.Hanks))),(43,jI (o0_B.Hanks.length:Int)),(44,jI v),(77,.d (.bool (!r0_3)))],(y5 cut o0_B mf m0_B mf_1),7,(fr_ s_2),[],5⟩ ?_
        refine hQ_22 _ ?_
        refine AW.cond rfl (fun hb_29=>?_) (fun hb_29=>?_)
        ·have h:=ifT hb_29 h
         refine AW.exit ?_
         refine hK_19 _ ?_
         refine Ra ⟨[(0,.d (q1 plan)),pR 4 2,pR 5 3,pR 6 4,pR 8 5,(10,jI (plan.length:Int)),(11,jI need),(42,.d (.sl 4 (List.map e107 o0_B.Hanks))),(43,jI (o0_B.Hanks.length:Int)),(44,jI (wr (v+1)))],(y5 cut o0_B mf m0_B mf_1),7,(fr_ s_2),[],5⟩ ?_
         obtain rfl:=Option.some.inj h
         obtain rfl:=Aft.bk hk_21
         have ew:wr (v+1)=v+1:=inext (N:=(o0_B.Hanks.length:Int)) (by omega) (by omega) (by omega)
         rw [ew]
         exact hK_16 _ _ rfl (Can.kp (by kernel_rfl))
        ·have h:=ifF hb_29 h
         refine AW.skip ?_
         obtain rfl:=Option.some.inj h
         exact hK_21 _ _ rfl (Can.kp (by kernel_rfl))
       ·have h:=ifF hb_26 h
        refine aX 13 ⟨[(0,.d (q1 plan)),pR 4 2,pR 5 3,pR 6 4,pR 8 5,(10,jI (plan.length:Int)),(11,jI need),(12,jI v),(42,.d (.sl 4 (List.map e107 o0_B.Hanks))),(43,jI (o0_B.Hanks.length:Int)),(44,jI v),(77,.d (.bool false))],[(6,.var 107 (cv107 p2)),(5,.var 140 (cfv cut)),(0,.var 122 (hbm o0_B mf)),(1,.var 138 [.yld]),(2,.var 135 [.d (.fn 127)]),(3,.var 58 [.clo 121 [.agg (hbm m0_B mf_1)] []]),(4,.var 138 [.clo 125 [] [.ptr 0 0,.ptr 1 0,.ptr 2 0,.ptr 3 0,.ptr 4 0]])],7,(fr_ s_2),[],5⟩ ?_
        refine Fi ⟨[(0,.d (q1 plan)),pR 4 2,pR 5 3,pR 6 4,pR 8 5,(10,jI (plan.length:Int)),(11,jI need),(12,jI v),(42,.d (.sl 4 (List.map e107 o0_B.Hanks))),(43,jI (o0_B.Hanks.length:Int)),(44,jI v),(77,.d (.bool false))],(y5 cut o0_B mf m0_B mf_1),7,(fr_ s_2),[],5⟩ ?_
        refine hQ_22 _ ?_
        refine AW.condF rfl ?_
        refine AW.skip ?_
        obtain rfl:=Option.some.inj h
        exact hK_21 _ _ rfl (Can.kp (by kernel_rfl))
     ·subst hj_21
      have h:=Aft.nx hk_21
      refine Sa ⟨[(0,.d (q1 plan)),pR 4 2,pR 5 3,pR 6 4,pR 8 5,(10,jI (plan.length:Int)),(11,jI need),(12,jI v),pR 14 7,(42,.d (.sl 4 (List.map e107 o0_B.Hanks))),(43,jI (o0_B.Hanks.length:Int)),(44,jI v)],(y7 cut o0_B mf m0_B mf_1),8,(fr_ s_2),[],5⟩ ?_
      refine AW.srwK (fun Q_30 hQ_30=>?_)
      refine Au 1 ⟨[(0,.d (q1 plan)),pR 4 2,pR 5 3,pR 6 4,pR 8 5,(10,jI (plan.length:Int)),(11,jI need),(12,jI v),pR 14 7,(42,.d (.sl 4 (List.map e107 o0_B.Hanks))),(43,jI (o0_B.Hanks.length:Int)),(44,jI v),(79,jI v)],(y7 cut o0_B mf m0_B mf_1),8,(fr_ s_2),[],5⟩ ?_
      obtain ⟨j2,hv_31,h⟩:=bsome h
      refine RW.one fokW (r_iaV trivial rfl rfl rfl (ixN_ok hv_31).1 (ixN_ok hv_31).2.1 (r_end ?_))
      refine RW.one fokW (r_loadV trivial rfl rfl (u:=jI (cut j2)) (agt (f:=fun k=>jI (cut k)) hv_31) (r_end ?_))
      refine Au 2 ⟨[(0,.d (q1 plan)),pR 4 2,pR 5 3,pR 6 4,pR 8 5,(10,jI (plan.length:Int)),(11,jI need),(12,jI v),pR 14 7,(42,.d (.sl 4 (List.map e107 o0_B.Hanks))),(43,jI (o0_B.Hanks.length:Int)),(44,jI v),(79,jI v),(83,jI (wr ((cut j2)+need)))],(y7 cut o0_B mf m0_B mf_1),8,(fr_ s_2),[],5⟩ ?_
      obtain ⟨j3,hv_32,h⟩:=bsome h
      refine RW.one fokW (r_iaV trivial rfl rfl rfl (ixN_ok hv_32).1 (ixN_ok hv_32).2.1 (r_end ?_))
      refine RW.one fokW (r_stX trivial rfl rfl rfl rfl rfl (aslot hv_32 rfl) (cs':=[jI ((aset cut j3 (wr ((cut j2)+need))) 0),jI ((aset cut j3 (wr ((cut j2)+need))) 1),jI ((aset cut j3 (wr ((cut j2)+need))) 2),jI ((aset cut j3 (wr ((cut j2)+need))) 3),jI ((aset cut j3 (wr ((cut j2)+need))) 4)]) (ast (w:=cut) (c:=fun z=>jI z) hv_32) (r_end ?_))
      refine RW.nil (hQ_30 _ ?_)
      refine AW.sdrwK fokW (fun Q_33 hQ_33=>?_)
      refine aX 4 ⟨[(0,.d (q1 plan)),pR 4 2,pR 5 3,pR 6 4,pR 8 5,(10,jI (plan.length:Int)),(11,jI need),(12,jI v),pR 14 7,(42,.d (.sl 4 (List.map e107 o0_B.Hanks))),(43,jI (o0_B.Hanks.length:Int)),(44,jI v),(85,.clo 125 [] [.ptr 0 0,.ptr 1 0,.ptr 2 0,.ptr 3 0,.ptr 4 0]),(86,.d (q1 plan)),(87,jI (plan.length:Int)),(88,jI (plan.length:Int))],[(7,.var 140 [jI ((aset cut j3 (wr ((cut j2)+need))) 0),jI ((aset cut j3 (wr ((cut j2)+need))) 1),jI ((aset cut j3 (wr ((cut j2)+need))) 2),jI ((aset cut j3 (wr ((cut j2)+need))) 3),jI ((aset cut j3 (wr ((cut j2)+need))) 4)]),(5,.var 140 (cfv cut)),(0,.var 122 (hbm o0_B mf)),(1,.var 138 [.yld]),(2,.var 135 [.d (.fn 127)]),(3,.var 58 [.clo 121 [.agg (hbm m0_B mf_1)] []]),(4,.var 138 [.clo 125 [] [.ptr 0 0,.ptr 1 0,.ptr 2 0,.ptr 3 0,.ptr 4 0]])],8,(fr_ s_2),[],5⟩ ?_
      obtain ⟨l,hv_34,h⟩:=bsome h
      refine r_slN trivial rfl rfl rfl DSl.d (slcL_ok hv_34).2.1 (by rw [List.length_map];exact (slcL_ok hv_34).2.2.1) rfl (slz hv_34 e3) ?_
      refine aX 2 ⟨[(0,.d (q1 plan)),pR 4 2,pR 5 3,pR 6 4,pR 8 5,(10,jI (plan.length:Int)),(11,jI need),pR 14 7,(42,.d (.sl 4 (List.map e107 o0_B.Hanks))),(43,jI (o0_B.Hanks.length:Int)),(44,jI v),(85,.clo 125 [] [.ptr 0 0,.ptr 1 0,.ptr 2 0,.ptr 3 0,.ptr 4 0]),(89,.fsl 1 (List.map e3 l)),(91,.own 8 (List.map e3 [v]).length)],[(8,.row 3 1 (List.map e3 [v])),(7,.var 140 [jI ((aset cut j3 (wr ((cut j2)+need))) 0),jI ((aset cut j3 (wr ((cut j2)+need))) 1),jI ((aset cut j3 (wr ((cut j2)+need))) 2),jI ((aset cut j3 (wr ((cut j2)+need))) 3),jI ((aset cut j3 (wr ((cut j2)+need))) 4)]),(5,.var 140 (cfv cut)),(0,.var 122 (hbm o0_B mf)),(1,.var 138 [.yld]),(2,.var 135 [.d (.fn 127)]),(3,.var 58 [.clo 121 [.agg (hbm m0_B mf_1)] []]),(4,.var 138 [.clo 125 [] [.ptr 0 0,.ptr 1 0,.ptr 2 0,.ptr 3 0,.ptr 4 0]])],9,(fr_ s_2),[],5⟩ ?_
      obtain ⟨l1,hv_35,h⟩:=bsome h
      refine r_apF trivial rfl rfl rfl rfl (by simp) (zs:=List.map e3 l1) (apz hv_35 e3) (apr hv_35 e3) ?_
      refine aX 1 ⟨[(0,.d (q1 plan)),pR 4 2,pR 5 3,pR 6 4,pR 8 5,(10,jI (plan.length:Int)),(11,jI need),(42,.d (.sl 4 (List.map e107 o0_B.Hanks))),(43,jI (o0_B.Hanks.length:Int)),(44,jI v),(85,.clo 125 [] [.ptr 0 0,.ptr 1 0,.ptr 2 0,.ptr 3 0,.ptr 4 0]),(92,.own 9 (List.map e3 l1).length),(93,.agg [jI ((aset cut j3 (wr ((cut j2)+need))) 0),jI ((aset cut j3 (wr ((cut j2)+need))) 1),jI ((aset cut j3 (wr ((cut j2)+need))) 2),jI ((aset cut j3 (wr ((cut j2)+need))) 3),jI ((aset cut j3 (wr ((cut j2)+need))) 4)])],[(9,.row 3 1 (List.map e3 l1)),(8,.row 3 1 (List.map e3 [v])),(7,.var 140 [jI ((aset cut j3 (wr ((cut j2)+need))) 0),jI ((aset cut j3 (wr ((cut j2)+need))) 1),jI ((aset cut j3 (wr ((cut j2)+need))) 2),jI ((aset cut j3 (wr ((cut j2)+need))) 3),jI ((aset cut j3 (wr ((cut j2)+need))) 4)]),(5,.var 140 (cfv cut)),(0,.var 122 (hbm o0_B mf)),(1,.var 138 [.yld]),(2,.var 135 [.d (.fn 127)]),(3,.var 58 [.clo 121 [.agg (hbm m0_B mf_1)] []]),(4,.var 138 [.clo 125 [] [.ptr 0 0,.ptr 1 0,.ptr 2 0,.ptr 3 0,.ptr 4 0]])],10,(fr_ s_2),[],5⟩ ?_
      obtain ⟨⟨r0_7_1,s_5_1⟩,hx_36,h⟩:=bsome h
      refine r_callvS (zr:=[(9,.row 3 1 (List.map e3 l1))]) [0,1,2,3,4] trivial rfl (.clo _ _ _) (by kernel_rfl) rfl (ih l1 (aset cut j3 (wr ((cut j2)+need))) o0_B mf m0_B mf_1 s_2 _ hx_36) ⟨rfl,rfl,rfl,rfl,rfl,rfl,trivial⟩ rfl rfl ⟨(.own rfl rfl),.refl _,.refl _,.refl _,.refl _,.refl _,.refl _,trivial⟩ rfl rfl rfl ?_
      refine aX 1 ⟨[(0,.d (q1 plan)),pR 4 2,pR 5 3,pR 6 4,pR 8 5,(10,jI (plan.length:Int)),(11,jI need),(42,.d (.sl 4 (List.map e107 o0_B.Hanks))),(43,jI (o0_B.Hanks.length:Int)),(44,jI v),(95,.d (.bool (!r0_7_1)))],[(0,.var 122 (hbm o0_B mf)),(1,.var 138 [.yld]),(2,.var 135 [.d (.fn 127)]),(3,.var 58 [.clo 121 [.agg (hbm m0_B mf_1)] []]),(4,.var 138 [.clo 125 [] [.ptr 0 0,.ptr 1 0,.ptr 2 0,.ptr 3 0,.ptr 4 0]]),(9,.dead),(8,.row 3 1 (List.map e3 [v])),(7,.var 140 [jI ((aset cut j3 (wr ((cut j2)+need))) 0),jI ((aset cut j3 (wr ((cut j2)+need))) 1),jI ((aset cut j3 (wr ((cut j2)+need))) 2),jI ((aset cut j3 (wr ((cut j2)+need))) 3),jI ((aset cut j3 (wr ((cut j2)+need))) 4)]),(5,.var 140 (cfv cut))],10,(fr_ s_5_1),[],5⟩ ?_
      refine Fi ⟨[(0,.d (q1 plan)),pR 4 2,pR 5 3,pR 6 4,pR 8 5,(10,jI (plan.length:Int)),(11,jI need),(42,.d (.sl 4 (List.map e107 o0_B.Hanks))),(43,jI (o0_B.Hanks.length:Int)),(44,jI v),(95,.d (.bool (!r0_7_1)))],(y8 o0_B mf m0_B mf_1 cut),10,(fr_ s_5_1),[],5⟩ ?_
      refine hQ_33 _ ?_
      refine AW.cond rfl (fun hb_37=>?_) (fun hb_37=>?_)
      ·have h:=ifT hb_37 h
       refine Sa ⟨[(9,.d (.bool false))],(y6 o0_B mf m0_B mf_1),10,(fr_ s_5_1),[],5⟩ ?_
       obtain rfl:=Option.some.inj h
       have e_1:=hb_16 _ rfl
       subst e_1
       obtain rfl:=Aft.bk hk_16
       exact rT hR_0 (.cons (.tmp rfl) .nil)
      ·have h:=ifF hb_37 h
       refine AW.skip (hK_19 _ ?_)
       refine Ra ⟨[(0,.d (q1 plan)),pR 4 2,pR 5 3,pR 6 4,pR 8 5,(10,jI (plan.length:Int)),(11,jI need),(42,.d (.sl 4 (List.map e107 o0_B.Hanks))),(43,jI (o0_B.Hanks.length:Int)),(44,jI (wr (v+1)))],(y8 o0_B mf m0_B mf_1 cut),10,(fr_ s_5_1),[],5⟩ ?_
       obtain rfl:=Option.some.inj h
       have ew:wr (v+1)=v+1:=inext (N:=(o0_B.Hanks.length:Int)) (by omega) (by omega) (by omega)
       rw [ew]
       exact hK_16 _ _ rfl (Can.kp (by kernel_rfl))
    ·subst hout
     have h:=Aft.nx hk_16
     refine Sa ⟨[(0,.d (q1 plan)),pR 4 2,pR 5 3,pR 6 4,pR 8 5,(10,jI (plan.length:Int)),(11,jI need),(42,.d (.sl 4 (List.map e107 o0_B.Hanks))),(43,jI (o0_B.Hanks.length:Int)),(44,jI v),(45,.d (.bool (decide (v<(o0_B.Hanks.length:Int)))))],(y5 cut o0_B mf m0_B mf_1),6,(fr_ s_2),[],5⟩ ?_
     refine AW.seqK (fun K_38 hK_38=>?_)
     refine AW.cond rfl (fun hb_39=>False.elim (by have:=of_decide_eq_true hb_39;omega)) (fun hb_39=>?_)
     refine AW.exit ?_
     refine hK_14 _ ?_
     refine Sa ⟨[(9,.d (.bool true))],(y6 o0_B mf m0_B mf_1),6,(fr_ s_2),[],5⟩ ?_
     obtain rfl:=Option.some.inj h
     exact rT hR_0 (.cons (.tmp rfl) .nil)
def g124 {S_:Type} (c_:(List Int)→(Nat→Int)→S_→Option (S_×Bool)) (o0_B:HairBook) (mf:List (Hair_dye×Span)) (m0_B:HairBook) (mf_1:List (Hair_dye×Span)) (s_:S_):Option S_:=(g126).bind fun r0=>(g125 c_ 1000 ([]:(List Int)) r0 o0_B mf m0_B mf_1 s_).bind fun (r0_7,s_5)=>some s_5
def y9 (o0_B:HairBook) (mf:List (Hair_dye×Span)) (m0_B:HairBook) (mf_1:List (Hair_dye×Span)):List (Nat×Blk):=[(4,.var 138 [.clo 125 [] [.ptr 0 0,.ptr 3 0,.ptr 1 0,.ptr 2 0,.ptr 4 0]]),(3,.var 138 [.yld]),(0,.var 122 (hbm o0_B mf)),(1,.var 135 [.d (.fn 127)]),(2,.var 58 [.clo 121 [.agg (hbm m0_B mf_1)] []])]
theorem k124 {S_:Type} (fr_:S_→Fr) (c_:(List Int)→(Nat→Int)→S_→Option (S_×Bool)) (hc_:∀ (a0:(List Int)) (a1:(Nat→Int)) s s2 b,c_ a0 a1 s=some (s2,b)→YCall Tryd.prog Gs (fr_ s) [.d (q1 a0),.agg (cfv a1)] (.d (.bool b)) (fr_ s2)) (o0_B:HairBook) (mf:List (Hair_dye×Span)) (m0_B:HairBook) (mf_1:List (Hair_dye×Span)) (s_:S_) (r:S_) (h:g124 c_ o0_B mf m0_B mf_1 s_=some r):SCall Tryd.prog Gs 124 [.yld,.ptr 0 0,.ptr 1 0,.ptr 2 0] [(0,.var 122 (hbm o0_B mf)),(1,.var 135 [.d (.fn 127)]),(2,.var 58 [.clo 121 [.agg (hbm m0_B mf_1)] []])] 3 (fr_ s_) (.tup []) [(0,.var 122 (hbm o0_B mf)),(1,.var 135 [.d (.fn 127)]),(2,.var 58 [.clo 121 [.agg (hbm m0_B mf_1)] []])] 3 (fr_ r):=by
 unfold g124 at h
 refine SCall.mkK Tryd.func124 c124 rfl rfl (by kernel_rfl) (fun Q_0 hR_0 hN_0=>?_)
 refine Sa ⟨[pR 1 0,pR 2 1,pR 3 2,pR 4 3],[(3,.var 138 [.yld]),(0,.var 122 (hbm o0_B mf)),(1,.var 135 [.d (.fn 127)]),(2,.var 58 [.clo 121 [.agg (hbm m0_B mf_1)] []])],4,(fr_ s_),[],3⟩ ?_
 refine Sa ⟨[pR 1 0,pR 2 1,pR 3 2,pR 4 3,pR 5 4],[(4,.var 138 [.d (.nilFn)]),(3,.var 138 [.yld]),(0,.var 122 (hbm o0_B mf)),(1,.var 135 [.d (.fn 127)]),(2,.var 58 [.clo 121 [.agg (hbm m0_B mf_1)] []])],5,(fr_ s_),[],3⟩ ?_
 refine Sa ⟨[pR 5 4],(y9 o0_B mf m0_B mf_1),5,(fr_ s_),[],3⟩ ?_
 refine AW.drw fokW ?_
 refine aX 1 ⟨[(7,.clo 125 [] [.ptr 0 0,.ptr 3 0,.ptr 1 0,.ptr 2 0,.ptr 4 0])],(y9 o0_B mf m0_B mf_1),5,(fr_ s_),[],3⟩ ?_
 obtain ⟨r0,hx_2,h⟩:=bsome h
 refine r_call trivial rfl (k126 _ hx_2) rfl rfl ?_
 obtain ⟨⟨r0_7,s_5⟩,hx_3,h⟩:=bsome h
 refine r_callvS (zr:=[]) [0,3,1,2,4] trivial rfl (.clo _ _ _) (by kernel_rfl) rfl (k125 fr_ c_ hc_ 1000 ([]:(List Int)) r0 o0_B mf m0_B mf_1 s_ _ hx_3) ⟨rfl,rfl,rfl,rfl,rfl,trivial⟩ rfl rfl ⟨(.nil 1),.refl _,.refl _,.refl _,.refl _,.refl _,.refl _,trivial⟩ rfl rfl rfl ?_
 refine Fi ⟨[],[(0,.var 122 (hbm o0_B mf)),(1,.var 135 [.d (.fn 127)]),(2,.var 58 [.clo 121 [.agg (hbm m0_B mf_1)] []])],5,(fr_ s_5),[],3⟩ ?_
 obtain rfl:=Option.some.inj h
 exact hN_0 _ (retX .nil (.refl _) rfl (by kernel_rfl) (by kernel_rfl))
def g112_r5:((List Int)×(Nat→Int))→(Unit)→Option (Ctl (Unit) (Unit)):=fun (a,a1) _=>some (.brk ())
def g112 (b_B:HairBook) (mf:List (Hair_dye×Span)):Option Bool:=(g120).bind fun _=>(g119 b_B mf b_B mf).bind fun (o0_B,mf1)=>(g124 (fun a a1 s=>rndC g112_r5 (a,a1) s) o0_B mf1 b_B mf (.next ())).bind fun out_5=>match out_5 with | .next _=>some false | .brk _=>some true
theorem k112 (b_B:HairBook) (mf:List (Hair_dye×Span)) (r:Bool) (h:g112 b_B mf=some r):SCall Tryd.prog Gs 112 [.agg (hbm b_B mf)] [] 0 Fr.emp (.d (.bool r)) [] 0 Fr.emp:=by
 unfold g112 at h
 refine SCall.mkK Tryd.func112 c112 rfl rfl (by kernel_rfl) (fun Q_0 hR_0 hN_0=>?_)
 refine Sa (sT [pR 1 0,pR 2 1] [(1,.var 4 [.d (.bool false)]),(0,.var 122 (hbm b_B mf))] 2 0) ?_
 refine AW.seqK (fun K_1 hK_1=>?_)
 refine AW.sdrwK fokW (fun Q_2 hQ_2=>?_)
 refine aX 1 (sT [pR 1 0,pR 2 1,(3,.agg (hbm b_B mf))] [(1,.var 4 [.d (.bool false)]),(0,.var 122 (hbm b_B mf))] 2 0) ?_
 obtain ⟨⟨⟩,hx_3,h⟩:=bsome h
 refine r_call trivial rfl (k120 _ hx_3) rfl rfl ?_
 refine aX 2 (sT [pR 2 1,(3,.agg (hbm b_B mf)),(4,.agg [.d (.fn 127)]),(6,.clo 121 [.agg (hbm b_B mf)] [])] [(1,.var 4 [.d (.bool false)]),(0,.var 122 (hbm b_B mf))] 2 0) ?_
 obtain ⟨⟨o0_B,mf1⟩,hx_4,h⟩:=bsome h
 refine r_callS (zr:=[]) [] trivial rfl (k119 b_B mf b_B mf _ hx_4) trivial rfl rfl ⟨.refl _,.refl _,.refl _,trivial⟩ rfl rfl rfl ?_
 refine Fi (sT [pR 2 1,(7,.clo 124 [] [.ptr 2 0,.ptr 3 0,.ptr 4 0])] [(2,.var 122 (hbm o0_B mf1)),(3,.var 135 [.d (.fn 127)]),(4,.var 58 [.clo 121 [.agg (hbm b_B mf)] []]),(1,.var 4 [.d (.bool false)])] 5 0) ?_
 refine hQ_2 _ ?_
 refine AW.block ?_
 obtain ⟨out_5,hx_5,h⟩:=bsome h
 refine AW.rfX (fun (_:Unit)=>[(5,.dm),(1,.var 4 [.d (.bool false)])]) (fun (_:Unit)=>[(5,.dm),(1,.var 4 [.d (.bool true)])]) (fun _=>some .ret) g112_r5 (fun (⟨a,a1⟩:(List Int)×(Nat→Int))=>[.d (q1 a),.agg (cfv a1)]) (s0:=()) (out:=out_5) [pR 2 1] [(1,.var 4 [.d (.bool false)])] [2,3,4] rfl (.clo _ _ _) (by kernel_rfl) (by kernel_rfl) (fun fr_ hY_5=>k124 fr_ _ (fun a a1 s s2 b h=>hY_5 (a,a1) s s2 b h) o0_B mf1 b_B mf (.next ()) _ hx_5) (by kernel_rfl) ⟨rfl,rfl,rfl,trivial⟩ rfl ⟨rfl,rfl⟩ rfl rfl (fun _=>rfl) (fun _=>rfl) (fun a_5 s_5 c_5 h l_5=>?_) (fun _=>rfl) ?_
 ·obtain ⟨a,a1⟩:=a_5
  unfold g112_r5 at h
  refine AW.skip ?_
  refine AW.block ?_
  refine AW.sa (fokR l_5) [] (sT [pR 2 1] [(1,.var 4 [.d (.bool true)]),(5,.dm)] 6 6) (by kernel_rfl) ?_
  refine AW.ret ?_
  obtain rfl:=Option.some.inj h
  exact ⟨(sT [] [(5,.dm),(1,.var 4 [.d (.bool true)])] 6 6),Can.kp (by kernel_rfl),rdX trivial rfl (by kernel_rfl) (by kernel_rfl)⟩
 ·rcases out_5 with _ | _
  ·refine hK_1 _ ?_
   refine Sa ⟨[pR 2 1],[(1,.var 4 [.d (.bool false)]),(5,.dm)],6,Fr.emp,[5],0⟩ ?_
   obtain rfl:=Option.some.inj h
   exact rT hR_0 (.cons (.one rfl rfl rfl) .nil)
  ·obtain rfl:=Option.some.inj h
   exact hR_0 _ (retX (.cons (.one rfl rfl rfl) .nil) (.refl _) rfl (by kernel_rfl) (by kernel_rfl))
def g123 (x:Int):Option Bool:=some (decide (x≠x))
theorem k123 (x:Int) (r:Bool) (h:g123 x=some r):SCall Tryd.prog Gs 123 [jI x] [] 0 Fr.emp (.d (.bool r)) [] 0 Fr.emp:=by
 unfold g123 at h
 refine SCall.mkK Tryd.func123 c123 rfl rfl (by kernel_rfl) (fun Q_0 hR_0 hN_0=>?_)
 refine Sa (sT [(0,jI x)] [] 0 0) ?_
 refine Sa (sT [(2,.d (.bool (decide (x≠x))))] [] 0 0) ?_
 obtain rfl:=Option.some.inj h
 exact rT hR_0 (.cons (.tmp rfl) .nil)
def g118 (x:Int) (y:Int):Option Int:=(g123 x).bind fun r0=>(g123 y).bind fun r0_1=>bif r0 then (bif r0_1 then (some 0) else (some (-1))) else (bif r0_1 then (some 1) else (bif (decide (x<y)) then (some (-1)) else (bif (decide (y<x)) then (some 1) else (some 0))))
theorem k118 (x:Int) (y:Int) (r:Int) (h:g118 x y=some r):SCall Tryd.prog Gs 118 [jI x,jI y] [] 0 Fr.emp (jI r) [] 0 Fr.emp:=by
 unfold g118 at h
 refine SCall.mkK Tryd.func118 c118 rfl rfl (by kernel_rfl) (fun Q_0 hR_0 hN_0=>?_)
 refine Sa (sT [(0,jI x),(1,jI y)] [] 0 0) ?_
 refine AW.srwK (fun Q_1 hQ_1=>?_)
 refine Au 1 (sT [(0,jI x),(1,jI y),(7,jI x)] [] 0 0) ?_
 obtain ⟨r0,hx_2,h⟩:=bsome h
 refine rC (k123 x _ hx_2) ?_
 refine Au 1 (sT [(0,jI x),(1,jI y),(5,.d (.bool r0))] [] 0 0) ?_
 refine RW.nil (hQ_1 _ ?_)
 refine AW.srwK (fun Q_3 hQ_3=>?_)
 refine Au 1 (sT [(0,jI x),(1,jI y),(5,.d (.bool r0)),(9,jI y)] [] 0 0) ?_
 obtain ⟨r0_1,hx_4,h⟩:=bsome h
 refine rC (k123 y _ hx_4) ?_
 refine Au 1 (sT [(0,jI x),(1,jI y),(5,.d (.bool r0)),(6,.d (.bool r0_1))] [] 0 0) ?_
 refine RW.nil (hQ_3 _ ?_)
 refine AW.seqK (fun K_5 hK_5=>?_)
 refine Sa (sT [(0,jI x),(1,jI y),(6,.d (.bool r0_1)),(11,.d (.bool r0))] [] 0 0) ?_
 refine AW.cond rfl (fun hb_6=>?_) (fun hb_6=>?_)
 ·have h:=ifT hb_6 h
  refine AW.seqK (fun K_7 hK_7=>?_)
  refine Sa (sT [(12,.d (.bool r0_1))] [] 0 0) ?_
  refine AW.cond rfl (fun hb_8=>?_) (fun hb_8=>?_)
  ·have h:=ifT hb_8 h
   refine Sa (sT [(4,jI 0)] [] 0 0) ?_
   obtain rfl:=Option.some.inj h
   exact rT hR_0 (.cons (.tmp rfl) .nil)
  ·have h:=ifF hb_8 h
   refine AW.skip (hK_7 _ ?_)
   refine Sa (sT [(4,jI (-1))] [] 0 0) ?_
   obtain rfl:=Option.some.inj h
   exact rT hR_0 (.cons (.tmp rfl) .nil)
 ·have h:=ifF hb_6 h
  refine AW.skip (hK_5 _ ?_)
  refine AW.seqK (fun K_9 hK_9=>?_)
  refine Sa (sT [(0,jI x),(1,jI y),(13,.d (.bool r0_1))] [] 0 0) ?_
  refine AW.cond rfl (fun hb_10=>?_) (fun hb_10=>?_)
  ·have h:=ifT hb_10 h
   refine Sa (sT [(4,jI 1)] [] 0 0) ?_
   obtain rfl:=Option.some.inj h
   exact rT hR_0 (.cons (.tmp rfl) .nil)
  ·have h:=ifF hb_10 h
   refine AW.skip (hK_9 _ ?_)
   refine AW.seqK (fun K_11 hK_11=>?_)
   refine Sa (sT [(0,jI x),(1,jI y),(16,.d (.bool (decide (x<y))))] [] 0 0) ?_
   refine AW.cond rfl (fun hb_12=>?_) (fun hb_12=>?_)
   ·have h:=ifT hb_12 h
    refine Sa (sT [(4,jI (-1))] [] 0 0) ?_
    obtain rfl:=Option.some.inj h
    exact rT hR_0 (.cons (.tmp rfl) .nil)
   ·have h:=ifF hb_12 h
    refine AW.skip (hK_11 _ ?_)
    refine AW.seqK (fun K_13 hK_13=>?_)
    refine Sa (sT [(19,.d (.bool (decide (y<x))))] [] 0 0) ?_
    refine AW.cond rfl (fun hb_14=>?_) (fun hb_14=>?_)
    ·have h:=ifT hb_14 h
     refine Sa (sT [(4,jI 1)] [] 0 0) ?_
     obtain rfl:=Option.some.inj h
     exact rT hR_0 (.cons (.tmp rfl) .nil)
    ·have h:=ifF hb_14 h
     refine AW.skip (hK_13 _ ?_)
     refine Sa (sT [(4,jI 0)] [] 0 0) ?_
     obtain rfl:=Option.some.inj h
     exact rT hR_0 (.cons (.tmp rfl) .nil)
def g110_3 (s2:(List Int)):Int→Int→Unit→Option (Ctl (Unit) (Int)):=fun v p _=>bif (decide ((s2.length:Int)≤v)) then (some (.brk 1)) else ((ixL s2 v).bind fun p1=>(g118 p p1).bind fun r0_7=>bif (decide (r0_7≠0)) then (some (.brk r0_7)) else (some (.next ())))
def g110 (s1:(List Int)) (s2:(List Int)):Option Int:=bindC (eachC (g110_3 s2) s1 0 ()) fun _=>bif (decide ((s1.length:Int)<(s2.length:Int))) then (some (-1)) else (some 0)
theorem k110 (s1:(List Int)) (s2:(List Int)) (r:Int) (h:g110 s1 s2=some r):SCall Tryd.prog Gs 110 [.d (q1 s1),.d (q1 s2)] [] 0 Fr.emp (jI r) [] 0 Fr.emp:=by
 unfold g110 at h
 refine SCall.mkK Tryd.func110 c110 rfl rfl (by kernel_rfl) (fun Q_0 hR_0 hN_0=>?_)
 refine Sa (sT [(0,.d (q1 s1)),(1,.d (q1 s2))] [] 0 0) ?_
 refine AW.seqK fun K_1 hK_1=>AW.srwK fun Q_2 hQ_2=>?_
 refine Au 1 (sT [(0,.d (q1 s1)),(1,.d (q1 s2)),(9,.d (q1 s1))] [] 0 0) ?_
 refine rL rfl ?_
 refine Au 1 (sT [(0,.d (q1 s1)),(1,.d (q1 s2)),(9,.d (q1 s1)),(10,jI (s1.length:Int)),(11,jI 0)] [] 0 0) ?_
 refine RW.nil (hQ_2 _ ?_)
 refine AW.block ?_
 refine AW.sln (t:=0) rfl (fun hN_3=>?_)
 rw [List.length_map] at hN_3
 obtain ⟨out_3,hx_3,hk_3⟩:=bsomeC h
 refine AW.evCK (fun (v:Int) (_:Unit)=>(sT [(0,.d (q1 s1)),(1,.d (q1 s2)),(9,.d (q1 s1)),(10,jI (s1.length:Int)),(11,jI v)] [] 0 0)) (g110_3 s2) hx_3 (Can.kp (by kernel_rfl)) (fun v p s_3 hi_3 hl_3 hp_3 c_3 h hb_3 K_3 hK_3=>?_) (fun v s_3 hi_3 hl_3 hout=>?_)
 ·unfold g110_3 at h
  refine Sa (sT [(0,.d (q1 s1)),(1,.d (q1 s2)),(9,.d (q1 s1)),(10,jI (s1.length:Int)),(11,jI v),(12,.d (.bool (decide (v<(s1.length:Int)))))] [] 0 0) ?_
  refine AW.seqK (fun K_4 hK_4=>?_)
  refine AW.cond rfl (fun hb_5=>?_) (fun hb_5=>False.elim (by have:=of_decide_eq_false hb_5;omega))
  refine AW.skip (hK_4 _ ?_)
  refine AW.seqK (fun K_6 hK_6=>?_)
  refine AW.block ?_
  refine AW.srwK (fun Q_7 hQ_7=>?_)
  refine Au 1 (sT [(0,.d (q1 s1)),(1,.d (q1 s2)),(9,.d (q1 s1)),(10,jI (s1.length:Int)),(11,jI v),(13,jI v)] [] 0 0) ?_
  refine RW.one fokW (r_iaD trivial rfl rfl hi_3 (row:=e3 p) (mapget hp_3) (r_end ?_))
  refine Au 3 (sT [(0,.d (q1 s1)),(1,.d (q1 s2)),(5,jI v),(6,jI p),(9,.d (q1 s1)),(10,jI (s1.length:Int)),(11,jI v)] [] 0 0) ?_
  refine RW.nil (hQ_7 _ ?_)
  refine AW.seqK fun K_8 hK_8=>AW.srwK fun Q_9 hQ_9=>?_
  refine Au 2 (sT [(0,.d (q1 s1)),(1,.d (q1 s2)),(5,jI v),(6,jI p),(9,.d (q1 s1)),(10,jI (s1.length:Int)),(11,jI v),(16,jI v),(17,.d (q1 s2))] [] 0 0) ?_
  refine rL rfl ?_
  refine Au 1 (sT [(0,.d (q1 s1)),(1,.d (q1 s2)),(5,jI v),(6,jI p),(9,.d (q1 s1)),(10,jI (s1.length:Int)),(11,jI v),(19,.d (.bool (decide ((s2.length:Int)≤v))))] [] 0 0) ?_
  refine RW.nil (hQ_9 _ ?_)
  refine AW.cond rfl (fun hb_10=>?_) (fun hb_10=>?_)
  ·have h:=ifT hb_10 h
   refine Sa (sT [(4,jI 1)] [] 0 0) ?_
   obtain rfl:=Option.some.inj h
   have e_1:=hb_3 _ rfl
   subst e_1
   obtain rfl:=Aft.bk hk_3
   exact rT hR_0 (.cons (.tmp rfl) .nil)
  ·have h:=ifF hb_10 h
   refine AW.skip (hK_8 _ ?_)
   refine AW.srwK (fun Q_11 hQ_11=>?_)
   refine Au 2 (sT [(0,.d (q1 s1)),(1,.d (q1 s2)),(6,jI p),(9,.d (q1 s1)),(10,jI (s1.length:Int)),(11,jI v),(20,.d (q1 s2)),(21,jI v)] [] 0 0) ?_
   obtain ⟨p1,hv_12,h⟩:=bsome h
   refine RW.one fokW (r_iaD trivial rfl rfl (ixL_ok hv_12).1 (row:=e3 p1) (mapget (ixL_ok hv_12).2) (r_end ?_))
   refine Au 2 (sT [(0,.d (q1 s1)),(1,.d (q1 s2)),(6,jI p),(7,jI p1),(9,.d (q1 s1)),(10,jI (s1.length:Int)),(11,jI v)] [] 0 0) ?_
   refine RW.nil (hQ_11 _ ?_)
   refine AW.srwK (fun Q_13 hQ_13=>?_)
   refine Au 2 (sT [(0,.d (q1 s1)),(1,.d (q1 s2)),(9,.d (q1 s1)),(10,jI (s1.length:Int)),(11,jI v),(24,jI p),(25,jI p1)] [] 0 0) ?_
   obtain ⟨r0_7,hx_14,h⟩:=bsome h
   refine rC (k118 p p1 _ hx_14) ?_
   refine Au 1 (sT [(0,.d (q1 s1)),(1,.d (q1 s2)),(8,jI r0_7),(9,.d (q1 s1)),(10,jI (s1.length:Int)),(11,jI v)] [] 0 0) ?_
   refine RW.nil (hQ_13 _ ?_)
   refine Sa (sT [(0,.d (q1 s1)),(1,.d (q1 s2)),(8,jI r0_7),(9,.d (q1 s1)),(10,jI (s1.length:Int)),(11,jI v),(28,.d (.bool (decide (r0_7≠0))))] [] 0 0) ?_
   refine AW.cond rfl (fun hb_15=>?_) (fun hb_15=>?_)
   ·have h:=ifT hb_15 h
    refine Sa (sT [(4,jI r0_7)] [] 0 0) ?_
    obtain rfl:=Option.some.inj h
    have e_1:=hb_3 _ rfl
    subst e_1
    obtain rfl:=Aft.bk hk_3
    exact rT hR_0 (.cons (.tmp rfl) .nil)
   ·have h:=ifF hb_15 h
    refine AW.skip (hK_6 _ ?_)
    refine Ra (sT [(0,.d (q1 s1)),(1,.d (q1 s2)),(9,.d (q1 s1)),(10,jI (s1.length:Int)),(11,jI (wr (v+1)))] [] 0 0) ?_
    obtain rfl:=Option.some.inj h
    have ew:wr (v+1)=v+1:=inext (N:=(s1.length:Int)) (by omega) (by omega) (by omega)
    rw [ew]
    exact hK_3 _ _ rfl (Can.kp (by kernel_rfl))
 ·subst hout
  have h:=Aft.nx hk_3
  refine Sa (sT [(0,.d (q1 s1)),(1,.d (q1 s2)),(9,.d (q1 s1)),(10,jI (s1.length:Int)),(11,jI v),(12,.d (.bool (decide (v<(s1.length:Int)))))] [] 0 0) ?_
  refine AW.seqK (fun K_16 hK_16=>?_)
  refine AW.cond rfl (fun hb_17=>False.elim (by have:=of_decide_eq_true hb_17;omega)) (fun hb_17=>?_)
  refine AW.exit ?_
  refine hK_1 _ ?_
  refine AW.seqK fun K_18 hK_18=>AW.srwK fun Q_19 hQ_19=>?_
  refine Au 1 (sT [(1,.d (q1 s2)),(31,.d (q1 s1))] [] 0 0) ?_
  refine rL rfl ?_
  refine Au 1 (sT [(32,jI (s1.length:Int)),(33,.d (q1 s2))] [] 0 0) ?_
  refine rL rfl ?_
  refine Au 1 (sT [(35,.d (.bool (decide ((s1.length:Int)<(s2.length:Int)))))] [] 0 0) ?_
  refine RW.nil (hQ_19 _ ?_)
  refine AW.cond rfl (fun hb_20=>?_) (fun hb_20=>?_)
  ·have h:=ifT hb_20 h
   refine Sa (sT [(4,jI (-1))] [] 0 0) ?_
   obtain rfl:=Option.some.inj h
   exact rT hR_0 (.cons (.tmp rfl) .nil)
  ·have h:=ifF hb_20 h
   refine AW.skip (hK_18 _ ?_)
   refine Sa (sT [(4,jI 0)] [] 0 0) ?_
   obtain rfl:=Option.some.inj h
   exact rT hR_0 (.cons (.tmp rfl) .nil)
def g91_14 (v1:Int):Int→HairHorse→((List Int)×(List HairHorse))→Option ((List Int)×(List HairHorse)):=fun v2 p (l,l1)=>(must (decide (0≤v2))).bind fun _=>bif (decide ((bAnd (shr64 v1 v2) 1)=1)) then ((appL 8 l [v2]).bind fun l2=>some (l2,l1)) else ((appL 24 l1 [p]).bind fun l3=>some (l,l3))
def g91_8 (x:HairBook):Int→((List Int)×Bool)→Option ((List Int)×Bool):=fun v1 (best1,found1)=>(eachS (g91_14 v1) x.Horses 0 (([],[]):(List Int)×(List HairHorse))).bind fun (l,l1)=>(bif found1 then (bif (decide ((best1.length:Int)<(l.length:Int))) then (some true) else (bif (decide ((l.length:Int)=(best1.length:Int))) then ((g110 l best1).bind fun r0_3=>some (decide (0≤r0_3))) else (some false))) else (some false)).bind fun v3=>bif v3 then (some (best1,found1)) else ((g111 (HairBook.mk x.Hanks l1 x.Dark x.Near x.Match)).bind fun (r0_B,mf)=>(g112 r0_B mf).bind fun r0_1=>bif r0_1 then (some (l,true)) else (some (best1,found1)))
def g91 (x:HairBook):Option ((List Int)×Int):=(g67 x).bind fun r0_9=>bif (decide (r0_9≠0)) then (some ([],r0_9)) else ((must (decide (0≤(x.Horses.length:Int)))).bind fun _=>(must (decide ((shl64 1 (x.Horses.length:Int))≤9223372036854775807))).bind fun _=>(forS (g91_8 x) ((((shl64 1 (x.Horses.length:Int)):Int) - 0).toNat) 0 (([],false):(List Int)×Bool)).bind fun (best1,found1)=>(slcL best1 0 (best1.length:Int)).bind fun l4=>some (l4,0))
def y10 (x:HairBook):List (Nat×Blk):=[(1,.var 25 [.d (.sl 4 (List.map e107 x.Hanks)),.d (.nilSl),jI x.Dark,jI x.Near,jI x.Match]),(0,.var 25 (cv25 x))]
def y11 (x:HairBook) (l1:List HairHorse) (l:List Int):List (Nat×Blk):=[(1,.var 25 [.d (.sl 4 (List.map e107 x.Hanks)),.own 3 (List.map e112 l1).length,jI x.Dark,jI x.Near,jI x.Match]),(3,.row 112 3 (List.map e112 l1)),(2,.row 3 1 (List.map e3 l)),(0,.var 25 (cv25 x))]
def y12 (l2:List Int) (x:HairBook) (l1:List HairHorse):List (Nat×Blk):=[(2,.row 3 1 (List.map e3 l2)),(1,.var 25 [.d (.sl 4 (List.map e107 x.Hanks)),.own 3 (List.map e112 l1).length,jI x.Dark,jI x.Near,jI x.Match]),(3,.row 112 3 (List.map e112 l1)),(0,.var 25 (cv25 x))]
def y13 (x:HairBook) (l3:List HairHorse) (l:List Int):List (Nat×Blk):=[(1,.var 25 [.d (.sl 4 (List.map e107 x.Hanks)),.own 3 (List.map e112 l3).length,jI x.Dark,jI x.Near,jI x.Match]),(3,.row 112 3 (List.map e112 l3)),(2,.row 3 1 (List.map e3 l)),(0,.var 25 (cv25 x))]
theorem k91 (x:HairBook) (r:(List Int)×Int) (h:g91 x=some r):SCall Tryd.prog Gs 91 [.agg (cv25 x)] [] 0 Fr.emp (match r with | (r0_2,r1_1)=>.tup [.d (q1 r0_2),jI r1_1]) [] 0 Fr.emp:=by
 unfold g91 at h
 refine SCall.mkK Tryd.func91 c91 rfl rfl (by kernel_rfl) (fun Q_0 hR_0 hN_0=>?_)
 refine Sa (sT [pR 1 0] [(0,.var 25 (cv25 x))] 1 0) ?_
 refine AW.seqK fun K_1 hK_1=>AW.srwK fun Q_2 hQ_2=>?_
 refine Au 1 (sT [pR 1 0,(12,.agg (cv25 x))] [(0,.var 25 (cv25 x))] 1 0) ?_
 obtain ⟨r0_9,hx_3,h⟩:=bsome h
 refine rC (k67 x _ hx_3) ?_
 refine Au 1 (sT [pR 1 0,(4,jI r0_9)] [(0,.var 25 (cv25 x))] 1 0) ?_
 refine RW.nil (hQ_2 _ ?_)
 refine Sa (sT [pR 1 0,(4,jI r0_9),(15,.d (.bool (decide (r0_9≠0))))] [(0,.var 25 (cv25 x))] 1 0) ?_
 refine AW.cond rfl (fun hb_4=>?_) (fun hb_4=>?_)
 ·have h:=ifT hb_4 h
  refine Sa (sT [(2,.d (.nilSl)),(3,jI r0_9)] [] 1 0) ?_
  obtain rfl:=Option.some.inj h
  exact AW.ret (hR_0 _ (retX (.cons (.tmp rfl) (.cons (.tmp rfl) .nil)) (Frz.tup_of ⟨.nil 1,.refl _,trivial⟩) rfl (by kernel_rfl) (by kernel_rfl)))
 ·have h:=ifF hb_4 h
  refine AW.skip (hK_1 _ ?_)
  refine Sa (sT [pR 1 0,(5,.d (.nilSl))] [(0,.var 25 (cv25 x))] 1 0) ?_
  refine Sa (sT [pR 1 0,(5,.d (.nilSl)),(6,.d (.bool false))] [(0,.var 25 (cv25 x))] 1 0) ?_
  refine AW.seqK fun K_5 hK_5=>AW.srwK fun Q_6 hQ_6=>?_
  refine Au 2 (sT [pR 1 0,(5,.d (.nilSl)),(6,.d (.bool false)),(18,.d (.sl 3 (List.map e112 x.Horses)))] [(0,.var 25 (cv25 x))] 1 0) ?_
  refine rL rfl ?_
  obtain ⟨_,hv_7,h⟩:=bsome h
  refine RW.one fokW (r_sh trivial rfl rfl (shl64_ok (of_decide_eq_true (must_ok hv_7))) (r_end ?_))
  refine Au 1 (sT [pR 1 0,(5,.d (.nilSl)),(6,.d (.bool false)),(20,jI (shl64 1 (x.Horses.length:Int))),(21,jI 0)] [(0,.var 25 (cv25 x))] 1 0) ?_
  refine RW.nil (hQ_6 _ ?_)
  refine AW.block ?_
  obtain ⟨_,hN_8,h⟩:=bsome h
  have hN_8:=of_decide_eq_true (must_ok hN_8)
  obtain ⟨out_8,hx_8,h⟩:=bsome h
  refine AW.lpSK (fun (v1:Int) (⟨best1,found1⟩:(List Int)×Bool)=>(sT [pR 1 0,(5,.d (q1 best1)),(6,.d (.bool found1)),(20,jI (shl64 1 (x.Horses.length:Int))),(21,jI v1)] [(0,.var 25 (cv25 x))] 1 0)) (g91_8 x) ((shl64 1 (x.Horses.length:Int))) hx_8 (Can.trans (Can.wkE 5 1 rfl) (Can.kp (by kernel_rfl))) (fun v1 s_8 hi_8 hl_8 c_8 h K_8 hK_8=>?_) (fun v1 s_8 hi_8 hl_8 hout=>?_)
  ·obtain ⟨best1,found1⟩:=s_8
   unfold g91_8 at h
   refine Sa (sT [pR 1 0,(5,.d (q1 best1)),(6,.d (.bool found1)),(20,jI (shl64 1 (x.Horses.length:Int))),(21,jI v1),(22,.d (.bool (decide (v1<(shl64 1 (x.Horses.length:Int))))))] [(0,.var 25 (cv25 x))] 1 0) ?_
   refine AW.seqK (fun K_9 hK_9=>?_)
   refine AW.cond rfl (fun hb_10=>?_) (fun hb_10=>False.elim (by have:=of_decide_eq_false hb_10;omega))
   refine AW.skip (hK_9 _ ?_)
   refine AW.seqK (fun K_11 hK_11=>?_)
   refine AW.block ?_
   refine Sa (sT [pR 1 0,(5,.d (q1 best1)),(6,.d (.bool found1)),(7,jI v1),(20,jI (shl64 1 (x.Horses.length:Int))),(21,jI v1)] [(0,.var 25 (cv25 x))] 1 0) ?_
   refine Sa (sT [pR 1 0,(5,.d (q1 best1)),(6,.d (.bool found1)),(7,jI v1),pR 8 1,(20,jI (shl64 1 (x.Horses.length:Int))),(21,jI v1)] [(1,.var 25 (cv25 x)),(0,.var 25 (cv25 x))] 2 0) ?_
   refine Sa (sT [pR 1 0,(5,.d (q1 best1)),(6,.d (.bool found1)),(7,jI v1),pR 8 1,(20,jI (shl64 1 (x.Horses.length:Int))),(21,jI v1)] (y10 x) 2 0) ?_
   refine Sa (sT [pR 1 0,(5,.d (q1 best1)),(6,.d (.bool found1)),(7,jI v1),pR 8 1,(9,.d (.nilSl)),(20,jI (shl64 1 (x.Horses.length:Int))),(21,jI v1)] (y10 x) 2 0) ?_
   refine AW.seqK fun K_12 hK_12=>AW.srwK fun Q_13 hQ_13=>?_
   refine Au 2 (sT [pR 1 0,(5,.d (q1 best1)),(6,.d (.bool found1)),(7,jI v1),pR 8 1,(9,.d (.nilSl)),(20,jI (shl64 1 (x.Horses.length:Int))),(21,jI v1),(27,.d (.sl 3 (List.map e112 x.Horses)))] (y10 x) 2 0) ?_
   refine rL rfl ?_
   refine Au 1 (sT [pR 1 0,(5,.d (q1 best1)),(6,.d (.bool found1)),(7,jI v1),pR 8 1,(9,.d (.nilSl)),(20,jI (shl64 1 (x.Horses.length:Int))),(21,jI v1),(27,.d (.sl 3 (List.map e112 x.Horses))),(28,jI (x.Horses.length:Int)),(29,jI 0)] (y10 x) 2 0) ?_
   refine RW.nil (hQ_13 _ ?_)
   refine AW.block ?_
   refine AW.sln (t:=27) rfl (fun hN_14=>?_)
   rw [List.length_map] at hN_14
   obtain ⟨out_14,hx_14,h⟩:=bsome h
   refine AW.evSK (fun (v2:Int) (⟨l,l1⟩:(List Int)×(List HairHorse))=>(sT [pR 1 0,(5,.d (q1 best1)),(6,.d (.bool found1)),(7,jI v1),pR 8 1,(9,.own 2 (List.map e3 l).length),(20,jI (shl64 1 (x.Horses.length:Int))),(21,jI v1),(27,.d (.sl 3 (List.map e112 x.Horses))),(28,jI (x.Horses.length:Int)),(29,jI v2)] (y11 x l1 l) 4 0)) (g91_14 v1) hx_14 (Can.trans (Can.thawT 9 3 1 rfl rfl) (Can.trans (Can.thawH 1 1 25 112 3 rfl rfl rfl) (Can.kp (by kernel_rfl)))) (fun v2 p s_14 hi_14 hl_14 hp_14 c_14 h K_14 hK_14=>?_) (fun v2 s_14 hi_14 hl_14 hout=>?_)
   ·obtain ⟨l,l1⟩:=s_14
    unfold g91_14 at h
    refine Sa (sT [pR 1 0,(5,.d (q1 best1)),(6,.d (.bool found1)),(7,jI v1),pR 8 1,(9,.own 2 (List.map e3 l).length),(20,jI (shl64 1 (x.Horses.length:Int))),(21,jI v1),(27,.d (.sl 3 (List.map e112 x.Horses))),(28,jI (x.Horses.length:Int)),(29,jI v2),(30,.d (.bool (decide (v2<(x.Horses.length:Int)))))] (y11 x l1 l) 4 0) ?_
    refine AW.seqK (fun K_15 hK_15=>?_)
    refine AW.cond rfl (fun hb_16=>?_) (fun hb_16=>False.elim (by have:=of_decide_eq_false hb_16;omega))
    refine AW.skip (hK_15 _ ?_)
    refine AW.seqK (fun K_17 hK_17=>?_)
    refine AW.block ?_
    refine AW.srwK (fun Q_18 hQ_18=>?_)
    refine Au 1 (sT [pR 1 0,(5,.d (q1 best1)),(6,.d (.bool found1)),(7,jI v1),pR 8 1,(9,.own 2 (List.map e3 l).length),(20,jI (shl64 1 (x.Horses.length:Int))),(21,jI v1),(27,.d (.sl 3 (List.map e112 x.Horses))),(28,jI (x.Horses.length:Int)),(29,jI v2),(31,jI v2)] (y11 x l1 l) 4 0) ?_
    refine RW.one fokW (r_iaD trivial rfl rfl hi_14 (row:=e112 p) (mapget hp_14) (r_end ?_))
    refine Au 4 (sT [pR 1 0,(5,.d (q1 best1)),(6,.d (.bool found1)),(7,jI v1),pR 8 1,(9,.own 2 (List.map e3 l).length),(10,jI v2),pR 11 4,(20,jI (shl64 1 (x.Horses.length:Int))),(21,jI v1),(27,.d (.sl 3 (List.map e112 x.Horses))),(28,jI (x.Horses.length:Int)),(29,jI v2)] [(4,.var 112 [jI p.Mane,jI p.Tail,jI p.Shade]),(1,.var 25 [.d (.sl 4 (List.map e107 x.Hanks)),.own 3 (List.map e112 l1).length,jI x.Dark,jI x.Near,jI x.Match]),(3,.row 112 3 (List.map e112 l1)),(2,.row 3 1 (List.map e3 l)),(0,.var 25 (cv25 x))] 5 0) ?_
    refine RW.nil (hQ_18 _ ?_)
    refine AW.srwK (fun Q_19 hQ_19=>?_)
    refine Au 2 (sT [pR 1 0,(5,.d (q1 best1)),(6,.d (.bool found1)),(7,jI v1),pR 8 1,(9,.own 2 (List.map e3 l).length),(10,jI v2),pR 11 4,(20,jI (shl64 1 (x.Horses.length:Int))),(21,jI v1),(27,.d (.sl 3 (List.map e112 x.Horses))),(28,jI (x.Horses.length:Int)),(29,jI v2),(34,jI v1),(35,jI v2)] [(4,.var 112 [jI p.Mane,jI p.Tail,jI p.Shade]),(1,.var 25 [.d (.sl 4 (List.map e107 x.Hanks)),.own 3 (List.map e112 l1).length,jI x.Dark,jI x.Near,jI x.Match]),(3,.row 112 3 (List.map e112 l1)),(2,.row 3 1 (List.map e3 l)),(0,.var 25 (cv25 x))] 5 0) ?_
    obtain ⟨_,hv_20,h⟩:=bsome h
    refine RW.one fokW (r_sh trivial rfl rfl (shr64_ok (of_decide_eq_true (must_ok hv_20))) (r_end ?_))
    refine Au 2 (sT [pR 1 0,(5,.d (q1 best1)),(6,.d (.bool found1)),(7,jI v1),pR 8 1,(9,.own 2 (List.map e3 l).length),(10,jI v2),pR 11 4,(20,jI (shl64 1 (x.Horses.length:Int))),(21,jI v1),(27,.d (.sl 3 (List.map e112 x.Horses))),(28,jI (x.Horses.length:Int)),(29,jI v2),(38,.d (.bool (decide ((bAnd (shr64 v1 v2) 1)=1))))] [(4,.var 112 [jI p.Mane,jI p.Tail,jI p.Shade]),(1,.var 25 [.d (.sl 4 (List.map e107 x.Hanks)),.own 3 (List.map e112 l1).length,jI x.Dark,jI x.Near,jI x.Match]),(3,.row 112 3 (List.map e112 l1)),(2,.row 3 1 (List.map e3 l)),(0,.var 25 (cv25 x))] 5 0) ?_
    refine RW.nil (hQ_19 _ ?_)
    refine AW.cond rfl (fun hb_21=>?_) (fun hb_21=>?_)
    ·have h:=ifT hb_21 h
     refine AW.rw ?_
     refine Au 3 (sT [pR 1 0,(5,.d (q1 best1)),(6,.d (.bool found1)),(7,jI v1),pR 8 1,(20,jI (shl64 1 (x.Horses.length:Int))),(21,jI v1),(27,.d (.sl 3 (List.map e112 x.Horses))),(28,jI (x.Horses.length:Int)),(29,jI v2),(39,.own 2 (List.map e3 l).length),(41,.own 5 (List.map e3 [v2]).length)] [(5,.row 3 1 (List.map e3 [v2])),(1,.var 25 [.d (.sl 4 (List.map e107 x.Hanks)),.own 3 (List.map e112 l1).length,jI x.Dark,jI x.Near,jI x.Match]),(3,.row 112 3 (List.map e112 l1)),(2,.row 3 1 (List.map e3 l)),(0,.var 25 (cv25 x))] 6 0) ?_
     obtain ⟨l2,hv_23,h⟩:=bsome h
     refine RW.one fokW (r_apO trivial rfl rfl rfl rfl rfl rfl (apz hv_23 e3) (apr hv_23 e3) (r_end ?_))
     refine Au 1 (sT [pR 1 0,(5,.d (q1 best1)),(6,.d (.bool found1)),(7,jI v1),pR 8 1,(9,.own 2 (List.map e3 l2).length),(20,jI (shl64 1 (x.Horses.length:Int))),(21,jI v1),(27,.d (.sl 3 (List.map e112 x.Horses))),(28,jI (x.Horses.length:Int)),(29,jI v2)] (y12 l2 x l1) 6 0) ?_
     refine RW.nil ?_
     refine hK_17 _ ?_
     refine Ra (sT [pR 1 0,(5,.d (q1 best1)),(6,.d (.bool found1)),(7,jI v1),pR 8 1,(9,.own 2 (List.map e3 l2).length),(20,jI (shl64 1 (x.Horses.length:Int))),(21,jI v1),(27,.d (.sl 3 (List.map e112 x.Horses))),(28,jI (x.Horses.length:Int)),(29,jI (wr (v2+1)))] (y12 l2 x l1) 6 0) ?_
     obtain rfl:=Option.some.inj h
     have ew:wr (v2+1)=v2+1:=inext (N:=(x.Horses.length:Int)) (by omega) (by omega) (by omega)
     rw [ew]
     exact hK_14 _ (Can.kp (by kernel_rfl))
    ·have h:=ifF hb_21 h
     refine AW.rw ?_
     refine Au 4 (sT [pR 1 0,(5,.d (q1 best1)),(6,.d (.bool found1)),(7,jI v1),pR 8 1,(9,.own 2 (List.map e3 l).length),(20,jI (shl64 1 (x.Horses.length:Int))),(21,jI v1),(27,.d (.sl 3 (List.map e112 x.Horses))),(28,jI (x.Horses.length:Int)),(29,jI v2),(44,.own 3 (List.map e112 l1).length),(46,.own 5 (List.map e112 [p]).length)] [(5,.row 112 3 (List.map e112 [p])),(1,.var 25 [.d (.sl 4 (List.map e107 x.Hanks)),.own 3 (List.map e112 l1).length,jI x.Dark,jI x.Near,jI x.Match]),(3,.row 112 3 (List.map e112 l1)),(2,.row 3 1 (List.map e3 l)),(0,.var 25 (cv25 x))] 6 0) ?_
     obtain ⟨l3,hv_25,h⟩:=bsome h
     refine RW.one fokW (r_apO trivial rfl rfl rfl rfl rfl rfl (apz hv_25 e112) (apr hv_25 e112) (r_end ?_))
     refine Au 2 (sT [pR 1 0,(5,.d (q1 best1)),(6,.d (.bool found1)),(7,jI v1),pR 8 1,(9,.own 2 (List.map e3 l).length),(20,jI (shl64 1 (x.Horses.length:Int))),(21,jI v1),(27,.d (.sl 3 (List.map e112 x.Horses))),(28,jI (x.Horses.length:Int)),(29,jI v2)] (y13 x l3 l) 6 0) ?_
     refine RW.nil ?_
     refine hK_17 _ ?_
     refine Ra (sT [pR 1 0,(5,.d (q1 best1)),(6,.d (.bool found1)),(7,jI v1),pR 8 1,(9,.own 2 (List.map e3 l).length),(20,jI (shl64 1 (x.Horses.length:Int))),(21,jI v1),(27,.d (.sl 3 (List.map e112 x.Horses))),(28,jI (x.Horses.length:Int)),(29,jI (wr (v2+1)))] (y13 x l3 l) 6 0) ?_
     obtain rfl:=Option.some.inj h
     have ew:wr (v2+1)=v2+1:=inext (N:=(x.Horses.length:Int)) (by omega) (by omega) (by omega)
     rw [ew]
     exact hK_14 _ (Can.kp (by kernel_rfl))
   ·obtain ⟨l,l1⟩:=s_14
    subst hout
    refine Sa (sT [pR 1 0,(5,.d (q1 best1)),(6,.d (.bool found1)),(7,jI v1),pR 8 1,(9,.own 2 (List.map e3 l).length),(20,jI (shl64 1 (x.Horses.length:Int))),(21,jI v1),(27,.d (.sl 3 (List.map e112 x.Horses))),(28,jI (x.Horses.length:Int)),(29,jI v2),(30,.d (.bool (decide (v2<(x.Horses.length:Int)))))] (y11 x l1 l) 4 0) ?_
    refine AW.seqK (fun K_26 hK_26=>?_)
    refine AW.cond rfl (fun hb_27=>False.elim (by have:=of_decide_eq_true hb_27;omega)) (fun hb_27=>?_)
    refine AW.exit ?_
    refine hK_12 _ ?_
    refine AW.seqK fun K_28 hK_28=>AW.srwK fun Q_29 hQ_29=>?_
    refine Au 2 (sT [pR 1 0,(5,.d (q1 best1)),(6,.d (.bool found1)),pR 8 1,(9,.own 2 (List.map e3 l).length),(20,jI (shl64 1 (x.Horses.length:Int))),(21,jI v1),(51,.d (.bool found1))] (y11 x l1 l) 4 0) ?_
    obtain ⟨v3,hx_30,h⟩:=bsome h
    refine RW.cut fokW 19 ((sT [pR 1 0,(5,.d (q1 best1)),(6,.d (.bool found1)),pR 8 1,(9,.own 2 (List.map e3 l).length),(20,jI (shl64 1 (x.Horses.length:Int))),(21,jI v1),(70,.d (.bool v3))] (y11 x l1 l) 4 0)) ?_ ?_
    ·refine r_split 51 rfl (fun hb_34=>?_) (fun hb_34=>?_)
     ·have h:=ifT hb_34 hx_30
      refine aX 1 (sT [pR 1 0,(5,.d (q1 best1)),(6,.d (.bool found1)),pR 8 1,(9,.own 2 (List.map e3 l).length),(20,jI (shl64 1 (x.Horses.length:Int))),(21,jI v1),(51,.d (.bool true)),(52,.own 2 (List.map e3 l).length)] (y11 x l1 l) 4 0) ?_
      refine r_lenY rfl rfl lenm ?_
      refine aX 1 (sT [pR 1 0,(5,.d (q1 best1)),(6,.d (.bool found1)),pR 8 1,(9,.own 2 (List.map e3 l).length),(20,jI (shl64 1 (x.Horses.length:Int))),(21,jI v1),(51,.d (.bool true)),(53,jI (l.length:Int)),(54,.d (q1 best1))] (y11 x l1 l) 4 0) ?_
      refine r_lenX rfl rfl lenm ?_
      refine aX 2 (sT [pR 1 0,(5,.d (q1 best1)),(6,.d (.bool found1)),pR 8 1,(9,.own 2 (List.map e3 l).length),(20,jI (shl64 1 (x.Horses.length:Int))),(21,jI v1),(51,.d (.bool true)),(57,.d (.bool (decide ((best1.length:Int)<(l.length:Int)))))] (y11 x l1 l) 4 0) ?_
      refine r_split 57 rfl (fun hb_31=>?_) (fun hb_31=>?_)
      ·have h:=ifT hb_31 h
       refine aX 13 (sT [pR 1 0,(5,.d (q1 best1)),(6,.d (.bool found1)),pR 8 1,(9,.own 2 (List.map e3 l).length),(20,jI (shl64 1 (x.Horses.length:Int))),(21,jI v1),(70,.d (.bool true))] (y11 x l1 l) 4 0) ?_
       obtain rfl:=Option.some.inj h
       refine RunC.finJ (Can.kp (by kernel_rfl))
      ·have h:=ifF hb_31 h
       refine aX 1 (sT [pR 1 0,(5,.d (q1 best1)),(6,.d (.bool found1)),pR 8 1,(9,.own 2 (List.map e3 l).length),(20,jI (shl64 1 (x.Horses.length:Int))),(21,jI v1),(51,.d (.bool true)),(57,.d (.bool false)),(58,.own 2 (List.map e3 l).length)] (y11 x l1 l) 4 0) ?_
       refine r_lenY rfl rfl lenm ?_
       refine aX 1 (sT [pR 1 0,(5,.d (q1 best1)),(6,.d (.bool found1)),pR 8 1,(9,.own 2 (List.map e3 l).length),(20,jI (shl64 1 (x.Horses.length:Int))),(21,jI v1),(51,.d (.bool true)),(57,.d (.bool false)),(59,jI (l.length:Int)),(60,.d (q1 best1))] (y11 x l1 l) 4 0) ?_
       refine r_lenX rfl rfl lenm ?_
       refine aX 2 (sT [pR 1 0,(5,.d (q1 best1)),(6,.d (.bool found1)),pR 8 1,(9,.own 2 (List.map e3 l).length),(20,jI (shl64 1 (x.Horses.length:Int))),(21,jI v1),(51,.d (.bool true)),(57,.d (.bool false)),(63,.d (.bool (decide ((l.length:Int)=(best1.length:Int)))))] (y11 x l1 l) 4 0) ?_
       refine r_split 63 rfl (fun hb_32=>?_) (fun hb_32=>?_)
       ·have h:=ifT hb_32 h
        refine aX 2 (sT [pR 1 0,(5,.d (q1 best1)),(6,.d (.bool found1)),pR 8 1,(9,.own 2 (List.map e3 l).length),(20,jI (shl64 1 (x.Horses.length:Int))),(21,jI v1),(51,.d (.bool true)),(57,.d (.bool false)),(63,.d (.bool true)),(64,.own 2 (List.map e3 l).length),(65,.d (q1 best1))] (y11 x l1 l) 4 0) ?_
        obtain ⟨r0_3,hx_33,h⟩:=bsome h
        refine r_callF (rs:=[(2,.row 3 1 (List.map e3 l))]) rfl rfl (k110 l best1 _ hx_33) ⟨rfl,trivial⟩ ⟨(.own rfl rfl),.refl _,trivial⟩ rfl rfl rfl ?_
        refine aX 4 (sT [pR 1 0,(5,.d (q1 best1)),(6,.d (.bool found1)),pR 8 1,(9,.own 2 (List.map e3 l).length),(20,jI (shl64 1 (x.Horses.length:Int))),(21,jI v1),(70,.d (.bool (decide (0≤r0_3))))] (y11 x l1 l) 4 0) ?_
        obtain rfl:=Option.some.inj h
        refine RunC.finJ (Can.kp (by kernel_rfl))
       ·have h:=ifF hb_32 h
        refine aX 7 (sT [pR 1 0,(5,.d (q1 best1)),(6,.d (.bool found1)),pR 8 1,(9,.own 2 (List.map e3 l).length),(20,jI (shl64 1 (x.Horses.length:Int))),(21,jI v1),(70,.d (.bool false))] (y11 x l1 l) 4 0) ?_
        obtain rfl:=Option.some.inj h
        refine RunC.finJ (Can.kp (by kernel_rfl))
     ·have h:=ifF hb_34 hx_30
      refine aX 19 (sT [pR 1 0,(5,.d (q1 best1)),(6,.d (.bool found1)),pR 8 1,(9,.own 2 (List.map e3 l).length),(20,jI (shl64 1 (x.Horses.length:Int))),(21,jI v1),(70,.d (.bool false))] (y11 x l1 l) 4 0) ?_
      obtain rfl:=Option.some.inj h
      refine RunC.finJ (Can.kp (by kernel_rfl))
    ·refine RW.nil (hQ_29 _ ?_)
     refine AW.cond rfl (fun hb_35=>?_) (fun hb_35=>?_)
     ·have h:=ifT hb_35 h
      refine AW.exit ?_
      refine hK_11 _ ?_
      refine Ra (sT [pR 1 0,(5,.d (q1 best1)),(6,.d (.bool found1)),(20,jI (shl64 1 (x.Horses.length:Int))),(21,jI (wr (v1+1)))] [(0,.var 25 (cv25 x))] 4 0) ?_
      obtain rfl:=Option.some.inj h
      have ew:wr (v1+1)=v1+1:=inext (N:=(shl64 1 (x.Horses.length:Int))) (by omega) (by omega) (by omega)
      rw [ew]
      exact hK_8 _ (Can.kp (by kernel_rfl))
     ·have h:=ifF hb_35 h
      refine AW.skip (hK_28 _ ?_)
      refine AW.srwK (fun Q_36 hQ_36=>?_)
      refine Au 1 (sT [pR 1 0,(5,.d (q1 best1)),(6,.d (.bool found1)),(9,.own 2 (List.map e3 l).length),(20,jI (shl64 1 (x.Horses.length:Int))),(21,jI v1),(71,.agg [.d (.sl 4 (List.map e107 x.Hanks)),.own 3 (List.map e112 l1).length,jI x.Dark,jI x.Near,jI x.Match])] [(3,.row 112 3 (List.map e112 l1)),(2,.row 3 1 (List.map e3 l)),(0,.var 25 (cv25 x))] 4 0) ?_
      obtain ⟨⟨r0_B,mf⟩,hx_37,h⟩:=bsome h
      refine RW.one fokW (r_callZ (zr:=[(3,.row 112 3 (List.map e112 l1))]) trivial rfl (k111 (HairBook.mk x.Hanks l1 x.Dark x.Near x.Match) _ hx_37) ⟨rfl,trivial⟩ ⟨(Frz.agg_of ⟨.refl _,(.own rfl rfl),.refl _,.refl _,.refl _,trivial⟩),trivial⟩ rfl rfl rfl rfl (r_end ?_))
      obtain ⟨r0_1,hx_38,h⟩:=bsome h
      refine rC (k112 r0_B mf _ hx_38) ?_
      refine RW.nil (hQ_36 _ ?_)
      refine AW.cond rfl (fun hb_39=>?_) (fun hb_39=>?_)
      ·have h:=ifT hb_39 h
       refine Ra (sT [pR 1 0,(5,.own 2 (List.map e3 l).length),(6,.d (.bool true)),(20,jI (shl64 1 (x.Horses.length:Int))),(21,jI v1)] [(2,.row 3 1 (List.map e3 l)),(0,.var 25 (cv25 x))] 4 0) ?_
       refine hK_11 _ ?_
       refine Ra (sT [pR 1 0,(5,.own 2 (List.map e3 l).length),(6,.d (.bool true)),(20,jI (shl64 1 (x.Horses.length:Int))),(21,jI (wr (v1+1)))] [(2,.row 3 1 (List.map e3 l)),(0,.var 25 (cv25 x))] 4 0) ?_
       obtain rfl:=Option.some.inj h
       have ew:wr (v1+1)=v1+1:=inext (N:=(shl64 1 (x.Horses.length:Int))) (by omega) (by omega) (by omega)
       rw [ew]
       exact hK_8 _ (Can.trans (Can.fzE 5 2 rfl rfl rfl) (Can.kp (by kernel_rfl)))
      ·have h:=ifF hb_39 h
       refine AW.skip (hK_11 _ ?_)
       refine Ra (sT [pR 1 0,(5,.d (q1 best1)),(6,.d (.bool found1)),(20,jI (shl64 1 (x.Horses.length:Int))),(21,jI (wr (v1+1)))] [(0,.var 25 (cv25 x))] 4 0) ?_
       obtain rfl:=Option.some.inj h
       have ew:wr (v1+1)=v1+1:=inext (N:=(shl64 1 (x.Horses.length:Int))) (by omega) (by omega) (by omega)
       rw [ew]
       exact hK_8 _ (Can.kp (by kernel_rfl))
  ·obtain ⟨best1,found1⟩:=s_8
   subst hout
   refine Sa (sT [pR 1 0,(5,.d (q1 best1)),(6,.d (.bool found1)),(20,jI (shl64 1 (x.Horses.length:Int))),(21,jI v1),(22,.d (.bool (decide (v1<(shl64 1 (x.Horses.length:Int))))))] [(0,.var 25 (cv25 x))] 1 0) ?_
   refine AW.seqK (fun K_40 hK_40=>?_)
   refine AW.cond rfl (fun hb_41=>False.elim (by have:=of_decide_eq_true hb_41;omega)) (fun hb_41=>?_)
   refine AW.exit ?_
   refine hK_5 _ ?_
   refine AW.srwK (fun Q_42 hQ_42=>?_)
   refine Au 2 (sT [(5,.d (q1 best1)),(76,.d (q1 best1)),(77,.d (q1 best1))] [] 1 0) ?_
   refine rL rfl ?_
   refine Au 1 (sT [(76,.d (q1 best1)),(78,jI (best1.length:Int)),(79,.d (q1 best1))] [] 1 0) ?_
   refine rL rfl ?_
   obtain ⟨l4,hv_43,h⟩:=bsome h
   refine RW.one fokW (r_slN trivial rfl rfl rfl DSl.d (slcL_ok hv_43).2.1 (by rw [List.length_map];exact (slcL_ok hv_43).2.2.1) rfl (slz hv_43 e3) (r_end ?_))
   refine Au 2 (sT [(2,.fsl 1 (List.map e3 l4)),(3,jI 0)] [] 1 0) ?_
   refine RW.nil (hQ_42 _ ?_)
   obtain rfl:=Option.some.inj h
   exact AW.ret (hR_0 _ (retX (.cons (.tmp rfl) (.cons (.tmp rfl) .nil)) (Frz.tup_of ⟨.fsl _ _,.refl _,trivial⟩) rfl (by kernel_rfl) (by kernel_rfl)))
end Go.Proofs.Tr
namespace Go.Proofs.Tr
open Go Go.Abs Go.Proofs
def g93_13 (v:Int):Int→Int→(List (Harness_want×Int))→Option (List (Harness_want×Int)):=fun v1 p1 m2=>(mput q126 m2 (Harness_want.mk v v1) p1).bind fun m3=>some m3
def g93_7:Int→(List Int)→(List (Harness_want×Int))→Option (List (Harness_want×Int)):=fun v p m1=>(eachS (g93_13 v) p 0 m1).bind fun m2=>some m2
def g93 (x:HarnessBook):Option (HarnessBook×(List Int)×(List (Harness_want×Int))):=(mput q126 ([]:List (Harness_want×Int)) (Harness_want.mk (-1) (-1)) 0).bind fun m=>(g91 x.Hair).bind fun (r0_2,r1_1)=>(eachS g93_7 x.Needs 0 m).bind fun m1=>some (x,r0_2,m1)
def y14 (x:HarnessBook) (m:List (Harness_want×Int)):List (Nat×Blk):=[(3,.var 74 (catV (cv29 x) [.d (.nilSl),.map 2])),(2,.mp (List.map m126_3 m)),(1,.var 74 [.d (.nilSl),.d (.nilSl),jI 0,jI 0,jI 0,.d (.nilSl),.d (.nilSl),jI 0,jI 0,.d (.nilSl),.d (.nilMap)]),(0,.var 29 (cv29 x))]
def y15 (x:HarnessBook) (r0_2:List Int) (m:List (Harness_want×Int)):List (Nat×Blk):=[(3,.var 74 (catV (cv29 x) [.d (q1 r0_2),.map 2])),(2,.mp (List.map m126_3 m)),(1,.var 74 [.d (.nilSl),.d (.nilSl),jI 0,jI 0,jI 0,.d (.nilSl),.d (.nilSl),jI 0,jI 0,.d (.nilSl),.d (.nilMap)])]
def y16 (x:HarnessBook) (r0_2:List Int) (m1:List (Harness_want×Int)):List (Nat×Blk):=[(3,.var 74 (catV (cv29 x) [.d (q1 r0_2),.map 2])),(2,.mp (List.map m126_3 m1)),(1,.var 74 [.d (.nilSl),.d (.nilSl),jI 0,jI 0,jI 0,.d (.nilSl),.d (.nilSl),jI 0,jI 0,.d (.nilSl),.d (.nilMap)])]
def y17 (x:HarnessBook) (r0_2:List Int) (m2:List (Harness_want×Int)):List (Nat×Blk):=[(3,.var 74 (catV (cv29 x) [.d (q1 r0_2),.map 2])),(2,.mp (List.map m126_3 m2)),(1,.var 74 [.d (.nilSl),.d (.nilSl),jI 0,jI 0,jI 0,.d (.nilSl),.d (.nilSl),jI 0,jI 0,.d (.nilSl),.d (.nilMap)])]
theorem k93 (x:HarnessBook) (r:HarnessBook×(List Int)×(List (Harness_want×Int))) (h:g93 x=some r):SCall Tryd.prog Gs 93 [.agg (cv29 x)] [] 0 Fr.emp (match r with | (r0_K,r0_bald,mf)=>.agg (kbm r0_K r0_bald mf)) [] 0 Fr.emp:=by
 unfold g93 at h
 refine SCall.mkK Tryd.func93 c93 rfl rfl (by kernel_rfl) (fun Q_0 hR_0 hN_0=>?_)
 refine Sa (sT [pR 1 0,pR 2 1] [(1,.var 74 [.d (.nilSl),.d (.nilSl),jI 0,jI 0,jI 0,.d (.nilSl),.d (.nilSl),jI 0,jI 0,.d (.nilSl),.d (.nilMap)]),(0,.var 29 (cv29 x))] 2 0) ?_
 refine AW.sdrwK fokW (fun Q_1 hQ_1=>?_)
 refine aX 3 (sT [pR 1 0,pR 2 1,(8,.agg (cv29 x)),(9,.map 2),(10,.agg [jI (-1),jI (-1)])] [(2,.mp (List.map m126_3 [])),(1,.var 74 [.d (.nilSl),.d (.nilSl),jI 0,jI 0,jI 0,.d (.nilSl),.d (.nilSl),jI 0,jI 0,.d (.nilSl),.d (.nilMap)]),(0,.var 29 (cv29 x))] 3 0) ?_
 obtain ⟨m,hv_2,h⟩:=bsome h
 refine r_mput q126 e126 (fun x=>DV.c (I x)) trivial rfl rfl rfl rfl ft126 q126_ok (fun _=>rfl) rfl hv_2 ?_
 refine aX 4 (sT [pR 1 0,pR 2 1,pR 3 3] (y14 x m) 4 0) ?_
 refine Fi (sT [pR 1 0,pR 2 1,pR 3 3] (y14 x m) 4 0) ?_
 refine hQ_1 _ ?_
 refine AW.srwK (fun Q_3 hQ_3=>?_)
 refine Au 2 (sT [pR 1 0,pR 2 1,pR 3 3,(15,.agg (cv25 x.Hair))] (y14 x m) 4 0) ?_
 obtain ⟨⟨r0_2,r1_1⟩,hx_4,h⟩:=bsome h
 refine rC (k91 x.Hair _ hx_4) ?_
 refine Au 5 (sT [pR 1 0,pR 2 1,pR 3 3] [(3,.var 74 (catV (cv29 x) [.d (q1 r0_2),.map 2])),(2,.mp (List.map m126_3 m)),(1,.var 74 [.d (.nilSl),.d (.nilSl),jI 0,jI 0,jI 0,.d (.nilSl),.d (.nilSl),jI 0,jI 0,.d (.nilSl),.d (.nilMap)]),(0,.var 29 (cv29 x))] 4 0) ?_
 refine RW.nil (hQ_3 _ ?_)
 refine AW.seqK fun K_5 hK_5=>AW.srwK fun Q_6 hQ_6=>?_
 refine Au 2 (sT [pR 2 1,pR 3 3,(21,.d (.sl 1 (List.map e30 x.Needs)))] (y15 x r0_2 m) 4 0) ?_
 refine rL rfl ?_
 refine Au 1 (sT [pR 2 1,pR 3 3,(21,.d (.sl 1 (List.map e30 x.Needs))),(22,jI (x.Needs.length:Int)),(23,jI 0)] (y15 x r0_2 m) 4 0) ?_
 refine RW.nil (hQ_6 _ ?_)
 refine AW.block ?_
 refine AW.sln (t:=21) rfl (fun hN_7=>?_)
 rw [List.length_map] at hN_7
 obtain ⟨out_7,hx_7,h⟩:=bsome h
 refine AW.evSK (fun (v:Int) (m1:List (Harness_want×Int))=>(sT [pR 2 1,pR 3 3,(21,.d (.sl 1 (List.map e30 x.Needs))),(22,jI (x.Needs.length:Int)),(23,jI v)] (y16 x r0_2 m1) 4 0)) g93_7 hx_7 (Can.kp (by kernel_rfl)) (fun v p m1 hi_7 hl_7 hp_7 c_7 h K_7 hK_7=>?_) (fun v m1 hi_7 hl_7 hout=>?_)
 ·unfold g93_7 at h
  refine Sa (sT [pR 2 1,pR 3 3,(21,.d (.sl 1 (List.map e30 x.Needs))),(22,jI (x.Needs.length:Int)),(23,jI v),(24,.d (.bool (decide (v<(x.Needs.length:Int)))))] (y16 x r0_2 m1) 4 0) ?_
  refine AW.seqK (fun K_8 hK_8=>?_)
  refine AW.cond rfl (fun hb_9=>?_) (fun hb_9=>False.elim (by have:=of_decide_eq_false hb_9;omega))
  refine AW.skip (hK_8 _ ?_)
  refine AW.seqK (fun K_10 hK_10=>?_)
  refine AW.block ?_
  refine AW.srwK (fun Q_11 hQ_11=>?_)
  refine Au 1 (sT [pR 2 1,pR 3 3,(21,.d (.sl 1 (List.map e30 x.Needs))),(22,jI (x.Needs.length:Int)),(23,jI v),(25,jI v)] (y16 x r0_2 m1) 4 0) ?_
  refine RW.one fokW (r_iaD trivial rfl rfl hi_7 (row:=e30 p) (mapget hp_7) (r_end ?_))
  refine Au 3 (sT [pR 2 1,pR 3 3,(4,jI v),(5,.d (q1 p)),(21,.d (.sl 1 (List.map e30 x.Needs))),(22,jI (x.Needs.length:Int)),(23,jI v)] (y16 x r0_2 m1) 4 0) ?_
  refine RW.nil (hQ_11 _ ?_)
  refine AW.srwK (fun Q_12 hQ_12=>?_)
  refine Au 1 (sT [pR 2 1,pR 3 3,(4,jI v),(21,.d (.sl 1 (List.map e30 x.Needs))),(22,jI (x.Needs.length:Int)),(23,jI v),(28,.d (q1 p))] (y16 x r0_2 m1) 4 0) ?_
  refine rL rfl ?_
  refine Au 1 (sT [pR 2 1,pR 3 3,(4,jI v),(21,.d (.sl 1 (List.map e30 x.Needs))),(22,jI (x.Needs.length:Int)),(23,jI v),(28,.d (q1 p)),(29,jI (p.length:Int)),(30,jI 0)] (y16 x r0_2 m1) 4 0) ?_
  refine RW.nil (hQ_12 _ ?_)
  refine AW.block ?_
  refine AW.sln (t:=28) rfl (fun hN_13=>?_)
  rw [List.length_map] at hN_13
  obtain ⟨out_13,hx_13,h⟩:=bsome h
  refine AW.evSK (fun (v1:Int) (m2:List (Harness_want×Int))=>(sT [pR 2 1,pR 3 3,(4,jI v),(21,.d (.sl 1 (List.map e30 x.Needs))),(22,jI (x.Needs.length:Int)),(23,jI v),(28,.d (q1 p)),(29,jI (p.length:Int)),(30,jI v1)] (y17 x r0_2 m2) 4 0)) (g93_13 v) hx_13 (Can.kp (by kernel_rfl)) (fun v1 p1 m2 hi_13 hl_13 hp_13 c_13 h K_13 hK_13=>?_) (fun v1 m2 hi_13 hl_13 hout=>?_)
  ·unfold g93_13 at h
   refine Sa (sT [pR 2 1,pR 3 3,(4,jI v),(21,.d (.sl 1 (List.map e30 x.Needs))),(22,jI (x.Needs.length:Int)),(23,jI v),(28,.d (q1 p)),(29,jI (p.length:Int)),(30,jI v1),(31,.d (.bool (decide (v1<(p.length:Int)))))] (y17 x r0_2 m2) 4 0) ?_
   refine AW.seqK (fun K_14 hK_14=>?_)
   refine AW.cond rfl (fun hb_15=>?_) (fun hb_15=>False.elim (by have:=of_decide_eq_false hb_15;omega))
   refine AW.skip (hK_14 _ ?_)
   refine AW.seqK (fun K_16 hK_16=>?_)
   refine AW.block ?_
   refine AW.srwK (fun Q_17 hQ_17=>?_)
   refine Au 1 (sT [pR 2 1,pR 3 3,(4,jI v),(21,.d (.sl 1 (List.map e30 x.Needs))),(22,jI (x.Needs.length:Int)),(23,jI v),(28,.d (q1 p)),(29,jI (p.length:Int)),(30,jI v1),(32,jI v1)] (y17 x r0_2 m2) 4 0) ?_
   refine RW.one fokW (r_iaD trivial rfl rfl hi_13 (row:=e3 p1) (mapget hp_13) (r_end ?_))
   refine Au 3 (sT [pR 2 1,pR 3 3,(4,jI v),(6,jI v1),(7,jI p1),(21,.d (.sl 1 (List.map e30 x.Needs))),(22,jI (x.Needs.length:Int)),(23,jI v),(28,.d (q1 p)),(29,jI (p.length:Int)),(30,jI v1)] (y17 x r0_2 m2) 4 0) ?_
   refine RW.nil (hQ_17 _ ?_)
   refine AW.rw ?_
   refine Au 6 (sT [pR 2 1,pR 3 3,(4,jI v),(21,.d (.sl 1 (List.map e30 x.Needs))),(22,jI (x.Needs.length:Int)),(23,jI v),(28,.d (q1 p)),(29,jI (p.length:Int)),(30,jI v1),(36,.map 2),(39,.agg [jI v,jI v1]),(40,jI p1)] (y17 x r0_2 m2) 4 0) ?_
   obtain ⟨m3,hv_19,h⟩:=bsome h
   refine RW.one fokW (r_mput q126 e126 (fun x=>DV.c (I x)) trivial rfl rfl rfl rfl ft126 q126_ok (fun _=>rfl) rfl hv_19 (r_end ?_))
   refine RW.nil ?_
   refine hK_16 _ ?_
   refine Ra (sT [pR 2 1,pR 3 3,(4,jI v),(21,.d (.sl 1 (List.map e30 x.Needs))),(22,jI (x.Needs.length:Int)),(23,jI v),(28,.d (q1 p)),(29,jI (p.length:Int)),(30,jI (wr (v1+1)))] [(2,.mp (List.map m126_3 m3)),(3,.var 74 (catV (cv29 x) [.d (q1 r0_2),.map 2])),(1,.var 74 [.d (.nilSl),.d (.nilSl),jI 0,jI 0,jI 0,.d (.nilSl),.d (.nilSl),jI 0,jI 0,.d (.nilSl),.d (.nilMap)])] 4 0) ?_
   obtain rfl:=Option.some.inj h
   have ew:wr (v1+1)=v1+1:=inext (N:=(p.length:Int)) (by omega) (by omega) (by omega)
   rw [ew]
   exact hK_13 _ (Can.kp (by kernel_rfl))
  ·subst hout
   refine Sa (sT [pR 2 1,pR 3 3,(4,jI v),(21,.d (.sl 1 (List.map e30 x.Needs))),(22,jI (x.Needs.length:Int)),(23,jI v),(28,.d (q1 p)),(29,jI (p.length:Int)),(30,jI v1),(31,.d (.bool (decide (v1<(p.length:Int)))))] (y17 x r0_2 m2) 4 0) ?_
   refine AW.seqK (fun K_20 hK_20=>?_)
   refine AW.cond rfl (fun hb_21=>False.elim (by have:=of_decide_eq_true hb_21;omega)) (fun hb_21=>?_)
   refine AW.exit ?_
   refine hK_10 _ ?_
   refine Ra (sT [pR 2 1,pR 3 3,(21,.d (.sl 1 (List.map e30 x.Needs))),(22,jI (x.Needs.length:Int)),(23,jI (wr (v+1)))] (y17 x r0_2 m2) 4 0) ?_
   obtain rfl:=Option.some.inj h
   have ew:wr (v+1)=v+1:=inext (N:=(x.Needs.length:Int)) (by omega) (by omega) (by omega)
   rw [ew]
   exact hK_7 _ (Can.kp (by kernel_rfl))
 ·subst hout
  refine Sa (sT [pR 2 1,pR 3 3,(21,.d (.sl 1 (List.map e30 x.Needs))),(22,jI (x.Needs.length:Int)),(23,jI v),(24,.d (.bool (decide (v<(x.Needs.length:Int)))))] (y16 x r0_2 m1) 4 0) ?_
  refine AW.seqK (fun K_22 hK_22=>?_)
  refine AW.cond rfl (fun hb_23=>False.elim (by have:=of_decide_eq_true hb_23;omega)) (fun hb_23=>?_)
  refine AW.exit ?_
  refine hK_5 _ ?_
  refine Sa (sT [pR 2 1] [(1,.var 74 (catV (cv29 x) [.d (q1 r0_2),.map 2])),(2,.mp (List.map m126_3 m1))] 4 0) ?_
  obtain rfl:=Option.some.inj h
  exact AW.ret (hR_0 _ (retXM (.cons (.agg rfl rfl (Nat.le_of_ble_eq_true rfl)) .nil) (FrzR.agg_of ⟨.of (.refl _),.of (.refl _),.of (.refl _),.of (.refl _),.of (.refl _),.of (.refl _),.of (.refl _),.of (.refl _),.of (.refl _),.of (.refl _),.mp rfl,trivial⟩) rfl (by kernel_rfl) (by kernel_rfl)))
def g59 (x:HarnessBook) (is:Bool):Option (Ctl (HarnessBook×(List Int)×Int) (HarnessBook×(List Int)×(List (Harness_want×Int))×Int)):=(g18 x).bind fun r0_6=>bif (decide (r0_6≠0)) then (some (.next ((HarnessBook.mk (HairBook.mk [] [] 0 0 0) [] [] 0 0),[],r0_6))) else (bif (!is) then (some (.next ((HarnessBook.mk (HairBook.mk [] [] 0 0 0) [] [] 0 0),[],101))) else ((g93 x).bind fun (r0_K,r0_bald,mf)=>some (.brk (r0_K,r0_bald,mf,0))))
def y18 (x:HarnessBook):List (Nat×Blk):=[(1,.var 74 [.d (.nilSl),.d (.nilSl),jI 0,jI 0,jI 0,.d (.nilSl),.d (.nilSl),jI 0,jI 0,.d (.nilSl),.d (.nilMap)]),(0,.var 29 (cv29 x))]
def y19:List (Nat×Blk):=[(1,.var 74 [.d (.nilSl),.d (.nilSl),jI 0,jI 0,jI 0,.d (.nilSl),.d (.nilSl),jI 0,jI 0,.d (.nilSl),.d (.nilMap)])]
theorem k59 (x:HarnessBook) (is:Bool) (r:Ctl (HarnessBook×(List Int)×Int) (HarnessBook×(List Int)×(List (Harness_want×Int))×Int)) (h:g59 x is=some r):SCall Tryd.prog Gs 59 [.agg (cv29 x),.d (.bool is)] [] 0 Fr.emp (match r with | .next (r0_K3,r0_bald3,r1_1)=>.tup [.agg [.d (.sl 4 (List.map e107 r0_K3.Hair.Hanks)),.d (.sl 3 (List.map e112 r0_K3.Hair.Horses)),jI r0_K3.Hair.Dark,jI r0_K3.Hair.Near,jI r0_K3.Hair.Match,.d (.sl 1 (List.map e30 r0_K3.Needs)),.d (.sl 2 (List.map e37 r0_K3.Stock)),jI r0_K3.Pack,jI r0_K3.Bad,.d (q1 r0_bald3),.d (.nilMap)],jI r1_1] | .brk (r0_K4,r0_bald4,mf1,r1_2)=>.tup [.agg (kbm r0_K4 r0_bald4 mf1),jI r1_2]) [] 0 Fr.emp:=by
 unfold g59 at h
 refine SCall.mkK Tryd.func59 c59 rfl (by rcases r with _ | _<;>rfl) (by rcases r with _ | _<;>kernel_rfl) (fun Q_0 hR_0 hN_0=>?_)
 refine Sa (sT [(1,.d (.bool is)),pR 2 0,pR 4 1] (y18 x) 2 0) ?_
 refine AW.seqK fun K_1 hK_1=>AW.srwK fun Q_2 hQ_2=>?_
 refine Au 1 (sT [(1,.d (.bool is)),pR 2 0,pR 4 1,(7,.agg (cv29 x))] (y18 x) 2 0) ?_
 obtain ⟨r0_6,hx_3,h⟩:=bsome h
 refine rC (k18 x _ hx_3) ?_
 refine Au 1 (sT [(1,.d (.bool is)),pR 2 0,pR 4 1,(6,jI r0_6)] (y18 x) 2 0) ?_
 refine RW.nil (hQ_2 _ ?_)
 refine Sa (sT [(1,.d (.bool is)),pR 2 0,pR 4 1,(6,jI r0_6),(10,.d (.bool (decide (r0_6≠0))))] (y18 x) 2 0) ?_
 refine AW.cond rfl (fun hb_4=>?_) (fun hb_4=>?_)
 ·have h:=ifT hb_4 h
  refine Sa (sT [pR 4 1,(5,jI r0_6)] y19 2 0) ?_
  obtain rfl:=Option.some.inj h
  exact AW.ret (hR_0 _ (retX (.cons (.agg rfl rfl (Nat.le_of_ble_eq_true rfl)) (.cons (.tmp rfl) .nil)) (Frz.tup_of ⟨Frz.agg_of ⟨(.nil 4),(.nil 3),.refl _,.refl _,.refl _,(.nil 1),(.nil 2),.refl _,.refl _,(.nil 1),.refl _,trivial⟩,.refl _,trivial⟩) rfl (by kernel_rfl) (by kernel_rfl)))
 ·have h:=ifF hb_4 h
  refine AW.skip (hK_1 _ ?_)
  refine AW.seqK (fun K_5 hK_5=>?_)
  refine Sa (sT [pR 2 0,pR 4 1,(14,.d (.bool (!is)))] (y18 x) 2 0) ?_
  refine AW.cond rfl (fun hb_6=>?_) (fun hb_6=>?_)
  ·have h:=ifT hb_6 h
   refine Sa (sT [pR 4 1,(5,jI 101)] y19 2 0) ?_
   obtain rfl:=Option.some.inj h
   exact AW.ret (hR_0 _ (retX (.cons (.agg rfl rfl (Nat.le_of_ble_eq_true rfl)) (.cons (.tmp rfl) .nil)) (Frz.tup_of ⟨Frz.agg_of ⟨(.nil 4),(.nil 3),.refl _,.refl _,.refl _,(.nil 1),(.nil 2),.refl _,.refl _,(.nil 1),.refl _,trivial⟩,.refl _,trivial⟩) rfl (by kernel_rfl) (by kernel_rfl)))
  ·have h:=ifF hb_6 h
   refine AW.skip (hK_5 _ ?_)
   refine AW.srwK (fun Q_7 hQ_7=>?_)
   refine Au 1 (sT [pR 4 1,(16,.agg (cv29 x))] y19 2 0) ?_
   obtain ⟨⟨r0_K,r0_bald,mf⟩,hx_8,h⟩:=bsome h
   refine rC (k93 x _ hx_8) ?_
   refine Au 2 (sT [pR 4 1,(5,jI 0)] [(1,.var 74 (kbm r0_K r0_bald mf))] 2 0) ?_
   refine RW.nil (hQ_7 _ ?_)
   obtain rfl:=Option.some.inj h
   exact rT hR_0 (.cons (.agg rfl rfl (Nat.le_of_ble_eq_true rfl)) (.cons (.tmp rfl) .nil))
def g61_3:Int→(List Int)→(List Int)→Option (List Int):=fun v p l=>(appL 8 l [v]).bind fun l1=>some l1
def g61 (b_K:HarnessBook) (b_bald:(List Int)) (mf:List (Harness_want×Int)):Option (List Int):=(must (decide ((b_K.Needs.length:Int)≤9223372036854775807))).bind fun _=>(eachS g61_3 b_K.Needs 0 ([]:List Int)).bind fun l=>some l
theorem k61 (b_K:HarnessBook) (b_bald:(List Int)) (mf:List (Harness_want×Int)) (r:(List Int)) (h:g61 b_K b_bald mf=some r):SCall Tryd.prog Gs 61 [.agg (kbm b_K b_bald mf)] [] 0 Fr.emp (.d (q1 r)) [] 0 Fr.emp:=by
 unfold g61 at h
 refine SCall.mkK Tryd.func61 c61 rfl rfl (by kernel_rfl) (fun Q_0 hR_0 hN_0=>?_)
 refine Sa (sT [pR 1 0] [(0,.var 74 (kbm b_K b_bald mf))] 1 0) ?_
 refine Sa (sT [pR 1 0,(3,.d (.nilSl))] [(0,.var 74 (kbm b_K b_bald mf))] 1 0) ?_
 refine AW.seqK fun K_1 hK_1=>AW.srwK fun Q_2 hQ_2=>?_
 refine Au 3 (sT [(3,.d (.nilSl)),(7,.d (.sl 1 (List.map e30 b_K.Needs)))] [] 1 0) ?_
 refine rL rfl ?_
 refine Au 1 (sT [(3,.d (.nilSl)),(8,jI (b_K.Needs.length:Int)),(9,jI 0)] [] 1 0) ?_
 refine RW.nil (hQ_2 _ ?_)
 refine AW.block ?_
 obtain ⟨_,hN_3,h⟩:=bsome h
 have hN_3:=of_decide_eq_true (must_ok hN_3)
 obtain ⟨out_3,hx_3,h⟩:=bsome h
 refine AW.evSK (fun (v:Int) (l:List Int)=>(sT [(3,.own 1 (List.map e3 l).length),(8,jI (b_K.Needs.length:Int)),(9,jI v)] [(1,.row 3 1 (List.map e3 l))] 2 0)) g61_3 hx_3 (Can.trans (Can.thawT 3 3 1 rfl rfl) (Can.kp (by kernel_rfl))) (fun v p l hi_3 hl_3 hp_3 c_3 h K_3 hK_3=>?_) (fun v l hi_3 hl_3 hout=>?_)
 ·unfold g61_3 at h
  refine Sa (sT [(3,.own 1 (List.map e3 l).length),(8,jI (b_K.Needs.length:Int)),(9,jI v),(10,.d (.bool (decide (v<(b_K.Needs.length:Int)))))] [(1,.row 3 1 (List.map e3 l))] 2 0) ?_
  refine AW.seqK (fun K_4 hK_4=>?_)
  refine AW.cond rfl (fun hb_5=>?_) (fun hb_5=>False.elim (by have:=of_decide_eq_false hb_5;omega))
  refine AW.skip (hK_4 _ ?_)
  refine AW.seqK (fun K_6 hK_6=>?_)
  refine AW.block ?_
  refine Sa (sT [(3,.own 1 (List.map e3 l).length),(4,jI v),(8,jI (b_K.Needs.length:Int)),(9,jI v)] [(1,.row 3 1 (List.map e3 l))] 2 0) ?_
  refine AW.rw ?_
  refine Au 3 (sT [(8,jI (b_K.Needs.length:Int)),(9,jI v),(12,.own 1 (List.map e3 l).length),(14,.own 2 (List.map e3 [v]).length)] [(2,.row 3 1 (List.map e3 [v])),(1,.row 3 1 (List.map e3 l))] 3 0) ?_
  obtain ⟨l1,hv_8,h⟩:=bsome h
  refine RW.one fokW (r_apO trivial rfl rfl rfl rfl rfl rfl (apz hv_8 e3) (apr hv_8 e3) (r_end ?_))
  refine Au 1 (sT [(3,.own 1 (List.map e3 l1).length),(8,jI (b_K.Needs.length:Int)),(9,jI v)] [(1,.row 3 1 (List.map e3 l1))] 3 0) ?_
  refine RW.nil ?_
  refine hK_6 _ ?_
  refine Ra (sT [(3,.own 1 (List.map e3 l1).length),(8,jI (b_K.Needs.length:Int)),(9,jI (wr (v+1)))] [(1,.row 3 1 (List.map e3 l1))] 3 0) ?_
  obtain rfl:=Option.some.inj h
  have ew:wr (v+1)=v+1:=inext (N:=(b_K.Needs.length:Int)) (by omega) (by omega) (by omega)
  rw [ew]
  exact hK_3 _ (Can.kp (by kernel_rfl))
 ·subst hout
  refine Sa (sT [(3,.own 1 (List.map e3 l).length),(8,jI (b_K.Needs.length:Int)),(9,jI v),(10,.d (.bool (decide (v<(b_K.Needs.length:Int)))))] [(1,.row 3 1 (List.map e3 l))] 2 0) ?_
  refine AW.seqK (fun K_9 hK_9=>?_)
  refine AW.cond rfl (fun hb_10=>False.elim (by have:=of_decide_eq_true hb_10;omega)) (fun hb_10=>?_)
  refine AW.exit ?_
  refine hK_1 _ ?_
  refine Sa (sT [(2,.own 1 (List.map e3 l).length)] [(1,.row 3 1 (List.map e3 l))] 2 0) ?_
  obtain rfl:=Option.some.inj h
  exact AW.ret (hR_0 _ (retX (.cons (.tmp rfl) .nil) (.own rfl rfl) rfl (by kernel_rfl) (by kernel_rfl)))
def g72 (b_K:HarnessBook) (b_bald:(List Int)) (mf:List (Harness_want×Int)):Option (HarnessBook×(List Int)×(List (Harness_want×Int))):=some (b_K,b_bald,mf)
theorem k72 (b_K:HarnessBook) (b_bald:(List Int)) (mf:List (Harness_want×Int)) (r:HarnessBook×(List Int)×(List (Harness_want×Int))) (h:g72 b_K b_bald mf=some r):SCall Tryd.prog Gs 72 [.agg (kbm b_K b_bald mf)] [] 0 Fr.emp (match r with | (o0_K,o0_bald,mf1)=>.clo 99 [] [.ptr 0 0]) (match r with | (o0_K,o0_bald,mf1)=>[(0,.var 74 (kbm o0_K o0_bald mf1))]) 1 Fr.emp:=by
 unfold g72 at h
 refine SCall.mkK Tryd.func72 c72 rfl rfl (by kernel_rfl) (fun Q_0 hR_0 hN_0=>?_)
 refine Sa (sT [pR 1 0] [(0,.var 74 (kbm b_K b_bald mf))] 1 0) ?_
 refine Sa (sT [(2,.clo 99 [] [.ptr 0 0])] [(0,.var 74 (kbm b_K b_bald mf))] 1 0) ?_
 obtain rfl:=Option.some.inj h
 exact rT hR_0 (.cons (.tmp rfl) .nil)
def g101 :Option (Nat→Int):=some (arrL [0,0,0])
theorem k101  (r:(Nat→Int)) (h:g101=some r):SCall Tryd.prog Gs 101 [] [] 0 Fr.emp (.agg (ctv r)) [] 0 Fr.emp:=by
 unfold g101 at h
 refine SCall.mkK Tryd.func101 c101 rfl rfl (by kernel_rfl) (fun Q_0 hR_0 hN_0=>?_)
 refine Sa (sT [pR 0 0] [(0,.var 87 [jI 0,jI 0,jI 0])] 1 0) ?_
 refine Sa (sT [pR 0 0,pR 1 1] [(1,.var 87 [jI 0,jI 0,jI 0]),(0,.var 87 [jI 0,jI 0,jI 0])] 2 0) ?_
 refine Sa (sT [pR 0 0] [(0,.var 87 [jI 0,jI 0,jI 0])] 2 0) ?_
 obtain rfl:=Option.some.inj h
 exact rT hR_0 (.cons (.agg rfl rfl (Nat.le_of_ble_eq_true rfl)) .nil)
def g100_10 {S_:Type} (rec_:(Nat→Int)→Int→HarnessBook→(List Int)→(List (Harness_want×Int))→S_→Option (Bool×S_)) (kind:Int) (o0_K:HarnessBook) (o0_bald:(List Int)) (mf:List (Harness_want×Int)) (p1:Span):Int→(S_×(Nat→Int))→Option (Ctl (S_×(Nat→Int)) (Ctl (S_) (Ctl (S_) (Bool×S_)))):=fun v (s_4,p2)=>(ixN 3 kind).bind fun j=>(rec_ (aset p2 j (wr (p1.Low+v))) (wr (kind+1)) o0_K o0_bald mf s_4).bind fun (r0_3_1,s_7_1)=>bif (!r0_3_1) then (some (.brk (.brk (.brk (false,s_7_1))))) else (some (.next (s_7_1,(aset p2 j (wr (p1.Low+v))))))
def g100 {S_:Type} (c_:(Nat→Int)→S_→Option (S_×Bool)):Nat→(Nat→Int)→Int→HarnessBook→(List Int)→(List (Harness_want×Int))→S_→Option (Bool×S_)
 | 0,_,_,_,_,_,_=>none
 | n_+1,p,kind,o0_K,o0_bald,mf,s_=>bif (decide (kind=(o0_K.Stock.length:Int))) then ((c_ p s_).bind fun (s_1,go)=>some (go,s_1)) else ((ixL o0_K.Stock kind).bind fun p1=>bindC (bindC (bindC (forC (g100_10 (g100 c_ n_) kind o0_K o0_bald mf p1) ((((wr ((wr (p1.High - p1.Low))+1)):Int) - 0).toNat) 0 (s_,p)) fun (s_4,p2)=>some (.next s_4):Option (Ctl (S_) (Ctl (S_) (Bool×S_)))) fun s_3=>some (.next s_3):Option (Ctl (S_) (Bool×S_))) fun s_2=>some (true,s_2))
def y20 (p:(Nat→Int)) (o0_K:HarnessBook) (o0_bald:(List Int)) (mf:List (Harness_want×Int)):List (Nat×Blk):=[(3,.var 87 (ctv p)),(0,.var 74 (kbm o0_K o0_bald mf)),(1,.var 113 [.yld]),(2,.var 114 [.clo 100 [] [.ptr 0 0,.ptr 1 0,.ptr 2 0]])]
def y21 (o0_K:HarnessBook) (o0_bald:(List Int)) (mf:List (Harness_want×Int)):List (Nat×Blk):=[(0,.var 74 (kbm o0_K o0_bald mf)),(1,.var 113 [.yld]),(2,.var 114 [.clo 100 [] [.ptr 0 0,.ptr 1 0,.ptr 2 0]])]
theorem k100 {S_:Type} (fr_:S_→Fr) (c_:(Nat→Int)→S_→Option (S_×Bool)) (hc_:∀ (a0:(Nat→Int)) s s2 b,c_ a0 s=some (s2,b)→YCall Tryd.prog Gs (fr_ s) [.agg (ctv a0)] (.d (.bool b)) (fr_ s2)):∀ (n_:Nat) (p:(Nat→Int)) (kind:Int) (o0_K:HarnessBook) (o0_bald:(List Int)) (mf:List (Harness_want×Int)) (s_:S_) (r:Bool×S_) (h:g100 c_ n_ p kind o0_K o0_bald mf s_=some r),SCall Tryd.prog Gs 100 [.agg (ctv p),jI kind,.ptr 0 0,.ptr 1 0,.ptr 2 0] [(0,.var 74 (kbm o0_K o0_bald mf)),(1,.var 113 [.yld]),(2,.var 114 [.clo 100 [] [.ptr 0 0,.ptr 1 0,.ptr 2 0]])] 3 (fr_ s_) (match r with | (r0_3,s_7)=>.d (.bool r0_3)) (match r with | (r0_3,s_7)=>[(0,.var 74 (kbm o0_K o0_bald mf)),(1,.var 113 [.yld]),(2,.var 114 [.clo 100 [] [.ptr 0 0,.ptr 1 0,.ptr 2 0]])]) 3 (fr_ (match r with | (r0_3,s_7)=>s_7)):=by
 intro n_
 induction n_ with
 | zero=>intro p kind o0_K o0_bald mf s_ r h;cases h
 | succ n_ ih=>
  intro p kind o0_K o0_bald mf s_ r h
  rw [g100] at h
  refine SCall.mkK Tryd.func100 c100 rfl rfl (by kernel_rfl) (fun Q_0 hR_0 hN_0=>?_)
  refine Sa ⟨[(1,jI kind),pR 2 0,pR 3 1,pR 4 2,pR 5 3],(y20 p o0_K o0_bald mf),4,(fr_ s_),[],3⟩ ?_
  refine AW.seqK fun K_1 hK_1=>AW.srwK fun Q_2 hQ_2=>?_
  refine Au 4 ⟨[(1,jI kind),pR 2 0,pR 3 1,pR 4 2,pR 5 3,(10,jI kind),(13,.d (.sl 2 (List.map e37 o0_K.Stock)))],(y20 p o0_K o0_bald mf),4,(fr_ s_),[],3⟩ ?_
  refine rL rfl ?_
  refine Au 1 ⟨[(1,jI kind),pR 2 0,pR 3 1,pR 4 2,pR 5 3,(15,.d (.bool (decide (kind=(o0_K.Stock.length:Int)))))],(y20 p o0_K o0_bald mf),4,(fr_ s_),[],3⟩ ?_
  refine RW.nil (hQ_2 _ ?_)
  refine AW.cond rfl (fun hb_3=>?_) (fun hb_3=>?_)
  ·have h:=ifT hb_3 h
   refine AW.srwK (fun Q_4 hQ_4=>?_)
   refine Au 2 ⟨[(16,.yld),(17,.agg (ctv p))],(y21 o0_K o0_bald mf),4,(fr_ s_),[],3⟩ ?_
   obtain ⟨⟨s_1,go⟩,hx_5,h⟩:=bsome h
   refine RW.one fokW (r_yield (zr:=[]) trivial rfl rfl (hc_ p _ _ _ hx_5) trivial ⟨.refl _,trivial⟩ rfl rfl rfl rfl (r_end ?_))
   refine Au 1 ⟨[(7,.d (.bool go))],(y21 o0_K o0_bald mf),4,(fr_ s_1),[],3⟩ ?_
   refine RW.nil (hQ_4 _ ?_)
   obtain rfl:=Option.some.inj h
   exact rT hR_0 (.cons (.tmp rfl) .nil)
  ·have h:=ifF hb_3 h
   refine AW.skip (hK_1 _ ?_)
   refine AW.srwK (fun Q_6 hQ_6=>?_)
   refine Au 4 ⟨[(1,jI kind),pR 4 2,pR 5 3,(21,.d (.sl 2 (List.map e37 o0_K.Stock))),(22,jI kind)],(y20 p o0_K o0_bald mf),4,(fr_ s_),[],3⟩ ?_
   obtain ⟨p1,hv_7,h⟩:=bsome h
   refine RW.one fokW (r_iaD trivial rfl rfl (ixL_ok hv_7).1 (row:=e37 p1) (mapget (ixL_ok hv_7).2) (r_end ?_))
   refine Au 3 ⟨[(1,jI kind),pR 4 2,pR 5 3,pR 8 4],[(4,.var 37 [jI p1.Low,jI p1.High]),(3,.var 87 (ctv p)),(0,.var 74 (kbm o0_K o0_bald mf)),(1,.var 113 [.yld]),(2,.var 114 [.clo 100 [] [.ptr 0 0,.ptr 1 0,.ptr 2 0]])],5,(fr_ s_),[],3⟩ ?_
   refine RW.nil (hQ_6 _ ?_)
   obtain ⟨c_8,hx_8,hk_8⟩:=bsomeC h
   refine AW.jnK (fun (s_2:S_)=>⟨[],(y21 o0_K o0_bald mf),5,(fr_ s_2),[],3⟩) (c:=c_8) (fun K_8 hK_8=>?_) (fun s_2 hj_8=>?_)
   ·have h:=hx_8
    refine Sa ⟨[(1,jI kind),pR 4 2,pR 5 3,pR 8 4,(30,jI (wr ((wr (p1.High - p1.Low))+1))),(31,jI 0)],[(4,.var 37 [jI p1.Low,jI p1.High]),(3,.var 87 (ctv p)),(0,.var 74 (kbm o0_K o0_bald mf)),(1,.var 113 [.yld]),(2,.var 114 [.clo 100 [] [.ptr 0 0,.ptr 1 0,.ptr 2 0]])],5,(fr_ s_),[],3⟩ ?_
    obtain ⟨c_9,hx_9,hk_9⟩:=bsomeC h
    refine AW.jqK (fun (s_3:S_)=>⟨[],(y21 o0_K o0_bald mf),5,(fr_ s_3),[],3⟩) (c:=c_9) (fun K_9 hK_9=>?_) (fun s_3 hj_9=>?_)
    ·have h:=hx_9
     refine AW.block ?_
     have hN_10:(wr ((wr (p1.High - p1.Low))+1))≤9223372036854775807:=(wr_range _).2
     obtain ⟨out_10,hx_10,hk_10⟩:=bsomeC h
     refine AW.lpCK (fun (v:Int) (⟨s_4,p2⟩:S_×(Nat→Int))=>⟨[(1,jI kind),pR 4 2,pR 5 3,pR 8 4,(30,jI (wr ((wr (p1.High - p1.Low))+1))),(31,jI v)],[(4,.var 37 [jI p1.Low,jI p1.High]),(3,.var 87 (ctv p2)),(0,.var 74 (kbm o0_K o0_bald mf)),(1,.var 113 [.yld]),(2,.var 114 [.clo 100 [] [.ptr 0 0,.ptr 1 0,.ptr 2 0]])],5,(fr_ s_4),[],3⟩) (g100_10 (g100 c_ n_) kind o0_K o0_bald mf p1) ((wr ((wr (p1.High - p1.Low))+1))) hx_10 (Can.kp (by kernel_rfl)) (fun v s_10 hi_10 hl_10 c_10 h hb_10 K_10 hK_10=>?_) (fun v s_10 hi_10 hl_10 hout=>?_)
     ·obtain ⟨s_4,p2⟩:=s_10
      unfold g100_10 at h
      refine Sa ⟨[(1,jI kind),pR 4 2,pR 5 3,pR 8 4,(30,jI (wr ((wr (p1.High - p1.Low))+1))),(31,jI v),(32,.d (.bool (decide (v<(wr ((wr (p1.High - p1.Low))+1))))))],[(4,.var 37 [jI p1.Low,jI p1.High]),(3,.var 87 (ctv p2)),(0,.var 74 (kbm o0_K o0_bald mf)),(1,.var 113 [.yld]),(2,.var 114 [.clo 100 [] [.ptr 0 0,.ptr 1 0,.ptr 2 0]])],5,(fr_ s_4),[],3⟩ ?_
      refine AW.seqK (fun K_11 hK_11=>?_)
      refine AW.cond rfl (fun hb_12=>?_) (fun hb_12=>False.elim (by have:=of_decide_eq_false hb_12;omega))
      refine AW.skip (hK_11 _ ?_)
      refine AW.seqK (fun K_13 hK_13=>?_)
      refine AW.block ?_
      refine Sa ⟨[(1,jI kind),pR 4 2,pR 5 3,pR 8 4,(9,jI v),(30,jI (wr ((wr (p1.High - p1.Low))+1))),(31,jI v)],[(4,.var 37 [jI p1.Low,jI p1.High]),(3,.var 87 (ctv p2)),(0,.var 74 (kbm o0_K o0_bald mf)),(1,.var 113 [.yld]),(2,.var 114 [.clo 100 [] [.ptr 0 0,.ptr 1 0,.ptr 2 0]])],5,(fr_ s_4),[],3⟩ ?_
      refine AW.srwK (fun Q_14 hQ_14=>?_)
      refine Au 5 ⟨[(1,jI kind),pR 4 2,pR 5 3,pR 8 4,(30,jI (wr ((wr (p1.High - p1.Low))+1))),(31,jI v),(34,jI kind),(38,jI (wr (p1.Low+v)))],[(4,.var 37 [jI p1.Low,jI p1.High]),(3,.var 87 (ctv p2)),(0,.var 74 (kbm o0_K o0_bald mf)),(1,.var 113 [.yld]),(2,.var 114 [.clo 100 [] [.ptr 0 0,.ptr 1 0,.ptr 2 0]])],5,(fr_ s_4),[],3⟩ ?_
      obtain ⟨j,hv_15,h⟩:=bsome h
      refine RW.one fokW (r_iaV trivial rfl rfl rfl (ixN_ok hv_15).1 (ixN_ok hv_15).2.1 (r_end ?_))
      refine RW.one fokW (r_stX trivial rfl rfl rfl rfl rfl (aslot hv_15 rfl) (cs':=[jI ((aset p2 j (wr (p1.Low+v))) 0),jI ((aset p2 j (wr (p1.Low+v))) 1),jI ((aset p2 j (wr (p1.Low+v))) 2)]) (ast (w:=p2) (c:=fun z=>jI z) hv_15) (r_end ?_))
      refine RW.nil (hQ_14 _ ?_)
      refine AW.srwK (fun Q_16 hQ_16=>?_)
      refine Au 4 ⟨[(1,jI kind),pR 4 2,pR 5 3,pR 8 4,(30,jI (wr ((wr (p1.High - p1.Low))+1))),(31,jI v),(40,.clo 100 [] [.ptr 0 0,.ptr 1 0,.ptr 2 0]),(41,.agg [jI ((aset p2 j (wr (p1.Low+v))) 0),jI ((aset p2 j (wr (p1.Low+v))) 1),jI ((aset p2 j (wr (p1.Low+v))) 2)]),(43,jI (wr (kind+1)))],[(3,.var 87 [jI ((aset p2 j (wr (p1.Low+v))) 0),jI ((aset p2 j (wr (p1.Low+v))) 1),jI ((aset p2 j (wr (p1.Low+v))) 2)]),(4,.var 37 [jI p1.Low,jI p1.High]),(0,.var 74 (kbm o0_K o0_bald mf)),(1,.var 113 [.yld]),(2,.var 114 [.clo 100 [] [.ptr 0 0,.ptr 1 0,.ptr 2 0]])],5,(fr_ s_4),[],3⟩ ?_
      obtain ⟨⟨r0_3_1,s_7_1⟩,hx_17,h⟩:=bsome h
      refine RW.one fokW (r_callvS (zr:=[]) [0,1,2] trivial rfl (.clo _ _ _) (by kernel_rfl) rfl (ih (aset p2 j (wr (p1.Low+v))) (wr (kind+1)) o0_K o0_bald mf s_4 _ hx_17) ⟨rfl,rfl,rfl,trivial⟩ rfl rfl ⟨.refl _,.refl _,.refl _,.refl _,.refl _,trivial⟩ rfl rfl rfl (r_end ?_))
      refine Au 1 ⟨[(1,jI kind),pR 4 2,pR 5 3,pR 8 4,(30,jI (wr ((wr (p1.High - p1.Low))+1))),(31,jI v),(45,.d (.bool (!r0_3_1)))],[(0,.var 74 (kbm o0_K o0_bald mf)),(1,.var 113 [.yld]),(2,.var 114 [.clo 100 [] [.ptr 0 0,.ptr 1 0,.ptr 2 0]]),(3,.var 87 [jI ((aset p2 j (wr (p1.Low+v))) 0),jI ((aset p2 j (wr (p1.Low+v))) 1),jI ((aset p2 j (wr (p1.Low+v))) 2)]),(4,.var 37 [jI p1.Low,jI p1.High])],5,(fr_ s_7_1),[],3⟩ ?_
      refine RW.nil (hQ_16 _ ?_)
      refine AW.cond rfl (fun hb_18=>?_) (fun hb_18=>?_)
      ·have h:=ifT hb_18 h
       refine Sa ⟨[(7,.d (.bool false))],(y21 o0_K o0_bald mf),5,(fr_ s_7_1),[],3⟩ ?_
       obtain rfl:=Option.some.inj h
       have e_3:=hb_10 _ rfl
       subst e_3
       obtain rfl:=Aft.bk hk_10
       obtain rfl:=Aft.bk hk_9
       obtain rfl:=Aft.bk hk_8
       exact rT hR_0 (.cons (.tmp rfl) .nil)
      ·have h:=ifF hb_18 h
       refine AW.skip (hK_13 _ ?_)
       refine Ra ⟨[(1,jI kind),pR 4 2,pR 5 3,pR 8 4,(30,jI (wr ((wr (p1.High - p1.Low))+1))),(31,jI (wr (v+1)))],[(0,.var 74 (kbm o0_K o0_bald mf)),(1,.var 113 [.yld]),(2,.var 114 [.clo 100 [] [.ptr 0 0,.ptr 1 0,.ptr 2 0]]),(3,.var 87 [jI ((aset p2 j (wr (p1.Low+v))) 0),jI ((aset p2 j (wr (p1.Low+v))) 1),jI ((aset p2 j (wr (p1.Low+v))) 2)]),(4,.var 37 [jI p1.Low,jI p1.High])],5,(fr_ s_7_1),[],3⟩ ?_
       obtain rfl:=Option.some.inj h
       have ew:wr (v+1)=v+1:=inext (N:=(wr ((wr (p1.High - p1.Low))+1))) (by omega) (by omega) (by omega)
       rw [ew]
       exact hK_10 _ _ rfl (Can.kp (by kernel_rfl))
     ·obtain ⟨s_4,p2⟩:=s_10
      subst hout
      have h:=Aft.nx hk_10
      refine Sa ⟨[(1,jI kind),pR 4 2,pR 5 3,pR 8 4,(30,jI (wr ((wr (p1.High - p1.Low))+1))),(31,jI v),(32,.d (.bool (decide (v<(wr ((wr (p1.High - p1.Low))+1))))))],[(4,.var 37 [jI p1.Low,jI p1.High]),(3,.var 87 (ctv p2)),(0,.var 74 (kbm o0_K o0_bald mf)),(1,.var 113 [.yld]),(2,.var 114 [.clo 100 [] [.ptr 0 0,.ptr 1 0,.ptr 2 0]])],5,(fr_ s_4),[],3⟩ ?_
      refine AW.seqK (fun K_19 hK_19=>?_)
      refine AW.cond rfl (fun hb_20=>False.elim (by have:=of_decide_eq_true hb_20;omega)) (fun hb_20=>?_)
      refine AW.exit ?_
      obtain rfl:=Option.some.inj h
      exact hK_9 _ _ rfl (Can.kp (by kernel_rfl))
    ·subst hj_9
     have h:=Aft.nx hk_9
     obtain rfl:=Option.some.inj h
     exact hK_8 _ _ rfl (Can.kp (by kernel_rfl))
   ·subst hj_8
    have h:=Aft.nx hk_8
    refine Sa ⟨[(7,.d (.bool true))],(y21 o0_K o0_bald mf),5,(fr_ s_2),[],3⟩ ?_
    obtain rfl:=Option.some.inj h
    exact rT hR_0 (.cons (.tmp rfl) .nil)
def g99 {S_:Type} (c_:(Nat→Int)→S_→Option (S_×Bool)) (o0_K:HarnessBook) (o0_bald:(List Int)) (mf:List (Harness_want×Int)) (s_:S_):Option S_:=(g101).bind fun r0=>(g100 c_ 1000 r0 0 o0_K o0_bald mf s_).bind fun (r0_3,s_7)=>some s_7
theorem k99 {S_:Type} (fr_:S_→Fr) (c_:(Nat→Int)→S_→Option (S_×Bool)) (hc_:∀ (a0:(Nat→Int)) s s2 b,c_ a0 s=some (s2,b)→YCall Tryd.prog Gs (fr_ s) [.agg (ctv a0)] (.d (.bool b)) (fr_ s2)) (o0_K:HarnessBook) (o0_bald:(List Int)) (mf:List (Harness_want×Int)) (s_:S_) (r:S_) (h:g99 c_ o0_K o0_bald mf s_=some r):SCall Tryd.prog Gs 99 [.yld,.ptr 0 0] [(0,.var 74 (kbm o0_K o0_bald mf))] 1 (fr_ s_) (.tup []) [(0,.var 74 (kbm o0_K o0_bald mf))] 1 (fr_ r):=by
 unfold g99 at h
 refine SCall.mkK Tryd.func99 c99 rfl rfl (by kernel_rfl) (fun Q_0 hR_0 hN_0=>?_)
 refine Sa ⟨[pR 1 0,pR 2 1],[(1,.var 113 [.yld]),(0,.var 74 (kbm o0_K o0_bald mf))],2,(fr_ s_),[],1⟩ ?_
 refine Sa ⟨[pR 1 0,pR 2 1,pR 3 2],[(2,.var 114 [.d (.nilFn)]),(1,.var 113 [.yld]),(0,.var 74 (kbm o0_K o0_bald mf))],3,(fr_ s_),[],1⟩ ?_
 refine Sa ⟨[pR 3 2],[(2,.var 114 [.clo 100 [] [.ptr 0 0,.ptr 1 0,.ptr 2 0]]),(1,.var 113 [.yld]),(0,.var 74 (kbm o0_K o0_bald mf))],3,(fr_ s_),[],1⟩ ?_
 refine AW.drw fokW ?_
 refine aX 1 ⟨[(5,.clo 100 [] [.ptr 0 0,.ptr 1 0,.ptr 2 0])],[(2,.var 114 [.clo 100 [] [.ptr 0 0,.ptr 1 0,.ptr 2 0]]),(1,.var 113 [.yld]),(0,.var 74 (kbm o0_K o0_bald mf))],3,(fr_ s_),[],1⟩ ?_
 obtain ⟨r0,hx_2,h⟩:=bsome h
 refine r_call trivial rfl (k101 _ hx_2) rfl rfl ?_
 obtain ⟨⟨r0_3,s_7⟩,hx_3,h⟩:=bsome h
 refine r_callvS (zr:=[]) [0,1,2] trivial rfl (.clo _ _ _) (by kernel_rfl) rfl (k100 fr_ c_ hc_ 1000 r0 0 o0_K o0_bald mf s_ _ hx_3) ⟨rfl,rfl,rfl,trivial⟩ rfl rfl ⟨.refl _,.refl _,.refl _,.refl _,.refl _,trivial⟩ rfl rfl rfl ?_
 refine Fi ⟨[],[(0,.var 74 (kbm o0_K o0_bald mf))],3,(fr_ s_7),[],1⟩ ?_
 obtain rfl:=Option.some.inj h
 exact hN_0 _ (retX .nil (.refl _) rfl (by kernel_rfl) (by kernel_rfl))
def g108_3 (v:Int):Int→Int→Unit→Option (Ctl (Unit) (Int)):=fun v1 p _=>bif (decide (v=p)) then (some (.brk v1)) else (some (.next ()))
def g108 (s:(List Int)) (v:Int):Option Int:=bindC (eachC (g108_3 v) s 0 ()) fun _=>some (-1)
theorem k108 (s:(List Int)) (v:Int) (r:Int) (h:g108 s v=some r):SCall Tryd.prog Gs 108 [.d (q1 s),jI v] [] 0 Fr.emp (jI r) [] 0 Fr.emp:=by
 unfold g108 at h
 refine SCall.mkK Tryd.func108 c108 rfl rfl (by kernel_rfl) (fun Q_0 hR_0 hN_0=>?_)
 refine Sa (sT [(0,.d (q1 s)),(1,jI v)] [] 0 0) ?_
 refine AW.seqK fun K_1 hK_1=>AW.srwK fun Q_2 hQ_2=>?_
 refine Au 1 (sT [(0,.d (q1 s)),(1,jI v),(6,.d (q1 s))] [] 0 0) ?_
 refine rL rfl ?_
 refine Au 1 (sT [(0,.d (q1 s)),(1,jI v),(7,jI (s.length:Int)),(8,jI 0)] [] 0 0) ?_
 refine RW.nil (hQ_2 _ ?_)
 refine AW.block ?_
 refine AW.sln (t:=0) rfl (fun hN_3=>?_)
 rw [List.length_map] at hN_3
 obtain ⟨out_3,hx_3,hk_3⟩:=bsomeC h
 refine AW.evCK (fun (v1:Int) (_:Unit)=>(sT [(0,.d (q1 s)),(1,jI v),(7,jI (s.length:Int)),(8,jI v1)] [] 0 0)) (g108_3 v) hx_3 (Can.kp (by kernel_rfl)) (fun v1 p s_3 hi_3 hl_3 hp_3 c_3 h hb_3 K_3 hK_3=>?_) (fun v1 s_3 hi_3 hl_3 hout=>?_)
 ·unfold g108_3 at h
  refine Sa (sT [(0,.d (q1 s)),(1,jI v),(7,jI (s.length:Int)),(8,jI v1),(9,.d (.bool (decide (v1<(s.length:Int)))))] [] 0 0) ?_
  refine AW.seqK (fun K_4 hK_4=>?_)
  refine AW.cond rfl (fun hb_5=>?_) (fun hb_5=>False.elim (by have:=of_decide_eq_false hb_5;omega))
  refine AW.skip (hK_4 _ ?_)
  refine AW.seqK (fun K_6 hK_6=>?_)
  refine AW.block ?_
  refine Sa (sT [(0,.d (q1 s)),(1,jI v),(5,jI v1),(7,jI (s.length:Int)),(8,jI v1)] [] 0 0) ?_
  refine AW.srwK (fun Q_7 hQ_7=>?_)
  refine Au 3 (sT [(0,.d (q1 s)),(1,jI v),(5,jI v1),(7,jI (s.length:Int)),(8,jI v1),(11,jI v),(12,.d (q1 s)),(13,jI v1)] [] 0 0) ?_
  refine RW.one fokW (r_iaD trivial rfl rfl hi_3 (row:=e3 p) (mapget hp_3) (r_end ?_))
  refine Au 2 (sT [(0,.d (q1 s)),(1,jI v),(5,jI v1),(7,jI (s.length:Int)),(8,jI v1),(16,.d (.bool (decide (v=p))))] [] 0 0) ?_
  refine RW.nil (hQ_7 _ ?_)
  refine AW.cond rfl (fun hb_8=>?_) (fun hb_8=>?_)
  ·have h:=ifT hb_8 h
   refine Sa (sT [(4,jI v1)] [] 0 0) ?_
   obtain rfl:=Option.some.inj h
   have e_1:=hb_3 _ rfl
   subst e_1
   obtain rfl:=Aft.bk hk_3
   exact rT hR_0 (.cons (.tmp rfl) .nil)
  ·have h:=ifF hb_8 h
   refine AW.skip (hK_6 _ ?_)
   refine Ra (sT [(0,.d (q1 s)),(1,jI v),(7,jI (s.length:Int)),(8,jI (wr (v1+1)))] [] 0 0) ?_
   obtain rfl:=Option.some.inj h
   have ew:wr (v1+1)=v1+1:=inext (N:=(s.length:Int)) (by omega) (by omega) (by omega)
   rw [ew]
   exact hK_3 _ _ rfl (Can.kp (by kernel_rfl))
 ·subst hout
  have h:=Aft.nx hk_3
  refine Sa (sT [(0,.d (q1 s)),(1,jI v),(7,jI (s.length:Int)),(8,jI v1),(9,.d (.bool (decide (v1<(s.length:Int)))))] [] 0 0) ?_
  refine AW.seqK (fun K_9 hK_9=>?_)
  refine AW.cond rfl (fun hb_10=>False.elim (by have:=of_decide_eq_true hb_10;omega)) (fun hb_10=>?_)
  refine AW.exit ?_
  refine hK_1 _ ?_
  refine Sa (sT [(4,jI (-1))] [] 0 0) ?_
  obtain rfl:=Option.some.inj h
  exact rT hR_0 (.cons (.tmp rfl) .nil)
def g89 (s:(List Int)) (v:Int):Option Bool:=(g108 s v).bind fun r0_1=>some (decide (0≤r0_1))
theorem k89 (s:(List Int)) (v:Int) (r:Bool) (h:g89 s v=some r):SCall Tryd.prog Gs 89 [.d (q1 s),jI v] [] 0 Fr.emp (.d (.bool r)) [] 0 Fr.emp:=by
 unfold g89 at h
 refine SCall.mkK Tryd.func89 c89 rfl rfl (by kernel_rfl) (fun Q_0 hR_0 hN_0=>?_)
 refine Sa (sT [(0,.d (q1 s)),(1,jI v)] [] 0 0) ?_
 refine AW.srwK (fun Q_1 hQ_1=>?_)
 refine Au 2 (sT [(5,.d (q1 s)),(6,jI v)] [] 0 0) ?_
 obtain ⟨r0_1,hx_2,h⟩:=bsome h
 refine rC (k108 s v _ hx_2) ?_
 refine Au 2 (sT [(4,.d (.bool (decide (0≤r0_1))))] [] 0 0) ?_
 refine RW.nil (hQ_1 _ ?_)
 obtain rfl:=Option.some.inj h
 exact rT hR_0 (.cons (.tmp rfl) .nil)
def g102 (b_K:HarnessBook) (b_bald:(List Int)) (mf:List (Harness_want×Int)) (horse:Int):Option Bool:=(g89 b_bald horse).bind fun r0=>some (!r0)
theorem k102 (b_K:HarnessBook) (b_bald:(List Int)) (mf:List (Harness_want×Int)) (horse:Int) (r:Bool) (h:g102 b_K b_bald mf horse=some r):SCall Tryd.prog Gs 102 [.agg (kbm b_K b_bald mf),jI horse] [] 0 Fr.emp (.d (.bool r)) [] 0 Fr.emp:=by
 unfold g102 at h
 refine SCall.mkK Tryd.func102 c102 rfl rfl (by kernel_rfl) (fun Q_0 hR_0 hN_0=>?_)
 refine Sa (sT [(1,jI horse),pR 2 0] [(0,.var 74 (kbm b_K b_bald mf))] 1 0) ?_
 refine AW.srwK (fun Q_1 hQ_1=>?_)
 refine Au 3 (sT [(6,.d (q1 b_bald)),(7,jI horse)] [] 1 0) ?_
 obtain ⟨r0,hx_2,h⟩:=bsome h
 refine rC (k89 b_bald horse _ hx_2) ?_
 refine Au 2 (sT [(4,.d (.bool (!r0)))] [] 1 0) ?_
 refine RW.nil (hQ_1 _ ?_)
 obtain rfl:=Option.some.inj h
 exact rT hR_0 (.cons (.tmp rfl) .nil)
def g103_5 (mf:List (Harness_want×Int)) (horse:Int):Int→Span→(Nat→Int)→Option (Nat→Int):=fun v p out=>bif (true != ((horse==(-1))&&((v==(-1))&&true))) then ((ixN 3 v).bind fun j=>some (aset out j ((mget q126 mf (Harness_want.mk horse v)).getD 0))) else (some out)
def g103 (b_K:HarnessBook) (b_bald:(List Int)) (mf:List (Harness_want×Int)) (horse:Int):Option (Nat→Int):=(g101).bind fun r0=>(eachS (g103_5 mf horse) b_K.Stock 0 r0).bind fun out=>some out
def y22 (r0:Nat→Int) (b_K:HarnessBook) (b_bald:(List Int)) (mf:List (Harness_want×Int)):List (Nat×Blk):=[(2,.var 87 (ctv r0)),(1,.var 87 [jI 0,jI 0,jI 0]),(0,.var 74 (kbm b_K b_bald mf))]
def y23 (out:(Nat→Int)) (b_K:HarnessBook) (b_bald:(List Int)) (mf:List (Harness_want×Int)):List (Nat×Blk):=[(2,.var 87 (ctv out)),(1,.var 87 [jI 0,jI 0,jI 0]),(0,.var 74 (kbm b_K b_bald mf))]
theorem k103 (b_K:HarnessBook) (b_bald:(List Int)) (mf:List (Harness_want×Int)) (horse:Int) (r:(Nat→Int)) (h:g103 b_K b_bald mf horse=some r):SCall Tryd.prog Gs 103 [.agg (kbm b_K b_bald mf),jI horse] [] 0 Fr.emp (.agg (ctv r)) [] 0 Fr.emp:=by
 unfold g103 at h
 refine SCall.mkK Tryd.func103 c103 rfl rfl (by kernel_rfl) (fun Q_0 hR_0 hN_0=>?_)
 refine Sa (sT [(1,jI horse),pR 2 0,pR 4 1] [(1,.var 87 [jI 0,jI 0,jI 0]),(0,.var 74 (kbm b_K b_bald mf))] 2 0) ?_
 refine AW.srwK (fun Q_1 hQ_1=>?_)
 obtain ⟨r0,hx_2,h⟩:=bsome h
 refine rC (k101 _ hx_2) ?_
 refine Au 2 (sT [(1,jI horse),pR 2 0,pR 4 1,pR 5 2] (y22 r0 b_K b_bald mf) 3 0) ?_
 refine RW.nil (hQ_1 _ ?_)
 refine AW.seqK fun K_3 hK_3=>AW.srwK fun Q_4 hQ_4=>?_
 refine Au 3 (sT [(1,jI horse),pR 2 0,pR 4 1,pR 5 2,(11,.d (.sl 2 (List.map e37 b_K.Stock)))] (y22 r0 b_K b_bald mf) 3 0) ?_
 refine rL rfl ?_
 refine Au 1 (sT [(1,jI horse),pR 2 0,pR 4 1,pR 5 2,(12,jI (b_K.Stock.length:Int)),(13,jI 0)] (y22 r0 b_K b_bald mf) 3 0) ?_
 refine RW.nil (hQ_4 _ ?_)
 refine AW.block ?_
 refine AW.slh (r:=0) (off:=6) rfl rfl (fun hN_5=>?_)
 rw [List.length_map] at hN_5
 obtain ⟨out_5,hx_5,h⟩:=bsome h
 refine AW.evSK (fun (v:Int) (out:(Nat→Int))=>(sT [(1,jI horse),pR 2 0,pR 4 1,pR 5 2,(12,jI (b_K.Stock.length:Int)),(13,jI v)] (y23 out b_K b_bald mf) 3 0)) (g103_5 mf horse) hx_5 (Can.kp (by kernel_rfl)) (fun v p out hi_5 hl_5 hp_5 c_5 h K_5 hK_5=>?_) (fun v out hi_5 hl_5 hout=>?_)
 ·unfold g103_5 at h
  refine Sa (sT [(1,jI horse),pR 2 0,pR 4 1,pR 5 2,(12,jI (b_K.Stock.length:Int)),(13,jI v),(14,.d (.bool (decide (v<(b_K.Stock.length:Int)))))] (y23 out b_K b_bald mf) 3 0) ?_
  refine AW.seqK (fun K_6 hK_6=>?_)
  refine AW.cond rfl (fun hb_7=>?_) (fun hb_7=>False.elim (by have:=of_decide_eq_false hb_7;omega))
  refine AW.skip (hK_6 _ ?_)
  refine AW.seqK (fun K_8 hK_8=>?_)
  refine AW.block ?_
  refine Sa (sT [(1,jI horse),pR 2 0,pR 4 1,pR 5 2,(6,jI v),(12,jI (b_K.Stock.length:Int)),(13,jI v)] (y23 out b_K b_bald mf) 3 0) ?_
  refine Sa (sT [(1,jI horse),pR 2 0,pR 4 1,pR 5 2,(6,jI v),pR 7 3,(12,jI (b_K.Stock.length:Int)),(13,jI v)] [(3,.var 126 [jI horse,jI v]),(2,.var 87 (ctv out)),(1,.var 87 [jI 0,jI 0,jI 0]),(0,.var 74 (kbm b_K b_bald mf))] 4 0) ?_
  refine AW.srwK (fun Q_9 hQ_9=>?_)
  refine Au 2 (sT [(1,jI horse),pR 2 0,pR 4 1,pR 5 2,(6,jI v),pR 7 3,(12,jI (b_K.Stock.length:Int)),(13,jI v),(19,.agg [jI horse,jI v]),(20,.agg [jI (-1),jI (-1)])] [(3,.var 126 [jI horse,jI v]),(2,.var 87 (ctv out)),(1,.var 87 [jI 0,jI 0,jI 0]),(0,.var 74 (kbm b_K b_bald mf))] 4 0) ?_
  refine RW.one fokW (r_aeq trivial rfl rfl rfl rfl ft126 rfl rfl rfl (r_end ?_))
  refine RW.nil (hQ_9 _ ?_)
  refine AW.cond rfl (fun hb_10=>?_) (fun hb_10=>?_)
  ·have h:=ifT hb_10 h
   refine AW.rw ?_
   refine Au 4 (sT [(1,jI horse),pR 2 0,pR 4 1,pR 5 2,(12,jI (b_K.Stock.length:Int)),(13,jI v),(22,jI v),(24,.fmp (List.map m126_3 mf)),(25,.agg [jI horse,jI v])] (y23 out b_K b_bald mf) 4 0) ?_
   refine RW.one fokW (r_lookFC q126 e126 (fun x=>I x) mf (Harness_want.mk horse v) 0 trivial rfl rfl ft126 q126_ok (fun _=>rfl) rfl (r_end ?_))
   obtain ⟨j,hv_12,h⟩:=bsome h
   refine RW.one fokW (r_iaV trivial rfl rfl rfl (ixN_ok hv_12).1 (ixN_ok hv_12).2.1 (r_end ?_))
   refine RW.one fokW (r_stX trivial rfl rfl rfl rfl rfl (aslot hv_12 rfl) (cs':=[jI ((aset out j ((mget q126 mf (Harness_want.mk horse v)).getD 0)) 0),jI ((aset out j ((mget q126 mf (Harness_want.mk horse v)).getD 0)) 1),jI ((aset out j ((mget q126 mf (Harness_want.mk horse v)).getD 0)) 2)]) (ast (w:=out) (c:=fun z=>jI z) hv_12) (r_end ?_))
   refine RW.nil ?_
   refine hK_8 _ ?_
   refine Ra (sT [(1,jI horse),pR 2 0,pR 4 1,pR 5 2,(12,jI (b_K.Stock.length:Int)),(13,jI (wr (v+1)))] [(2,.var 87 [jI ((aset out j ((mget q126 mf (Harness_want.mk horse v)).getD 0)) 0),jI ((aset out j ((mget q126 mf (Harness_want.mk horse v)).getD 0)) 1),jI ((aset out j ((mget q126 mf (Harness_want.mk horse v)).getD 0)) 2)]),(1,.var 87 [jI 0,jI 0,jI 0]),(0,.var 74 (kbm b_K b_bald mf))] 4 0) ?_
   obtain rfl:=Option.some.inj h
   have ew:wr (v+1)=v+1:=inext (N:=(b_K.Stock.length:Int)) (by omega) (by omega) (by omega)
   rw [ew]
   exact hK_5 _ (Can.kp (by kernel_rfl))
  ·have h:=ifF hb_10 h
   refine AW.skip (hK_8 _ ?_)
   refine Ra (sT [(1,jI horse),pR 2 0,pR 4 1,pR 5 2,(12,jI (b_K.Stock.length:Int)),(13,jI (wr (v+1)))] (y23 out b_K b_bald mf) 4 0) ?_
   obtain rfl:=Option.some.inj h
   have ew:wr (v+1)=v+1:=inext (N:=(b_K.Stock.length:Int)) (by omega) (by omega) (by omega)
   rw [ew]
   exact hK_5 _ (Can.kp (by kernel_rfl))
 ·subst hout
  refine Sa (sT [(1,jI horse),pR 2 0,pR 4 1,pR 5 2,(12,jI (b_K.Stock.length:Int)),(13,jI v),(14,.d (.bool (decide (v<(b_K.Stock.length:Int)))))] (y23 out b_K b_bald mf) 3 0) ?_
  refine AW.seqK (fun K_13 hK_13=>?_)
  refine AW.cond rfl (fun hb_14=>False.elim (by have:=of_decide_eq_true hb_14;omega)) (fun hb_14=>?_)
  refine AW.exit ?_
  refine hK_3 _ ?_
  refine Sa (sT [pR 4 1] [(1,.var 87 (ctv out))] 3 0) ?_
  obtain rfl:=Option.some.inj h
  exact rT hR_0 (.cons (.agg rfl rfl (Nat.le_of_ble_eq_true rfl)) .nil)
def g73_31 (r0_1_1:(Nat→Int)):Int→Span→(Nat→Int)→Option (Nat→Int):=fun v2 p6 p5=>(ixN 3 v2).bind fun j2=>(ixN 3 v2).bind fun j3=>(ixN 3 v2).bind fun j4=>some (aset p5 j4 (wr ((p5 j2) - (r0_1_1 j3))))
def g73_17 (set_2:Int) (p1:(Nat→Int)) (r0_1_1:(Nat→Int)):Int→Span→Unit→Option (Ctl (Unit) (Int×(Nat→Int))):=fun v1 p4 _=>(g101).bind fun r0=>bif (true != (((r0_1_1 0)==(r0 0))&&(((r0_1_1 1)==(r0 1))&&(((r0_1_1 2)==(r0 2))&&true)))) then ((ixN 3 v1).bind fun j=>(ixN 3 v1).bind fun j1=>bif (decide ((p1 j1)<(r0_1_1 j))) then (some (.brk (set_2,p1))) else (some (.next ()))) else (some (.next ()))
def g73_4 (b_K:HarnessBook) (b_bald:(List Int)) (mf:List (Harness_want×Int)):Int→Int→(Int×(Nat→Int))→Option (Int×(Nat→Int)):=fun v p2 (set_2,p1)=>((g102 b_K b_bald mf p2).bind fun r0_1=>bif (!r0_1) then (some (set_2,p1)) else ((g103 b_K b_bald mf p2).bind fun r0_1_1=>bindC (eachC (g73_17 set_2 p1 r0_1_1) b_K.Stock 0 ()) fun _=>(eachS (g73_31 r0_1_1) b_K.Stock 0 p1).bind fun p5=>(must (decide (0≤p2))).bind fun _=>some ((bOr set_2 (shl64 1 p2)),p5))).bind fun (set_3,p3)=>some (set_3,p3)
def g73 (b_K:HarnessBook) (b_bald:(List Int)) (mf:List (Harness_want×Int)) (p:(Nat→Int)) (order:(List Int)):Option Int:=(((eachS (g73_4 b_K b_bald mf) order 0 (0,p)).bind fun (set_2,p1)=>some set_2).bind fun set_1=>some set_1).bind fun set_=>some set_
def y24 (r0_1_1:Nat→Int) (p1:Nat→Int) (b_K:HarnessBook) (b_bald:(List Int)) (mf:List (Harness_want×Int)):List (Nat×Blk):=[(2,.var 87 (ctv r0_1_1)),(1,.var 87 (ctv p1)),(0,.var 74 (kbm b_K b_bald mf))]
def y25 (r0_1_1:Nat→Int) (p5:(Nat→Int)) (b_K:HarnessBook) (b_bald:(List Int)) (mf:List (Harness_want×Int)):List (Nat×Blk):=[(2,.var 87 (ctv r0_1_1)),(1,.var 87 (ctv p5)),(0,.var 74 (kbm b_K b_bald mf))]
theorem k73 (b_K:HarnessBook) (b_bald:(List Int)) (mf:List (Harness_want×Int)) (p:(Nat→Int)) (order:(List Int)) (r:Int) (h:g73 b_K b_bald mf p order=some r):SCall Tryd.prog Gs 73 [.agg (kbm b_K b_bald mf),.agg (ctv p),.d (q1 order)] [] 0 Fr.emp (jI r) [] 0 Fr.emp:=by
 unfold g73 at h
 refine SCall.mkK Tryd.func73 c73 rfl rfl (by kernel_rfl) (fun Q_0 hR_0 hN_0=>?_)
 refine Sa (sT [(2,.d (q1 order)),pR 3 0,pR 4 1] [(1,.var 87 (ctv p)),(0,.var 74 (kbm b_K b_bald mf))] 2 0) ?_
 refine AW.scope ?_
 refine Sa (sT [(2,.d (q1 order)),pR 3 0,pR 4 1,(7,jI 0),(8,.clo 102 [.agg (kbm b_K b_bald mf)] [])] [(1,.var 87 (ctv p)),(0,.var 74 (kbm b_K b_bald mf))] 2 0) ?_
 refine AW.seq (AW.skip ?_)
 obtain ⟨set_,hx_1,h⟩:=bsome h
 refine AW.jnSK (fun (set_:Int)=>(sT [(7,jI set_)] [] 2 0)) (c:=set_) (fun K_1 hK_1=>?_) ?_
 ·have h:=hx_1
  refine AW.srwK (fun Q_2 hQ_2=>?_)
  refine Au 1 (sT [pR 3 0,pR 4 1,(7,jI 0),(8,.clo 102 [.agg (kbm b_K b_bald mf)] []),(16,.d (q1 order))] [(1,.var 87 (ctv p)),(0,.var 74 (kbm b_K b_bald mf))] 2 0) ?_
  refine rL rfl ?_
  refine Au 1 (sT [pR 3 0,pR 4 1,(7,jI 0),(8,.clo 102 [.agg (kbm b_K b_bald mf)] []),(16,.d (q1 order)),(17,jI (order.length:Int)),(18,jI 0)] [(1,.var 87 (ctv p)),(0,.var 74 (kbm b_K b_bald mf))] 2 0) ?_
  refine RW.nil (hQ_2 _ ?_)
  obtain ⟨set_1,hx_3,h⟩:=bsome h
  refine AW.jqSK (fun (set_1:Int)=>(sT [(7,jI set_1)] [] 2 0)) (c:=set_1) (fun K_3 hK_3=>?_) ?_
  ·have h:=hx_3
   refine AW.block ?_
   refine AW.sln (t:=16) rfl (fun hN_4=>?_)
   rw [List.length_map] at hN_4
   obtain ⟨out_4,hx_4,h⟩:=bsome h
   refine AW.evSK (fun (v:Int) (⟨set_2,p1⟩:Int×(Nat→Int))=>(sT [pR 3 0,pR 4 1,(7,jI set_2),(8,.clo 102 [.agg (kbm b_K b_bald mf)] []),(16,.d (q1 order)),(17,jI (order.length:Int)),(18,jI v)] [(1,.var 87 (ctv p1)),(0,.var 74 (kbm b_K b_bald mf))] 2 0)) (g73_4 b_K b_bald mf) hx_4 (Can.kp (by kernel_rfl)) (fun v p2 s_4 hi_4 hl_4 hp_4 c_4 h K_4 hK_4=>?_) (fun v s_4 hi_4 hl_4 hout=>?_)
   ·obtain ⟨set_2,p1⟩:=s_4
    unfold g73_4 at h
    refine Sa (sT [pR 3 0,pR 4 1,(7,jI set_2),(8,.clo 102 [.agg (kbm b_K b_bald mf)] []),(16,.d (q1 order)),(17,jI (order.length:Int)),(18,jI v),(19,.d (.bool (decide (v<(order.length:Int)))))] [(1,.var 87 (ctv p1)),(0,.var 74 (kbm b_K b_bald mf))] 2 0) ?_
    refine AW.seqK (fun K_5 hK_5=>?_)
    refine AW.cond rfl (fun hb_6=>?_) (fun hb_6=>False.elim (by have:=of_decide_eq_false hb_6;omega))
    refine AW.skip (hK_5 _ ?_)
    obtain ⟨c_7,hx_7,h⟩:=bsome h
    refine AW.jnSK (fun (⟨set_3,p3⟩:Int×(Nat→Int))=>(sT [pR 3 0,pR 4 1,(7,jI set_3),(8,.clo 102 [.agg (kbm b_K b_bald mf)] []),(16,.d (q1 order)),(17,jI (order.length:Int)),(18,jI v)] [(1,.var 87 (ctv p3)),(0,.var 74 (kbm b_K b_bald mf))] 2 0)) (c:=c_7) (fun K_7 hK_7=>?_) ?_
    ·have h:=hx_7
     refine AW.block ?_
     refine AW.srwK (fun Q_8 hQ_8=>?_)
     refine RW.one fokW (r_iaD trivial rfl rfl hi_4 (row:=e3 p2) (mapget hp_4) (r_end ?_))
     refine Au 2 (sT [pR 3 0,pR 4 1,(7,jI set_2),(8,.clo 102 [.agg (kbm b_K b_bald mf)] []),(10,jI p2),(16,.d (q1 order)),(17,jI (order.length:Int)),(18,jI v)] [(1,.var 87 (ctv p1)),(0,.var 74 (kbm b_K b_bald mf))] 2 0) ?_
     refine RW.nil (hQ_8 _ ?_)
     refine AW.seqK fun K_9 hK_9=>AW.srwK fun Q_10 hQ_10=>?_
     refine Au 2 (sT [pR 3 0,pR 4 1,(7,jI set_2),(8,.clo 102 [.agg (kbm b_K b_bald mf)] []),(10,jI p2),(16,.d (q1 order)),(17,jI (order.length:Int)),(18,jI v),(22,.clo 102 [.agg (kbm b_K b_bald mf)] []),(23,jI p2)] [(1,.var 87 (ctv p1)),(0,.var 74 (kbm b_K b_bald mf))] 2 0) ?_
     obtain ⟨r0_1,hx_11,h⟩:=bsome h
     refine RW.one fokW (r_callvZ (zr:=[]) trivial rfl (.clo _ _ _) (by kernel_rfl) rfl (k102 b_K b_bald mf p2 _ hx_11) trivial ⟨.refl _,.refl _,trivial⟩ rfl rfl rfl rfl (r_end ?_))
     refine Au 1 (sT [pR 3 0,pR 4 1,(7,jI set_2),(8,.clo 102 [.agg (kbm b_K b_bald mf)] []),(10,jI p2),(16,.d (q1 order)),(17,jI (order.length:Int)),(18,jI v),(25,.d (.bool (!r0_1)))] [(1,.var 87 (ctv p1)),(0,.var 74 (kbm b_K b_bald mf))] 2 0) ?_
     refine RW.nil (hQ_10 _ ?_)
     refine AW.cond rfl (fun hb_12=>?_) (fun hb_12=>?_)
     ·have h:=ifT hb_12 h
      refine AW.exit ?_
      obtain rfl:=Option.some.inj h
      exact hK_7 _ (Can.kp (by kernel_rfl))
     ·have h:=ifF hb_12 h
      refine AW.skip (hK_9 _ ?_)
      refine AW.srwK (fun Q_13 hQ_13=>?_)
      refine Au 2 (sT [pR 3 0,pR 4 1,(7,jI set_2),(8,.clo 102 [.agg (kbm b_K b_bald mf)] []),(10,jI p2),(16,.d (q1 order)),(17,jI (order.length:Int)),(18,jI v),(26,.agg (kbm b_K b_bald mf)),(27,jI p2)] [(1,.var 87 (ctv p1)),(0,.var 74 (kbm b_K b_bald mf))] 2 0) ?_
      obtain ⟨r0_1_1,hx_14,h⟩:=bsome h
      refine rC (k103 b_K b_bald mf p2 _ hx_14) ?_
      refine Au 2 (sT [pR 3 0,pR 4 1,(7,jI set_2),(8,.clo 102 [.agg (kbm b_K b_bald mf)] []),(10,jI p2),pR 11 2,(16,.d (q1 order)),(17,jI (order.length:Int)),(18,jI v)] (y24 r0_1_1 p1 b_K b_bald mf) 3 0) ?_
      refine RW.nil (hQ_13 _ ?_)
      refine AW.seqK fun K_15 hK_15=>AW.srwK fun Q_16 hQ_16=>?_
      refine Au 3 (sT [pR 3 0,pR 4 1,(7,jI set_2),(8,.clo 102 [.agg (kbm b_K b_bald mf)] []),(10,jI p2),pR 11 2,(16,.d (q1 order)),(17,jI (order.length:Int)),(18,jI v),(31,.d (.sl 2 (List.map e37 b_K.Stock)))] (y24 r0_1_1 p1 b_K b_bald mf) 3 0) ?_
      refine rL rfl ?_
      refine Au 1 (sT [pR 3 0,pR 4 1,(7,jI set_2),(8,.clo 102 [.agg (kbm b_K b_bald mf)] []),(10,jI p2),pR 11 2,(16,.d (q1 order)),(17,jI (order.length:Int)),(18,jI v),(32,jI (b_K.Stock.length:Int)),(33,jI 0)] (y24 r0_1_1 p1 b_K b_bald mf) 3 0) ?_
      refine RW.nil (hQ_16 _ ?_)
      refine AW.block ?_
      refine AW.slh (r:=0) (off:=6) rfl rfl (fun hN_17=>?_)
      rw [List.length_map] at hN_17
      obtain ⟨out_17,hx_17,hk_17⟩:=bsomeC h
      refine AW.evCK (fun (v1:Int) (_:Unit)=>(sT [pR 3 0,pR 4 1,(7,jI set_2),(8,.clo 102 [.agg (kbm b_K b_bald mf)] []),(10,jI p2),pR 11 2,(16,.d (q1 order)),(17,jI (order.length:Int)),(18,jI v),(32,jI (b_K.Stock.length:Int)),(33,jI v1)] (y24 r0_1_1 p1 b_K b_bald mf) 3 0)) (g73_17 set_2 p1 r0_1_1) hx_17 (Can.kp (by kernel_rfl)) (fun v1 p4 s_17 hi_17 hl_17 hp_17 c_17 h hb_17 K_17 hK_17=>?_) (fun v1 s_17 hi_17 hl_17 hout=>?_)
      ·unfold g73_17 at h
       refine Sa (sT [pR 3 0,pR 4 1,(7,jI set_2),(8,.clo 102 [.agg (kbm b_K b_bald mf)] []),(10,jI p2),pR 11 2,(16,.d (q1 order)),(17,jI (order.length:Int)),(18,jI v),(32,jI (b_K.Stock.length:Int)),(33,jI v1),(34,.d (.bool (decide (v1<(b_K.Stock.length:Int)))))] (y24 r0_1_1 p1 b_K b_bald mf) 3 0) ?_
       refine AW.seqK (fun K_18 hK_18=>?_)
       refine AW.cond rfl (fun hb_19=>?_) (fun hb_19=>False.elim (by have:=of_decide_eq_false hb_19;omega))
       refine AW.skip (hK_18 _ ?_)
       refine AW.seqK (fun K_20 hK_20=>?_)
       refine AW.block ?_
       refine Sa (sT [pR 3 0,pR 4 1,(7,jI set_2),(8,.clo 102 [.agg (kbm b_K b_bald mf)] []),(10,jI p2),pR 11 2,(12,jI v1),(16,.d (q1 order)),(17,jI (order.length:Int)),(18,jI v),(32,jI (b_K.Stock.length:Int)),(33,jI v1)] (y24 r0_1_1 p1 b_K b_bald mf) 3 0) ?_
       refine AW.sdrwK fokW (fun Q_21 hQ_21=>?_)
       refine aX 1 (sT [pR 3 0,pR 4 1,(7,jI set_2),(8,.clo 102 [.agg (kbm b_K b_bald mf)] []),(10,jI p2),pR 11 2,(12,jI v1),(16,.d (q1 order)),(17,jI (order.length:Int)),(18,jI v),(32,jI (b_K.Stock.length:Int)),(33,jI v1),(36,.agg (ctv r0_1_1))] (y24 r0_1_1 p1 b_K b_bald mf) 3 0) ?_
       obtain ⟨r0,hx_22,h⟩:=bsome h
       refine r_call trivial rfl (k101 _ hx_22) rfl rfl ?_
       refine r_aeq trivial rfl rfl rfl rfl ft87 rfl rfl rfl ?_
       refine aX 1 (sT [pR 3 0,pR 4 1,(7,jI set_2),(8,.clo 102 [.agg (kbm b_K b_bald mf)] []),(10,jI p2),pR 11 2,(12,jI v1),(16,.d (q1 order)),(17,jI (order.length:Int)),(18,jI v),(32,jI (b_K.Stock.length:Int)),(33,jI v1),(39,.d (.bool (true != (((r0_1_1 0)==(r0 0))&&(((r0_1_1 1)==(r0 1))&&(((r0_1_1 2)==(r0 2))&&true))))))] (y24 r0_1_1 p1 b_K b_bald mf) 3 0) ?_
       refine r_split 39 rfl (fun hb_23=>?_) (fun hb_23=>?_)
       ·have h:=ifT hb_23 h
        refine aX 1 (sT [pR 3 0,pR 4 1,(7,jI set_2),(8,.clo 102 [.agg (kbm b_K b_bald mf)] []),(10,jI p2),pR 11 2,(12,jI v1),(16,.d (q1 order)),(17,jI (order.length:Int)),(18,jI v),(32,jI (b_K.Stock.length:Int)),(33,jI v1),(39,.d (.bool true)),(40,jI v1)] (y24 r0_1_1 p1 b_K b_bald mf) 3 0) ?_
        obtain ⟨j,hv_24,h⟩:=bsome h
        refine r_iaV rfl rfl rfl rfl (ixN_ok hv_24).1 (ixN_ok hv_24).2.1 ?_
        refine r_loadV rfl rfl rfl (u:=jI (r0_1_1 j)) (agt (f:=fun k=>jI (r0_1_1 k)) hv_24) ?_
        refine aX 1 (sT [pR 3 0,pR 4 1,(7,jI set_2),(8,.clo 102 [.agg (kbm b_K b_bald mf)] []),(10,jI p2),pR 11 2,(16,.d (q1 order)),(17,jI (order.length:Int)),(18,jI v),(32,jI (b_K.Stock.length:Int)),(33,jI v1),(39,.d (.bool true)),(42,jI (r0_1_1 j)),(43,jI v1)] (y24 r0_1_1 p1 b_K b_bald mf) 3 0) ?_
        obtain ⟨j1,hv_25,h⟩:=bsome h
        refine r_iaV rfl rfl rfl rfl (ixN_ok hv_25).1 (ixN_ok hv_25).2.1 ?_
        refine r_loadV rfl rfl rfl (u:=jI (p1 j1)) (agt (f:=fun k=>jI (p1 k)) hv_25) ?_
        refine aX 2 (sT [pR 3 0,pR 4 1,(7,jI set_2),(8,.clo 102 [.agg (kbm b_K b_bald mf)] []),(10,jI p2),pR 11 2,(16,.d (q1 order)),(17,jI (order.length:Int)),(18,jI v),(32,jI (b_K.Stock.length:Int)),(33,jI v1),(47,.d (.bool (decide ((p1 j1)<(r0_1_1 j)))))] (y24 r0_1_1 p1 b_K b_bald mf) 3 0) ?_
        refine Fi (sT [pR 3 0,pR 4 1,(7,jI set_2),(8,.clo 102 [.agg (kbm b_K b_bald mf)] []),(10,jI p2),pR 11 2,(16,.d (q1 order)),(17,jI (order.length:Int)),(18,jI v),(32,jI (b_K.Stock.length:Int)),(33,jI v1),(47,.d (.bool (decide ((p1 j1)<(r0_1_1 j)))))] (y24 r0_1_1 p1 b_K b_bald mf) 3 0) ?_
        refine hQ_21 _ ?_
        refine AW.cond rfl (fun hb_26=>?_) (fun hb_26=>?_)
        ·have h:=ifT hb_26 h
         refine AW.exit ?_
         obtain rfl:=Option.some.inj h
         have e_5:=hb_17 _ rfl
         subst e_5
         obtain rfl:=Aft.bk hk_17
         exact hK_7 _ (Can.kp (by kernel_rfl))
        ·have h:=ifF hb_26 h
         refine AW.skip (hK_20 _ ?_)
         refine Ra (sT [pR 3 0,pR 4 1,(7,jI set_2),(8,.clo 102 [.agg (kbm b_K b_bald mf)] []),(10,jI p2),pR 11 2,(16,.d (q1 order)),(17,jI (order.length:Int)),(18,jI v),(32,jI (b_K.Stock.length:Int)),(33,jI (wr (v1+1)))] (y24 r0_1_1 p1 b_K b_bald mf) 3 0) ?_
         obtain rfl:=Option.some.inj h
         have ew:wr (v1+1)=v1+1:=inext (N:=(b_K.Stock.length:Int)) (by omega) (by omega) (by omega)
         rw [ew]
         exact hK_17 _ _ rfl (Can.kp (by kernel_rfl))
       ·have h:=ifF hb_23 h
        refine aX 8 (sT [pR 3 0,pR 4 1,(7,jI set_2),(8,.clo 102 [.agg (kbm b_K b_bald mf)] []),(10,jI p2),pR 11 2,(16,.d (q1 order)),(17,jI (order.length:Int)),(18,jI v),(32,jI (b_K.Stock.length:Int)),(33,jI v1),(47,.d (.bool false))] (y24 r0_1_1 p1 b_K b_bald mf) 3 0) ?_
        refine Fi (sT [pR 3 0,pR 4 1,(7,jI set_2),(8,.clo 102 [.agg (kbm b_K b_bald mf)] []),(10,jI p2),pR 11 2,(16,.d (q1 order)),(17,jI (order.length:Int)),(18,jI v),(32,jI (b_K.Stock.length:Int)),(33,jI v1),(47,.d (.bool false))] (y24 r0_1_1 p1 b_K b_bald mf) 3 0) ?_
        refine hQ_21 _ ?_
        refine AW.condF rfl ?_
        refine AW.skip (hK_20 _ ?_)
        refine Ra (sT [pR 3 0,pR 4 1,(7,jI set_2),(8,.clo 102 [.agg (kbm b_K b_bald mf)] []),(10,jI p2),pR 11 2,(16,.d (q1 order)),(17,jI (order.length:Int)),(18,jI v),(32,jI (b_K.Stock.length:Int)),(33,jI (wr (v1+1)))] (y24 r0_1_1 p1 b_K b_bald mf) 3 0) ?_
        obtain rfl:=Option.some.inj h
        have ew:wr (v1+1)=v1+1:=inext (N:=(b_K.Stock.length:Int)) (by omega) (by omega) (by omega)
        rw [ew]
        exact hK_17 _ _ rfl (Can.kp (by kernel_rfl))
      ·subst hout
       have h:=Aft.nx hk_17
       refine Sa (sT [pR 3 0,pR 4 1,(7,jI set_2),(8,.clo 102 [.agg (kbm b_K b_bald mf)] []),(10,jI p2),pR 11 2,(16,.d (q1 order)),(17,jI (order.length:Int)),(18,jI v),(32,jI (b_K.Stock.length:Int)),(33,jI v1),(34,.d (.bool (decide (v1<(b_K.Stock.length:Int)))))] (y24 r0_1_1 p1 b_K b_bald mf) 3 0) ?_
       refine AW.seqK (fun K_27 hK_27=>?_)
       refine AW.cond rfl (fun hb_28=>False.elim (by have:=of_decide_eq_true hb_28;omega)) (fun hb_28=>?_)
       refine AW.exit ?_
       refine hK_15 _ ?_
       refine AW.seqK fun K_29 hK_29=>AW.srwK fun Q_30 hQ_30=>?_
       refine Au 3 (sT [pR 3 0,pR 4 1,(7,jI set_2),(8,.clo 102 [.agg (kbm b_K b_bald mf)] []),(10,jI p2),pR 11 2,(16,.d (q1 order)),(17,jI (order.length:Int)),(18,jI v),(51,.d (.sl 2 (List.map e37 b_K.Stock)))] (y24 r0_1_1 p1 b_K b_bald mf) 3 0) ?_
       refine rL rfl ?_
       refine Au 1 (sT [pR 3 0,pR 4 1,(7,jI set_2),(8,.clo 102 [.agg (kbm b_K b_bald mf)] []),(10,jI p2),pR 11 2,(16,.d (q1 order)),(17,jI (order.length:Int)),(18,jI v),(52,jI (b_K.Stock.length:Int)),(53,jI 0)] (y24 r0_1_1 p1 b_K b_bald mf) 3 0) ?_
       refine RW.nil (hQ_30 _ ?_)
       refine AW.block ?_
       refine AW.slh (r:=0) (off:=6) rfl rfl (fun hN_31=>?_)
       rw [List.length_map] at hN_31
       obtain ⟨out_31,hx_31,h⟩:=bsome h
       refine AW.evSK (fun (v2:Int) (p5:(Nat→Int))=>(sT [pR 3 0,pR 4 1,(7,jI set_2),(8,.clo 102 [.agg (kbm b_K b_bald mf)] []),(10,jI p2),pR 11 2,(16,.d (q1 order)),(17,jI (order.length:Int)),(18,jI v),(52,jI (b_K.Stock.length:Int)),(53,jI v2)] (y25 r0_1_1 p5 b_K b_bald mf) 3 0)) (g73_31 r0_1_1) hx_31 (Can.kp (by kernel_rfl)) (fun v2 p6 p5 hi_31 hl_31 hp_31 c_31 h K_31 hK_31=>?_) (fun v2 p5 hi_31 hl_31 hout=>?_)
       ·unfold g73_31 at h
        refine Sa (sT [pR 3 0,pR 4 1,(7,jI set_2),(8,.clo 102 [.agg (kbm b_K b_bald mf)] []),(10,jI p2),pR 11 2,(16,.d (q1 order)),(17,jI (order.length:Int)),(18,jI v),(52,jI (b_K.Stock.length:Int)),(53,jI v2),(54,.d (.bool (decide (v2<(b_K.Stock.length:Int)))))] (y25 r0_1_1 p5 b_K b_bald mf) 3 0) ?_
        refine AW.seqK (fun K_32 hK_32=>?_)
        refine AW.cond rfl (fun hb_33=>?_) (fun hb_33=>False.elim (by have:=of_decide_eq_false hb_33;omega))
        refine AW.skip (hK_32 _ ?_)
        refine AW.seqK (fun K_34 hK_34=>?_)
        refine AW.block ?_
        refine Sa (sT [pR 3 0,pR 4 1,(7,jI set_2),(8,.clo 102 [.agg (kbm b_K b_bald mf)] []),(10,jI p2),pR 11 2,(13,jI v2),(16,.d (q1 order)),(17,jI (order.length:Int)),(18,jI v),(52,jI (b_K.Stock.length:Int)),(53,jI v2)] (y25 r0_1_1 p5 b_K b_bald mf) 3 0) ?_
        refine AW.drw fokW ?_
        refine aX 1 (sT [pR 3 0,pR 4 1,(7,jI set_2),(8,.clo 102 [.agg (kbm b_K b_bald mf)] []),(10,jI p2),pR 11 2,(13,jI v2),(16,.d (q1 order)),(17,jI (order.length:Int)),(18,jI v),(52,jI (b_K.Stock.length:Int)),(53,jI v2),(56,jI v2)] (y25 r0_1_1 p5 b_K b_bald mf) 3 0) ?_
        obtain ⟨j2,hv_36,h⟩:=bsome h
        refine r_iaV trivial rfl rfl rfl (ixN_ok hv_36).1 (ixN_ok hv_36).2.1 ?_
        refine r_loadV trivial rfl rfl (u:=jI (p5 j2)) (agt (f:=fun k=>jI (p5 k)) hv_36) ?_
        refine aX 1 (sT [pR 3 0,pR 4 1,(7,jI set_2),(8,.clo 102 [.agg (kbm b_K b_bald mf)] []),(10,jI p2),pR 11 2,(16,.d (q1 order)),(17,jI (order.length:Int)),(18,jI v),(52,jI (b_K.Stock.length:Int)),(53,jI v2),(56,jI v2),(58,jI (p5 j2)),(59,jI v2)] (y25 r0_1_1 p5 b_K b_bald mf) 3 0) ?_
        obtain ⟨j3,hv_37,h⟩:=bsome h
        refine r_iaV trivial rfl rfl rfl (ixN_ok hv_37).1 (ixN_ok hv_37).2.1 ?_
        refine r_loadV trivial rfl rfl (u:=jI (r0_1_1 j3)) (agt (f:=fun k=>jI (r0_1_1 k)) hv_37) ?_
        refine aX 1 (sT [pR 3 0,pR 4 1,(7,jI set_2),(8,.clo 102 [.agg (kbm b_K b_bald mf)] []),(10,jI p2),pR 11 2,(16,.d (q1 order)),(17,jI (order.length:Int)),(18,jI v),(52,jI (b_K.Stock.length:Int)),(53,jI v2),(56,jI v2),(62,jI (wr ((p5 j2) - (r0_1_1 j3))))] (y25 r0_1_1 p5 b_K b_bald mf) 3 0) ?_
        obtain ⟨j4,hv_38,h⟩:=bsome h
        refine r_iaV trivial rfl rfl rfl (ixN_ok hv_38).1 (ixN_ok hv_38).2.1 ?_
        refine r_stX trivial rfl rfl rfl rfl rfl (aslot hv_38 rfl) (cs':=[jI ((aset p5 j4 (wr ((p5 j2) - (r0_1_1 j3)))) 0),jI ((aset p5 j4 (wr ((p5 j2) - (r0_1_1 j3)))) 1),jI ((aset p5 j4 (wr ((p5 j2) - (r0_1_1 j3)))) 2)]) (ast (w:=p5) (c:=fun z=>jI z) hv_38) ?_
        refine Fi (sT [pR 3 0,pR 4 1,(7,jI set_2),(8,.clo 102 [.agg (kbm b_K b_bald mf)] []),(10,jI p2),pR 11 2,(16,.d (q1 order)),(17,jI (order.length:Int)),(18,jI v),(52,jI (b_K.Stock.length:Int)),(53,jI v2)] [(1,.var 87 [jI ((aset p5 j4 (wr ((p5 j2) - (r0_1_1 j3)))) 0),jI ((aset p5 j4 (wr ((p5 j2) - (r0_1_1 j3)))) 1),jI ((aset p5 j4 (wr ((p5 j2) - (r0_1_1 j3)))) 2)]),(2,.var 87 (ctv r0_1_1)),(0,.var 74 (kbm b_K b_bald mf))] 3 0) ?_
        refine hK_34 _ ?_
        refine Ra (sT [pR 3 0,pR 4 1,(7,jI set_2),(8,.clo 102 [.agg (kbm b_K b_bald mf)] []),(10,jI p2),pR 11 2,(16,.d (q1 order)),(17,jI (order.length:Int)),(18,jI v),(52,jI (b_K.Stock.length:Int)),(53,jI (wr (v2+1)))] [(1,.var 87 [jI ((aset p5 j4 (wr ((p5 j2) - (r0_1_1 j3)))) 0),jI ((aset p5 j4 (wr ((p5 j2) - (r0_1_1 j3)))) 1),jI ((aset p5 j4 (wr ((p5 j2) - (r0_1_1 j3)))) 2)]),(2,.var 87 (ctv r0_1_1)),(0,.var 74 (kbm b_K b_bald mf))] 3 0) ?_
        obtain rfl:=Option.some.inj h
        have ew:wr (v2+1)=v2+1:=inext (N:=(b_K.Stock.length:Int)) (by omega) (by omega) (by omega)
        rw [ew]
        exact hK_31 _ (Can.kp (by kernel_rfl))
       ·subst hout
        refine Sa (sT [pR 3 0,pR 4 1,(7,jI set_2),(8,.clo 102 [.agg (kbm b_K b_bald mf)] []),(10,jI p2),pR 11 2,(16,.d (q1 order)),(17,jI (order.length:Int)),(18,jI v),(52,jI (b_K.Stock.length:Int)),(53,jI v2),(54,.d (.bool (decide (v2<(b_K.Stock.length:Int)))))] (y25 r0_1_1 p5 b_K b_bald mf) 3 0) ?_
        refine AW.seqK (fun K_39 hK_39=>?_)
        refine AW.cond rfl (fun hb_40=>False.elim (by have:=of_decide_eq_true hb_40;omega)) (fun hb_40=>?_)
        refine AW.exit ?_
        refine hK_29 _ ?_
        refine AW.rw ?_
        refine Au 2 (sT [pR 3 0,pR 4 1,(8,.clo 102 [.agg (kbm b_K b_bald mf)] []),(16,.d (q1 order)),(17,jI (order.length:Int)),(18,jI v),(65,jI set_2),(66,jI p2)] [(1,.var 87 (ctv p5)),(0,.var 74 (kbm b_K b_bald mf))] 3 0) ?_
        obtain ⟨_,hv_42,h⟩:=bsome h
        refine RW.one fokW (r_sh trivial rfl rfl (shl64_ok (of_decide_eq_true (must_ok hv_42))) (r_end ?_))
        refine Au 2 (sT [pR 3 0,pR 4 1,(7,jI (bOr set_2 (shl64 1 p2))),(8,.clo 102 [.agg (kbm b_K b_bald mf)] []),(16,.d (q1 order)),(17,jI (order.length:Int)),(18,jI v)] [(1,.var 87 (ctv p5)),(0,.var 74 (kbm b_K b_bald mf))] 3 0) ?_
        refine RW.nil ?_
        obtain rfl:=Option.some.inj h
        exact hK_7 _ (Can.kp (by kernel_rfl))
    ·obtain ⟨set_3,p3⟩:=c_7
     refine Ra (sT [pR 3 0,pR 4 1,(7,jI set_3),(8,.clo 102 [.agg (kbm b_K b_bald mf)] []),(16,.d (q1 order)),(17,jI (order.length:Int)),(18,jI (wr (v+1)))] [(1,.var 87 (ctv p3)),(0,.var 74 (kbm b_K b_bald mf))] 2 0) ?_
     obtain rfl:=Option.some.inj h
     have ew:wr (v+1)=v+1:=inext (N:=(order.length:Int)) (by omega) (by omega) (by omega)
     rw [ew]
     exact hK_4 _ (Can.kp (by kernel_rfl))
   ·obtain ⟨set_2,p1⟩:=s_4
    subst hout
    refine Sa (sT [pR 3 0,pR 4 1,(7,jI set_2),(8,.clo 102 [.agg (kbm b_K b_bald mf)] []),(16,.d (q1 order)),(17,jI (order.length:Int)),(18,jI v),(19,.d (.bool (decide (v<(order.length:Int)))))] [(1,.var 87 (ctv p1)),(0,.var 74 (kbm b_K b_bald mf))] 2 0) ?_
    refine AW.seqK (fun K_43 hK_43=>?_)
    refine AW.cond rfl (fun hb_44=>False.elim (by have:=of_decide_eq_true hb_44;omega)) (fun hb_44=>?_)
    refine AW.exit ?_
    obtain rfl:=Option.some.inj h
    exact hK_3 _ (Can.kp (by kernel_rfl))
  ·obtain rfl:=Option.some.inj h
   exact hK_1 _ (Can.kp (by kernel_rfl))
 ·refine Sa (sT [(6,jI set_)] [] 2 0) ?_
  obtain rfl:=Option.some.inj h
  exact rT hR_0 (.cons (.tmp rfl) .nil)
def g60_r6 (b_K:HarnessBook) (b_bald:(List Int)) (mf:List (Harness_want×Int)) (order:(List Int)):((Nat→Int))→(Int×Int)→Option (Ctl (Int×Int) (Unit)):=fun a (v,v1)=>(g73 b_K b_bald mf a order).bind fun r0_2=>some (.next ((bAnd v r0_2),(bOr v1 r0_2)))
def g60 (b_K:HarnessBook) (b_bald:(List Int)) (mf:List (Harness_want×Int)) (order:(List Int)):Option (Int×Int):=(must (decide (0≤(b_K.Needs.length:Int)))).bind fun _=>(g72 b_K b_bald mf).bind fun (o0_K,o0_bald,mf1)=>(g99 (fun a s=>rndC (g60_r6 b_K b_bald mf order) a s) o0_K o0_bald mf1 (.next ((wr ((shl64 1 (b_K.Needs.length:Int)) - 1)),0))).bind fun out_6=>match out_6 with | .next (v,v1)=>some (v,v1) | .brk _=>none
theorem k60 (b_K:HarnessBook) (b_bald:(List Int)) (mf:List (Harness_want×Int)) (order:(List Int)) (r:Int×Int) (h:g60 b_K b_bald mf order=some r):SCall Tryd.prog Gs 60 [.agg (kbm b_K b_bald mf),.d (q1 order)] [] 0 Fr.emp (match r with | (surely,perhaps)=>.tup [jI surely,jI perhaps]) [] 0 Fr.emp:=by
 unfold g60 at h
 refine SCall.mkK Tryd.func60 c60 rfl rfl (by kernel_rfl) (fun Q_0 hR_0 hN_0=>?_)
 refine Sa (sT [pR 2 0,pR 3 1,pR 4 2,pR 5 3] [(3,.var 3 [jI 0]),(2,.var 3 [jI 0]),(1,.var 30 [.d (q1 order)]),(0,.var 74 (kbm b_K b_bald mf))] 4 0) ?_
 refine AW.srwK (fun Q_1 hQ_1=>?_)
 refine Au 3 (sT [pR 2 0,pR 3 1,pR 4 2,pR 5 3,(10,.d (.sl 1 (List.map e30 b_K.Needs)))] [(3,.var 3 [jI 0]),(2,.var 3 [jI 0]),(1,.var 30 [.d (q1 order)]),(0,.var 74 (kbm b_K b_bald mf))] 4 0) ?_
 refine rL rfl ?_
 obtain ⟨_,hv_2,h⟩:=bsome h
 refine RW.one fokW (r_sh trivial rfl rfl (shl64_ok (of_decide_eq_true (must_ok hv_2))) (r_end ?_))
 refine Au 2 (sT [pR 2 0,pR 3 1,pR 4 2,pR 5 3] [(2,.var 3 [jI (wr ((shl64 1 (b_K.Needs.length:Int)) - 1))]),(3,.var 3 [jI 0]),(1,.var 30 [.d (q1 order)]),(0,.var 74 (kbm b_K b_bald mf))] 4 0) ?_
 refine RW.nil (hQ_1 _ ?_)
 refine AW.seqK fun K_3 hK_3=>AW.srwK fun Q_4 hQ_4=>?_
 refine Au 1 (sT [pR 2 0,pR 3 1,pR 4 2,pR 5 3,(14,.agg (kbm b_K b_bald mf))] [(2,.var 3 [jI (wr ((shl64 1 (b_K.Needs.length:Int)) - 1))]),(3,.var 3 [jI 0]),(1,.var 30 [.d (q1 order)]),(0,.var 74 (kbm b_K b_bald mf))] 4 0) ?_
 obtain ⟨⟨o0_K,o0_bald,mf1⟩,hx_5,h⟩:=bsome h
 refine RW.one fokW (r_callS (zr:=[]) [] trivial rfl (k72 b_K b_bald mf _ hx_5) trivial rfl rfl ⟨.refl _,trivial⟩ rfl rfl rfl (r_end ?_))
 refine RW.nil (hQ_4 _ ?_)
 refine AW.block ?_
 obtain ⟨out_6,hx_6,h⟩:=bsome h
 refine AW.rfX (fun (⟨v,v1⟩:Int×Int)=>[(5,.dm),(2,.var 3 [jI v]),(3,.var 3 [jI v1]),(1,.var 30 [.d (q1 order)]),(0,.var 74 (kbm b_K b_bald mf))]) (fun (_:Unit)=>[]) (fun _=>some .ret) (g60_r6 b_K b_bald mf order) (fun (a:(Nat→Int))=>[.agg (ctv a)]) (s0:=((wr ((shl64 1 (b_K.Needs.length:Int)) - 1)),0)) (out:=out_6) [pR 2 0,pR 3 1,pR 4 2,pR 5 3] [(2,.var 3 [jI (wr ((shl64 1 (b_K.Needs.length:Int)) - 1))]),(3,.var 3 [jI 0]),(1,.var 30 [.d (q1 order)]),(0,.var 74 (kbm b_K b_bald mf))] [4] rfl (.clo _ _ _) (by kernel_rfl) (by kernel_rfl) (fun fr_ hY_6=>k99 fr_ _ (fun a s s2 b h=>hY_6 a s s2 b h) o0_K o0_bald mf1 (.next ((wr ((shl64 1 (b_K.Needs.length:Int)) - 1)),0)) _ hx_6) (by kernel_rfl) ⟨rfl,trivial⟩ rfl ⟨rfl,rfl⟩ rfl rfl (fun _=>rfl) (fun _=>rfl) (fun a_6 s_6 c_6 h l_6=>?_) (fun _=>rfl) ?_
 ·have ⟨a,e_6⟩:∃ x,x=a_6:=⟨_,rfl⟩
  subst e_6
  obtain ⟨v,v1⟩:=s_6
  unfold g60_r6 at h
  refine AW.ra (fokR l_6) [] (sT [pR 2 0,pR 3 1,pR 4 2,pR 5 3,pR 6 6] [(6,.var 87 (ctv a)),(5,.dm),(2,.var 3 [jI v]),(3,.var 3 [jI v1]),(1,.var 30 [.d (q1 order)]),(0,.var 74 (kbm b_K b_bald mf))] 7 6) (by kernel_rfl) ?_
  refine AW.block ?_
  refine AW.srwK (fun Q_7 hQ_7=>?_)
  refine RW.au (fokR l_6) 3 [] (sT [pR 4 2,pR 5 3,(17,.agg (kbm b_K b_bald mf)),(18,.agg (ctv a)),(19,.d (q1 order))] [(5,.dm),(2,.var 3 [jI v]),(3,.var 3 [jI v1]),(1,.var 30 [.d (q1 order)]),(0,.var 74 (kbm b_K b_bald mf))] 7 6) (by kernel_rfl) ?_
  obtain ⟨r0_2,hx_8,h⟩:=bsome h
  refine RW.one (fokR l_6) (r_call trivial rfl (k73 b_K b_bald mf a order _ hx_8) rfl rfl (r_end ?_))
  refine RW.au (fokR l_6) 1 [] (sT [pR 4 2,pR 5 3,(7,jI r0_2)] [(5,.dm),(2,.var 3 [jI v]),(3,.var 3 [jI v1]),(1,.var 30 [.d (q1 order)]),(0,.var 74 (kbm b_K b_bald mf))] 7 6) (by kernel_rfl) ?_
  refine RW.nil (hQ_7 _ ?_)
  refine AW.ra (fokR l_6) [] (sT [] [(3,.var 3 [jI (bOr v1 r0_2)]),(2,.var 3 [jI (bAnd v r0_2)]),(5,.dm),(1,.var 30 [.d (q1 order)]),(0,.var 74 (kbm b_K b_bald mf))] 7 6) (by kernel_rfl) ?_
  obtain rfl:=Option.some.inj h
  exact ⟨(sT [] [(5,.dm),(2,.var 3 [jI (bAnd v r0_2)]),(3,.var 3 [jI (bOr v1 r0_2)]),(1,.var 30 [.d (q1 order)]),(0,.var 74 (kbm b_K b_bald mf))] 6 6),Can.kp (by kernel_rfl),rdX trivial rfl (by kernel_rfl) (by kernel_rfl)⟩
 ·rcases out_6 with ⟨v,v1⟩ | _
  ·refine hK_3 _ ?_
   refine Sa ⟨[pR 4 2,pR 5 3],[(3,.var 3 [jI v1]),(2,.var 3 [jI v]),(5,.dm)],6,Fr.emp,[5],0⟩ ?_
   obtain rfl:=Option.some.inj h
   exact rT hR_0 (.cons (.one rfl rfl rfl) (.cons (.one rfl rfl rfl) .nil))
  ·cases h
def g62_3 (set_:Int):Int→(List Int)→(List Int)→Option (List Int):=fun v p l=>(must (decide (0≤v))).bind fun _=>bif (decide ((bAnd (shr64 set_ v) 1)=1)) then ((appL 8 l [v]).bind fun l1=>some l1) else (some l)
def g62 (b_K:HarnessBook) (b_bald:(List Int)) (mf:List (Harness_want×Int)) (set_:Int):Option (List Int):=(must (decide ((b_K.Needs.length:Int)≤9223372036854775807))).bind fun _=>(eachS (g62_3 set_) b_K.Needs 0 ([]:List Int)).bind fun l=>(slcL l 0 (l.length:Int)).bind fun l2=>some l2
theorem k62 (b_K:HarnessBook) (b_bald:(List Int)) (mf:List (Harness_want×Int)) (set_:Int) (r:(List Int)) (h:g62 b_K b_bald mf set_=some r):SCall Tryd.prog Gs 62 [.agg (kbm b_K b_bald mf),jI set_] [] 0 Fr.emp (.d (q1 r)) [] 0 Fr.emp:=by
 unfold g62 at h
 refine SCall.mkK Tryd.func62 c62 rfl rfl (by kernel_rfl) (fun Q_0 hR_0 hN_0=>?_)
 refine Sa (sT [(1,jI set_),pR 2 0] [(0,.var 74 (kbm b_K b_bald mf))] 1 0) ?_
 refine Sa (sT [(1,jI set_),pR 2 0,(5,.d (.nilSl))] [(0,.var 74 (kbm b_K b_bald mf))] 1 0) ?_
 refine AW.seqK fun K_1 hK_1=>AW.srwK fun Q_2 hQ_2=>?_
 refine Au 3 (sT [(1,jI set_),(5,.d (.nilSl)),(9,.d (.sl 1 (List.map e30 b_K.Needs)))] [] 1 0) ?_
 refine rL rfl ?_
 refine Au 1 (sT [(1,jI set_),(5,.d (.nilSl)),(10,jI (b_K.Needs.length:Int)),(11,jI 0)] [] 1 0) ?_
 refine RW.nil (hQ_2 _ ?_)
 refine AW.block ?_
 obtain ⟨_,hN_3,h⟩:=bsome h
 have hN_3:=of_decide_eq_true (must_ok hN_3)
 obtain ⟨out_3,hx_3,h⟩:=bsome h
 refine AW.evSK (fun (v:Int) (l:List Int)=>(sT [(1,jI set_),(5,.own 1 (List.map e3 l).length),(10,jI (b_K.Needs.length:Int)),(11,jI v)] [(1,.row 3 1 (List.map e3 l))] 2 0)) (g62_3 set_) hx_3 (Can.trans (Can.thawT 5 3 1 rfl rfl) (Can.kp (by kernel_rfl))) (fun v p l hi_3 hl_3 hp_3 c_3 h K_3 hK_3=>?_) (fun v l hi_3 hl_3 hout=>?_)
 ·unfold g62_3 at h
  refine Sa (sT [(1,jI set_),(5,.own 1 (List.map e3 l).length),(10,jI (b_K.Needs.length:Int)),(11,jI v),(12,.d (.bool (decide (v<(b_K.Needs.length:Int)))))] [(1,.row 3 1 (List.map e3 l))] 2 0) ?_
  refine AW.seqK (fun K_4 hK_4=>?_)
  refine AW.cond rfl (fun hb_5=>?_) (fun hb_5=>False.elim (by have:=of_decide_eq_false hb_5;omega))
  refine AW.skip (hK_4 _ ?_)
  refine AW.seqK (fun K_6 hK_6=>?_)
  refine AW.block ?_
  refine Sa (sT [(1,jI set_),(5,.own 1 (List.map e3 l).length),(6,jI v),(10,jI (b_K.Needs.length:Int)),(11,jI v)] [(1,.row 3 1 (List.map e3 l))] 2 0) ?_
  refine AW.srwK (fun Q_7 hQ_7=>?_)
  refine Au 2 (sT [(1,jI set_),(5,.own 1 (List.map e3 l).length),(6,jI v),(10,jI (b_K.Needs.length:Int)),(11,jI v),(14,jI set_),(15,jI v)] [(1,.row 3 1 (List.map e3 l))] 2 0) ?_
  obtain ⟨_,hv_8,h⟩:=bsome h
  refine RW.one fokW (r_sh trivial rfl rfl (shr64_ok (of_decide_eq_true (must_ok hv_8))) (r_end ?_))
  refine Au 2 (sT [(1,jI set_),(5,.own 1 (List.map e3 l).length),(6,jI v),(10,jI (b_K.Needs.length:Int)),(11,jI v),(18,.d (.bool (decide ((bAnd (shr64 set_ v) 1)=1))))] [(1,.row 3 1 (List.map e3 l))] 2 0) ?_
  refine RW.nil (hQ_7 _ ?_)
  refine AW.cond rfl (fun hb_9=>?_) (fun hb_9=>?_)
  ·have h:=ifT hb_9 h
   refine AW.rw ?_
   refine Au 3 (sT [(1,jI set_),(10,jI (b_K.Needs.length:Int)),(11,jI v),(19,.own 1 (List.map e3 l).length),(21,.own 2 (List.map e3 [v]).length)] [(2,.row 3 1 (List.map e3 [v])),(1,.row 3 1 (List.map e3 l))] 3 0) ?_
   obtain ⟨l1,hv_11,h⟩:=bsome h
   refine RW.one fokW (r_apO trivial rfl rfl rfl rfl rfl rfl (apz hv_11 e3) (apr hv_11 e3) (r_end ?_))
   refine Au 1 (sT [(1,jI set_),(5,.own 1 (List.map e3 l1).length),(10,jI (b_K.Needs.length:Int)),(11,jI v)] [(1,.row 3 1 (List.map e3 l1))] 3 0) ?_
   refine RW.nil ?_
   refine hK_6 _ ?_
   refine Ra (sT [(1,jI set_),(5,.own 1 (List.map e3 l1).length),(10,jI (b_K.Needs.length:Int)),(11,jI (wr (v+1)))] [(1,.row 3 1 (List.map e3 l1))] 3 0) ?_
   obtain rfl:=Option.some.inj h
   have ew:wr (v+1)=v+1:=inext (N:=(b_K.Needs.length:Int)) (by omega) (by omega) (by omega)
   rw [ew]
   exact hK_3 _ (Can.kp (by kernel_rfl))
  ·have h:=ifF hb_9 h
   refine AW.skip (hK_6 _ ?_)
   refine Ra (sT [(1,jI set_),(5,.own 1 (List.map e3 l).length),(10,jI (b_K.Needs.length:Int)),(11,jI (wr (v+1)))] [(1,.row 3 1 (List.map e3 l))] 2 0) ?_
   obtain rfl:=Option.some.inj h
   have ew:wr (v+1)=v+1:=inext (N:=(b_K.Needs.length:Int)) (by omega) (by omega) (by omega)
   rw [ew]
   exact hK_3 _ (Can.kp (by kernel_rfl))
 ·subst hout
  refine Sa (sT [(1,jI set_),(5,.own 1 (List.map e3 l).length),(10,jI (b_K.Needs.length:Int)),(11,jI v),(12,.d (.bool (decide (v<(b_K.Needs.length:Int)))))] [(1,.row 3 1 (List.map e3 l))] 2 0) ?_
  refine AW.seqK (fun K_12 hK_12=>?_)
  refine AW.cond rfl (fun hb_13=>False.elim (by have:=of_decide_eq_true hb_13;omega)) (fun hb_13=>?_)
  refine AW.exit ?_
  refine hK_1 _ ?_
  refine AW.can (Can.fzE 5 1 rfl rfl rfl) ?_
  refine AW.srwK (fun Q_14 hQ_14=>?_)
  refine Au 2 (sT [(5,.d (q1 l)),(24,.d (q1 l)),(25,.d (q1 l))] [] 2 0) ?_
  refine rL rfl ?_
  refine Au 1 (sT [(24,.d (q1 l)),(26,jI (l.length:Int)),(27,.d (q1 l))] [] 2 0) ?_
  refine rL rfl ?_
  obtain ⟨l2,hv_15,h⟩:=bsome h
  refine RW.one fokW (r_slN trivial rfl rfl rfl DSl.d (slcL_ok hv_15).2.1 (by rw [List.length_map];exact (slcL_ok hv_15).2.2.1) rfl (slz hv_15 e3) (r_end ?_))
  refine Au 1 (sT [(4,.fsl 1 (List.map e3 l2))] [] 2 0) ?_
  refine RW.nil (hQ_14 _ ?_)
  obtain rfl:=Option.some.inj h
  exact AW.ret (hR_0 _ (retX (.cons (.tmp rfl) .nil) (.fsl _ _) rfl (by kernel_rfl) (by kernel_rfl)))
end Go.Proofs.Tr
