/- Told functions, and that the program does so, part 1. Conditions: none. -/
import Derived.Test.YtonjadhpjkbhnaaDoorDa
set_option linter.unusedVariables false
set_option linter.unusedSimpArgs false
namespace Go.Proofs.Th
open Go Go.Abs Go.Proofs
def g57 (n:Int) (low:Int) (high:Int):Option Bool:=some ((decide (low≤n))&&(decide (n≤high)))
theorem k57 (n:Int) (low:Int) (high:Int) (r:Bool) (h:g57 n low high=some r):SCall Tryd.prog Gs 57 [jI n,jI low,jI high] [] 0 Fr.emp (.d (.bool r)) [] 0 Fr.emp:=by
 unfold g57 at h
 refine SCall.mkK Tryd.func57 c57 rfl rfl (by kernel_rfl) (fun Q_0 hR_0 hN_0=>?_)
 refine Sa (sT [(0,jI n),(1,jI low),(2,jI high)] [] 0 0) ?_
 refine AW.sa fokW [10] (sT [(6,.d (.bool ((decide (low≤n))&&(decide (n≤high)))))] [] 0 0) (by kernel_rfl) ?_
 obtain rfl:=Option.some.inj h
 exact rT hR_0 (.cons (.tmp rfl) .nil)
def g63 (s:Span) (low:Int) (high:Int) (wide:Int):Option Bool:=some ((((decide (low≤s.Low))&&(decide (s.Low≤s.High)))&&(decide (s.High≤high)))&&(decide ((wr (s.High - s.Low))≤wide)))
theorem k63 (s:Span) (low:Int) (high:Int) (wide:Int) (r:Bool) (h:g63 s low high wide=some r):SCall Tryd.prog Gs 63 [.agg [jI s.Low,jI s.High],jI low,jI high,jI wide] [] 0 Fr.emp (.d (.bool r)) [] 0 Fr.emp:=by
 unfold g63 at h
 refine SCall.mkK Tryd.func63 c63 rfl rfl (by kernel_rfl) (fun Q_0 hR_0 hN_0=>?_)
 refine Sa (sT [(1,jI low),(2,jI high),(3,jI wide),pR 4 0] [(0,.var 35 [jI s.Low,jI s.High])] 1 0) ?_
 refine AW.sa fokW [13,20,26] (sT [(8,.d (.bool ((((decide (low≤s.Low))&&(decide (s.Low≤s.High)))&&(decide (s.High≤high)))&&(decide ((wr (s.High - s.Low))≤wide)))))] [] 1 0) (by kernel_rfl) ?_
 obtain rfl:=Option.some.inj h
 exact rT hR_0 (.cons (.tmp rfl) .nil)
def g17_31:Int→HairHorse→Bool→Option Bool:=fun v7 p1 ok1=>(bif ok1 then ((g57 p1.Mane 1 30).bind fun r0_5=>some r0_5) else (some false)).bind fun v8=>(bif v8 then ((g57 p1.Tail 1 30).bind fun r0_6=>some r0_6) else (some false)).bind fun v9=>(bif v9 then ((g57 p1.Shade 0 25).bind fun r0_7=>some r0_7) else (some false)).bind fun v10=>some v10
def g17_15:Int→HairHank→Bool→Option Bool:=fun v4 p ok=>(bif ok then ((g63 p.Weight 1 60 4).bind fun r0_3=>some r0_3) else (some false)).bind fun v5=>(bif v5 then ((g63 p.Shade 0 20 2).bind fun r0_4=>some r0_4) else (some false)).bind fun v6=>some v6
def g17 (b:HairBook):Option Int:=(bif (decide ((b.Hanks.length:Int)≤4)) then (some (decide ((b.Horses.length:Int)≤3))) else (some false)).bind fun v=>(bif v then ((g57 b.Dark 0 4).bind fun r0=>some r0) else (some false)).bind fun v1=>(bif v1 then ((g57 b.Near 0 3).bind fun r0_1=>some r0_1) else (some false)).bind fun v2=>(bif v2 then ((g57 b.Match 0 3).bind fun r0_2=>some r0_2) else (some false)).bind fun v3=>(eachS g17_15 b.Hanks 0 v3).bind fun ok=>(eachS g17_31 b.Horses 0 ok).bind fun ok1=>bif (!ok1) then (some 60) else (some 0)
theorem k17 (b:HairBook) (r:Int) (h:g17 b=some r):SCall Tryd.prog Gs 17 [.agg (cv25 b)] [] 0 Fr.emp (jI r) [] 0 Fr.emp:=by
 unfold g17 at h
 refine SCall.mkK Tryd.func17 c17 rfl rfl (by kernel_rfl) (fun Q_0 hR_0 hN_0=>?_)
 refine Sa (sT [pR 1 0] [(0,.var 25 (cv25 b))] 1 0) ?_
 refine AW.srwK (fun Q_1 hQ_1=>?_)
 refine Au 2 (sT [pR 1 0,(9,.d (.sl 4 (List.map e58 b.Hanks)))] [(0,.var 25 (cv25 b))] 1 0) ?_
 refine rL rfl ?_
 refine Au 2 (sT [pR 1 0,(12,.d (.bool (decide ((b.Hanks.length:Int)≤4))))] [(0,.var 25 (cv25 b))] 1 0) ?_
 obtain ⟨v,hx_2,h⟩:=bsome h
 refine RW.cut fokW 5 ((sT [pR 1 0,(17,.d (.bool v))] [(0,.var 25 (cv25 b))] 1 0)) ?_ ?_
 ·refine r_split 12 rfl (fun hb_3=>?_) (fun hb_3=>?_)
  ·have h:=ifT hb_3 hx_2
   refine aX 2 (sT [pR 1 0,(12,.d (.bool true)),(14,.d (.sl 3 (List.map e69 b.Horses)))] [(0,.var 25 (cv25 b))] 1 0) ?_
   refine r_lenX rfl rfl lenm ?_
   refine aX 2 (sT [pR 1 0,(17,.d (.bool (decide ((b.Horses.length:Int)≤3))))] [(0,.var 25 (cv25 b))] 1 0) ?_
   obtain rfl:=Option.some.inj h
   refine RunC.finJ (Can.kp (by kernel_rfl))
  ·have h:=ifF hb_3 hx_2
   refine aX 5 (sT [pR 1 0,(17,.d (.bool false))] [(0,.var 25 (cv25 b))] 1 0) ?_
   obtain rfl:=Option.some.inj h
   refine RunC.finJ (Can.kp (by kernel_rfl))
 ·refine Au 1 (sT [pR 1 0,(18,.d (.bool v))] [(0,.var 25 (cv25 b))] 1 0) ?_
  obtain ⟨v1,hx_4,h⟩:=bsome h
  refine RW.cut fokW 4 ((sT [pR 1 0,(22,.d (.bool v1))] [(0,.var 25 (cv25 b))] 1 0)) ?_ ?_
  ·refine r_split 18 rfl (fun hb_6=>?_) (fun hb_6=>?_)
   ·have h:=ifT hb_6 hx_4
    refine aX 2 (sT [pR 1 0,(18,.d (.bool true)),(20,jI b.Dark)] [(0,.var 25 (cv25 b))] 1 0) ?_
    obtain ⟨r0,hx_5,h⟩:=bsome h
    refine r_call rfl rfl (k57 b.Dark 0 4 _ hx_5) rfl rfl ?_
    refine aX 1 (sT [pR 1 0,(22,.d (.bool r0))] [(0,.var 25 (cv25 b))] 1 0) ?_
    obtain rfl:=Option.some.inj h
    refine RunC.finJ (Can.kp (by kernel_rfl))
   ·have h:=ifF hb_6 hx_4
    refine aX 4 (sT [pR 1 0,(22,.d (.bool false))] [(0,.var 25 (cv25 b))] 1 0) ?_
    obtain rfl:=Option.some.inj h
    refine RunC.finJ (Can.kp (by kernel_rfl))
  ·refine Au 1 (sT [pR 1 0,(23,.d (.bool v1))] [(0,.var 25 (cv25 b))] 1 0) ?_
   obtain ⟨v2,hx_7,h⟩:=bsome h
   refine RW.cut fokW 4 ((sT [pR 1 0,(27,.d (.bool v2))] [(0,.var 25 (cv25 b))] 1 0)) ?_ ?_
   ·refine r_split 23 rfl (fun hb_9=>?_) (fun hb_9=>?_)
    ·have h:=ifT hb_9 hx_7
     refine aX 2 (sT [pR 1 0,(23,.d (.bool true)),(25,jI b.Near)] [(0,.var 25 (cv25 b))] 1 0) ?_
     obtain ⟨r0_1,hx_8,h⟩:=bsome h
     refine r_call rfl rfl (k57 b.Near 0 3 _ hx_8) rfl rfl ?_
     refine aX 1 (sT [pR 1 0,(27,.d (.bool r0_1))] [(0,.var 25 (cv25 b))] 1 0) ?_
     obtain rfl:=Option.some.inj h
     refine RunC.finJ (Can.kp (by kernel_rfl))
    ·have h:=ifF hb_9 hx_7
     refine aX 4 (sT [pR 1 0,(27,.d (.bool false))] [(0,.var 25 (cv25 b))] 1 0) ?_
     obtain rfl:=Option.some.inj h
     refine RunC.finJ (Can.kp (by kernel_rfl))
   ·refine Au 1 (sT [pR 1 0,(28,.d (.bool v2))] [(0,.var 25 (cv25 b))] 1 0) ?_
    obtain ⟨v3,hx_10,h⟩:=bsome h
    refine RW.cut fokW 4 ((sT [pR 1 0,(32,.d (.bool v3))] [(0,.var 25 (cv25 b))] 1 0)) ?_ ?_
    ·refine r_split 28 rfl (fun hb_12=>?_) (fun hb_12=>?_)
     ·have h:=ifT hb_12 hx_10
      refine aX 2 (sT [pR 1 0,(28,.d (.bool true)),(30,jI b.Match)] [(0,.var 25 (cv25 b))] 1 0) ?_
      obtain ⟨r0_2,hx_11,h⟩:=bsome h
      refine r_call rfl rfl (k57 b.Match 0 3 _ hx_11) rfl rfl ?_
      refine aX 1 (sT [pR 1 0,(32,.d (.bool r0_2))] [(0,.var 25 (cv25 b))] 1 0) ?_
      obtain rfl:=Option.some.inj h
      refine RunC.finJ (Can.kp (by kernel_rfl))
     ·have h:=ifF hb_12 hx_10
      refine aX 4 (sT [pR 1 0,(32,.d (.bool false))] [(0,.var 25 (cv25 b))] 1 0) ?_
      obtain rfl:=Option.some.inj h
      refine RunC.finJ (Can.kp (by kernel_rfl))
    ·refine Au 1 (sT [pR 1 0,(3,.d (.bool v3))] [(0,.var 25 (cv25 b))] 1 0) ?_
     refine RW.nil (hQ_1 _ ?_)
     refine AW.seqK fun K_13 hK_13=>AW.srwK fun Q_14 hQ_14=>?_
     refine Au 2 (sT [pR 1 0,(3,.d (.bool v3)),(34,.d (.sl 4 (List.map e58 b.Hanks)))] [(0,.var 25 (cv25 b))] 1 0) ?_
     refine rL rfl ?_
     refine Au 1 (sT [pR 1 0,(3,.d (.bool v3)),(34,.d (.sl 4 (List.map e58 b.Hanks))),(35,jI (b.Hanks.length:Int)),(36,jI 0)] [(0,.var 25 (cv25 b))] 1 0) ?_
     refine RW.nil (hQ_14 _ ?_)
     refine AW.block ?_
     refine AW.sln (t:=34) rfl (fun hN_15=>?_)
     rw [List.length_map] at hN_15
     obtain ⟨out_15,hx_15,h⟩:=bsome h
     refine AW.evSK (fun (v4:Int) (ok:Bool)=>(sT [pR 1 0,(3,.d (.bool ok)),(34,.d (.sl 4 (List.map e58 b.Hanks))),(35,jI (b.Hanks.length:Int)),(36,jI v4)] [(0,.var 25 (cv25 b))] 1 0)) g17_15 hx_15 (Can.kp (by kernel_rfl)) (fun v4 p ok hi_15 hl_15 hp_15 c_15 h K_15 hK_15=>?_) (fun v4 ok hi_15 hl_15 hout=>?_)
     ·unfold g17_15 at h
      refine Sa (sT [pR 1 0,(3,.d (.bool ok)),(34,.d (.sl 4 (List.map e58 b.Hanks))),(35,jI (b.Hanks.length:Int)),(36,jI v4),(37,.d (.bool (decide (v4<(b.Hanks.length:Int)))))] [(0,.var 25 (cv25 b))] 1 0) ?_
      refine AW.seqK (fun K_16 hK_16=>?_)
      refine AW.cond rfl (fun hb_17=>?_) (fun hb_17=>False.elim (by have:=of_decide_eq_false hb_17;omega))
      refine AW.skip (hK_16 _ ?_)
      refine AW.seqK (fun K_18 hK_18=>?_)
      refine AW.block ?_
      refine AW.srwK (fun Q_19 hQ_19=>?_)
      refine RW.one fokW (r_iaD trivial rfl rfl hi_15 (row:=e58 p) (mapget hp_15) (r_end ?_))
      refine Au 3 (sT [pR 1 0,(3,.d (.bool ok)),pR 5 1,(34,.d (.sl 4 (List.map e58 b.Hanks))),(35,jI (b.Hanks.length:Int)),(36,jI v4)] [(1,.var 58 (cv58 p)),(0,.var 25 (cv25 b))] 2 0) ?_
      refine RW.nil (hQ_19 _ ?_)
      refine AW.rw ?_
      refine Au 2 (sT [pR 1 0,pR 5 1,(34,.d (.sl 4 (List.map e58 b.Hanks))),(35,jI (b.Hanks.length:Int)),(36,jI v4),(41,.d (.bool ok))] [(1,.var 58 (cv58 p)),(0,.var 25 (cv25 b))] 2 0) ?_
      obtain ⟨v5,hx_21,h⟩:=bsome h
      refine RW.cut fokW 4 ((sT [pR 1 0,pR 5 1,(34,.d (.sl 4 (List.map e58 b.Hanks))),(35,jI (b.Hanks.length:Int)),(36,jI v4),(45,.d (.bool v5))] [(1,.var 58 (cv58 p)),(0,.var 25 (cv25 b))] 2 0)) ?_ ?_
      ·refine r_split 41 rfl (fun hb_23=>?_) (fun hb_23=>?_)
       ·have h:=ifT hb_23 hx_21
        refine aX 2 (sT [pR 1 0,pR 5 1,(34,.d (.sl 4 (List.map e58 b.Hanks))),(35,jI (b.Hanks.length:Int)),(36,jI v4),(41,.d (.bool true)),(43,.agg [jI p.Weight.Low,jI p.Weight.High])] [(1,.var 58 (cv58 p)),(0,.var 25 (cv25 b))] 2 0) ?_
        obtain ⟨r0_3,hx_22,h⟩:=bsome h
        refine r_call rfl rfl (k63 p.Weight 1 60 4 _ hx_22) rfl rfl ?_
        refine aX 1 (sT [pR 1 0,pR 5 1,(34,.d (.sl 4 (List.map e58 b.Hanks))),(35,jI (b.Hanks.length:Int)),(36,jI v4),(45,.d (.bool r0_3))] [(1,.var 58 (cv58 p)),(0,.var 25 (cv25 b))] 2 0) ?_
        obtain rfl:=Option.some.inj h
        refine RunC.finJ (Can.kp (by kernel_rfl))
       ·have h:=ifF hb_23 hx_21
        refine aX 4 (sT [pR 1 0,pR 5 1,(34,.d (.sl 4 (List.map e58 b.Hanks))),(35,jI (b.Hanks.length:Int)),(36,jI v4),(45,.d (.bool false))] [(1,.var 58 (cv58 p)),(0,.var 25 (cv25 b))] 2 0) ?_
        obtain rfl:=Option.some.inj h
        refine RunC.finJ (Can.kp (by kernel_rfl))
      ·refine Au 1 (sT [pR 1 0,pR 5 1,(34,.d (.sl 4 (List.map e58 b.Hanks))),(35,jI (b.Hanks.length:Int)),(36,jI v4),(46,.d (.bool v5))] [(1,.var 58 (cv58 p)),(0,.var 25 (cv25 b))] 2 0) ?_
       obtain ⟨v6,hx_24,h⟩:=bsome h
       refine RW.cut fokW 4 ((sT [pR 1 0,(34,.d (.sl 4 (List.map e58 b.Hanks))),(35,jI (b.Hanks.length:Int)),(36,jI v4),(50,.d (.bool v6))] [(0,.var 25 (cv25 b))] 2 0)) ?_ ?_
       ·refine r_split 46 rfl (fun hb_26=>?_) (fun hb_26=>?_)
        ·have h:=ifT hb_26 hx_24
         refine aX 2 (sT [pR 1 0,(34,.d (.sl 4 (List.map e58 b.Hanks))),(35,jI (b.Hanks.length:Int)),(36,jI v4),(46,.d (.bool true)),(48,.agg [jI p.Shade.Low,jI p.Shade.High])] [(1,.var 58 (cv58 p)),(0,.var 25 (cv25 b))] 2 0) ?_
         obtain ⟨r0_4,hx_25,h⟩:=bsome h
         refine r_call rfl rfl (k63 p.Shade 0 20 2 _ hx_25) rfl rfl ?_
         refine aX 1 (sT [pR 1 0,(34,.d (.sl 4 (List.map e58 b.Hanks))),(35,jI (b.Hanks.length:Int)),(36,jI v4),(50,.d (.bool r0_4))] [(1,.var 58 (cv58 p)),(0,.var 25 (cv25 b))] 2 0) ?_
         obtain rfl:=Option.some.inj h
         refine RunC.finJ (Can.kp (by kernel_rfl))
        ·have h:=ifF hb_26 hx_24
         refine aX 4 (sT [pR 1 0,(34,.d (.sl 4 (List.map e58 b.Hanks))),(35,jI (b.Hanks.length:Int)),(36,jI v4),(50,.d (.bool false))] [(1,.var 58 (cv58 p)),(0,.var 25 (cv25 b))] 2 0) ?_
         obtain rfl:=Option.some.inj h
         refine RunC.finJ (Can.kp (by kernel_rfl))
       ·refine Au 1 (sT [pR 1 0,(3,.d (.bool v6)),(34,.d (.sl 4 (List.map e58 b.Hanks))),(35,jI (b.Hanks.length:Int)),(36,jI v4)] [(0,.var 25 (cv25 b))] 2 0) ?_
        refine RW.nil ?_
        refine hK_18 _ ?_
        refine Ra (sT [pR 1 0,(3,.d (.bool v6)),(34,.d (.sl 4 (List.map e58 b.Hanks))),(35,jI (b.Hanks.length:Int)),(36,jI (wr (v4+1)))] [(0,.var 25 (cv25 b))] 2 0) ?_
        obtain rfl:=Option.some.inj h
        have ew:wr (v4+1)=v4+1:=inext (N:=(b.Hanks.length:Int)) (by omega) (by omega) (by omega)
        rw [ew]
        exact hK_15 _ (Can.kp (by kernel_rfl))
     ·subst hout
      refine Sa (sT [pR 1 0,(3,.d (.bool ok)),(34,.d (.sl 4 (List.map e58 b.Hanks))),(35,jI (b.Hanks.length:Int)),(36,jI v4),(37,.d (.bool (decide (v4<(b.Hanks.length:Int)))))] [(0,.var 25 (cv25 b))] 1 0) ?_
      refine AW.seqK (fun K_27 hK_27=>?_)
      refine AW.cond rfl (fun hb_28=>False.elim (by have:=of_decide_eq_true hb_28;omega)) (fun hb_28=>?_)
      refine AW.exit ?_
      refine hK_13 _ ?_
      refine AW.seqK fun K_29 hK_29=>AW.srwK fun Q_30 hQ_30=>?_
      refine Au 2 (sT [(3,.d (.bool ok)),(53,.d (.sl 3 (List.map e69 b.Horses)))] [] 1 0) ?_
      refine rL rfl ?_
      refine Au 1 (sT [(3,.d (.bool ok)),(53,.d (.sl 3 (List.map e69 b.Horses))),(54,jI (b.Horses.length:Int)),(55,jI 0)] [] 1 0) ?_
      refine RW.nil (hQ_30 _ ?_)
      refine AW.block ?_
      refine AW.sln (t:=53) rfl (fun hN_31=>?_)
      rw [List.length_map] at hN_31
      obtain ⟨out_31,hx_31,h⟩:=bsome h
      refine AW.evSK (fun (v7:Int) (ok1:Bool)=>(sT [(3,.d (.bool ok1)),(53,.d (.sl 3 (List.map e69 b.Horses))),(54,jI (b.Horses.length:Int)),(55,jI v7)] [] 1 0)) g17_31 hx_31 (Can.kp (by kernel_rfl)) (fun v7 p1 ok1 hi_31 hl_31 hp_31 c_31 h K_31 hK_31=>?_) (fun v7 ok1 hi_31 hl_31 hout=>?_)
      ·unfold g17_31 at h
       refine Sa (sT [(3,.d (.bool ok1)),(53,.d (.sl 3 (List.map e69 b.Horses))),(54,jI (b.Horses.length:Int)),(55,jI v7),(56,.d (.bool (decide (v7<(b.Horses.length:Int)))))] [] 1 0) ?_
       refine AW.seqK (fun K_32 hK_32=>?_)
       refine AW.cond rfl (fun hb_33=>?_) (fun hb_33=>False.elim (by have:=of_decide_eq_false hb_33;omega))
       refine AW.skip (hK_32 _ ?_)
       refine AW.seqK (fun K_34 hK_34=>?_)
       refine AW.block ?_
       refine AW.srwK (fun Q_35 hQ_35=>?_)
       refine RW.one fokW (r_iaD trivial rfl rfl hi_31 (row:=e69 p1) (mapget hp_31) (r_end ?_))
       refine Au 3 (sT [(3,.d (.bool ok1)),pR 7 1,(53,.d (.sl 3 (List.map e69 b.Horses))),(54,jI (b.Horses.length:Int)),(55,jI v7)] [(1,.var 69 [jI p1.Mane,jI p1.Tail,jI p1.Shade])] 2 0) ?_
       refine RW.nil (hQ_35 _ ?_)
       refine AW.rw ?_
       refine Au 2 (sT [pR 7 1,(53,.d (.sl 3 (List.map e69 b.Horses))),(54,jI (b.Horses.length:Int)),(55,jI v7),(60,.d (.bool ok1))] [(1,.var 69 [jI p1.Mane,jI p1.Tail,jI p1.Shade])] 2 0) ?_
       obtain ⟨v8,hx_37,h⟩:=bsome h
       refine RW.cut fokW 4 ((sT [pR 7 1,(53,.d (.sl 3 (List.map e69 b.Horses))),(54,jI (b.Horses.length:Int)),(55,jI v7),(64,.d (.bool v8))] [(1,.var 69 [jI p1.Mane,jI p1.Tail,jI p1.Shade])] 2 0)) ?_ ?_
       ·refine r_split 60 rfl (fun hb_39=>?_) (fun hb_39=>?_)
        ·have h:=ifT hb_39 hx_37
         refine aX 2 (sT [pR 7 1,(53,.d (.sl 3 (List.map e69 b.Horses))),(54,jI (b.Horses.length:Int)),(55,jI v7),(60,.d (.bool true)),(62,jI p1.Mane)] [(1,.var 69 [jI p1.Mane,jI p1.Tail,jI p1.Shade])] 2 0) ?_
         obtain ⟨r0_5,hx_38,h⟩:=bsome h
         refine r_call rfl rfl (k57 p1.Mane 1 30 _ hx_38) rfl rfl ?_
         refine aX 1 (sT [pR 7 1,(53,.d (.sl 3 (List.map e69 b.Horses))),(54,jI (b.Horses.length:Int)),(55,jI v7),(64,.d (.bool r0_5))] [(1,.var 69 [jI p1.Mane,jI p1.Tail,jI p1.Shade])] 2 0) ?_
         obtain rfl:=Option.some.inj h
         refine RunC.finJ (Can.kp (by kernel_rfl))
        ·have h:=ifF hb_39 hx_37
         refine aX 4 (sT [pR 7 1,(53,.d (.sl 3 (List.map e69 b.Horses))),(54,jI (b.Horses.length:Int)),(55,jI v7),(64,.d (.bool false))] [(1,.var 69 [jI p1.Mane,jI p1.Tail,jI p1.Shade])] 2 0) ?_
         obtain rfl:=Option.some.inj h
         refine RunC.finJ (Can.kp (by kernel_rfl))
       ·refine Au 1 (sT [pR 7 1,(53,.d (.sl 3 (List.map e69 b.Horses))),(54,jI (b.Horses.length:Int)),(55,jI v7),(65,.d (.bool v8))] [(1,.var 69 [jI p1.Mane,jI p1.Tail,jI p1.Shade])] 2 0) ?_
        obtain ⟨v9,hx_40,h⟩:=bsome h
        refine RW.cut fokW 4 ((sT [pR 7 1,(53,.d (.sl 3 (List.map e69 b.Horses))),(54,jI (b.Horses.length:Int)),(55,jI v7),(69,.d (.bool v9))] [(1,.var 69 [jI p1.Mane,jI p1.Tail,jI p1.Shade])] 2 0)) ?_ ?_
        ·refine r_split 65 rfl (fun hb_42=>?_) (fun hb_42=>?_)
         ·have h:=ifT hb_42 hx_40
          refine aX 2 (sT [pR 7 1,(53,.d (.sl 3 (List.map e69 b.Horses))),(54,jI (b.Horses.length:Int)),(55,jI v7),(65,.d (.bool true)),(67,jI p1.Tail)] [(1,.var 69 [jI p1.Mane,jI p1.Tail,jI p1.Shade])] 2 0) ?_
          obtain ⟨r0_6,hx_41,h⟩:=bsome h
          refine r_call rfl rfl (k57 p1.Tail 1 30 _ hx_41) rfl rfl ?_
          refine aX 1 (sT [pR 7 1,(53,.d (.sl 3 (List.map e69 b.Horses))),(54,jI (b.Horses.length:Int)),(55,jI v7),(69,.d (.bool r0_6))] [(1,.var 69 [jI p1.Mane,jI p1.Tail,jI p1.Shade])] 2 0) ?_
          obtain rfl:=Option.some.inj h
          refine RunC.finJ (Can.kp (by kernel_rfl))
         ·have h:=ifF hb_42 hx_40
          refine aX 4 (sT [pR 7 1,(53,.d (.sl 3 (List.map e69 b.Horses))),(54,jI (b.Horses.length:Int)),(55,jI v7),(69,.d (.bool false))] [(1,.var 69 [jI p1.Mane,jI p1.Tail,jI p1.Shade])] 2 0) ?_
          obtain rfl:=Option.some.inj h
          refine RunC.finJ (Can.kp (by kernel_rfl))
        ·refine Au 1 (sT [pR 7 1,(53,.d (.sl 3 (List.map e69 b.Horses))),(54,jI (b.Horses.length:Int)),(55,jI v7),(70,.d (.bool v9))] [(1,.var 69 [jI p1.Mane,jI p1.Tail,jI p1.Shade])] 2 0) ?_
         obtain ⟨v10,hx_43,h⟩:=bsome h
         refine RW.cut fokW 4 ((sT [(53,.d (.sl 3 (List.map e69 b.Horses))),(54,jI (b.Horses.length:Int)),(55,jI v7),(74,.d (.bool v10))] [] 2 0)) ?_ ?_
         ·refine r_split 70 rfl (fun hb_45=>?_) (fun hb_45=>?_)
          ·have h:=ifT hb_45 hx_43
           refine aX 2 (sT [(53,.d (.sl 3 (List.map e69 b.Horses))),(54,jI (b.Horses.length:Int)),(55,jI v7),(70,.d (.bool true)),(72,jI p1.Shade)] [(1,.var 69 [jI p1.Mane,jI p1.Tail,jI p1.Shade])] 2 0) ?_
           obtain ⟨r0_7,hx_44,h⟩:=bsome h
           refine r_call rfl rfl (k57 p1.Shade 0 25 _ hx_44) rfl rfl ?_
           refine aX 1 (sT [(53,.d (.sl 3 (List.map e69 b.Horses))),(54,jI (b.Horses.length:Int)),(55,jI v7),(74,.d (.bool r0_7))] [(1,.var 69 [jI p1.Mane,jI p1.Tail,jI p1.Shade])] 2 0) ?_
           obtain rfl:=Option.some.inj h
           refine RunC.finJ (Can.kp (by kernel_rfl))
          ·have h:=ifF hb_45 hx_43
           refine aX 4 (sT [(53,.d (.sl 3 (List.map e69 b.Horses))),(54,jI (b.Horses.length:Int)),(55,jI v7),(74,.d (.bool false))] [(1,.var 69 [jI p1.Mane,jI p1.Tail,jI p1.Shade])] 2 0) ?_
           obtain rfl:=Option.some.inj h
           refine RunC.finJ (Can.kp (by kernel_rfl))
         ·refine Au 1 (sT [(3,.d (.bool v10)),(53,.d (.sl 3 (List.map e69 b.Horses))),(54,jI (b.Horses.length:Int)),(55,jI v7)] [] 2 0) ?_
          refine RW.nil ?_
          refine hK_34 _ ?_
          refine Ra (sT [(3,.d (.bool v10)),(53,.d (.sl 3 (List.map e69 b.Horses))),(54,jI (b.Horses.length:Int)),(55,jI (wr (v7+1)))] [] 2 0) ?_
          obtain rfl:=Option.some.inj h
          have ew:wr (v7+1)=v7+1:=inext (N:=(b.Horses.length:Int)) (by omega) (by omega) (by omega)
          rw [ew]
          exact hK_31 _ (Can.kp (by kernel_rfl))
      ·subst hout
       refine Sa (sT [(3,.d (.bool ok1)),(53,.d (.sl 3 (List.map e69 b.Horses))),(54,jI (b.Horses.length:Int)),(55,jI v7),(56,.d (.bool (decide (v7<(b.Horses.length:Int)))))] [] 1 0) ?_
       refine AW.seqK (fun K_46 hK_46=>?_)
       refine AW.cond rfl (fun hb_47=>False.elim (by have:=of_decide_eq_true hb_47;omega)) (fun hb_47=>?_)
       refine AW.exit ?_
       refine hK_29 _ ?_
       refine AW.seqK (fun K_48 hK_48=>?_)
       refine Sa (sT [(77,.d (.bool (!ok1)))] [] 1 0) ?_
       refine AW.cond rfl (fun hb_49=>?_) (fun hb_49=>?_)
       ·have h:=ifT hb_49 h
        refine Sa (sT [(2,jI 60)] [] 1 0) ?_
        obtain rfl:=Option.some.inj h
        exact rT hR_0 (.cons (.tmp rfl) .nil)
       ·have h:=ifF hb_49 h
        refine AW.skip (hK_48 _ ?_)
        refine Sa (sT [(2,jI 0)] [] 1 0) ?_
        obtain rfl:=Option.some.inj h
        exact rT hR_0 (.cons (.tmp rfl) .nil)
def g80_8 (v:Int) (p:HairHank):Int→(List (Hair_dye×Span))→Option (List (Hair_dye×Span)):=fun v1 m1=>(mput q84 m1 (Hair_dye.mk v v1) (Span.mk (wr (p.Shade.Low+v1)) (wr (p.Shade.High+v1)))).bind fun m2=>some m2
def g80_3 (x:HairBook):Int→HairHank→(List (Hair_dye×Span))→Option (List (Hair_dye×Span)):=fun v p m=>(forS (g80_8 v p) ((((wr (x.Dark+1)):Int) - 0).toNat) 0 m).bind fun m1=>some m1
def g80 (x:HairBook):Option (HairBook×(List (Hair_dye×Span))):=(eachS (g80_3 x) x.Hanks 0 ([]:List (Hair_dye×Span))).bind fun m=>some (x,m)
def y1 (x:HairBook):List (Nat×Blk):=[(3,.var 78 (catV (cv25 x) [.map 2])),(2,.mp (List.map m84_35 [])),(1,.var 78 [.d (.nilSl),.d (.nilSl),jI 0,jI 0,jI 0,.d (.nilMap)]),(0,.var 25 (cv25 x))]
def y2 (x:HairBook) (m:List (Hair_dye×Span)):List (Nat×Blk):=[(3,.var 78 (catV (cv25 x) [.map 2])),(2,.mp (List.map m84_35 m)),(1,.var 78 [.d (.nilSl),.d (.nilSl),jI 0,jI 0,jI 0,.d (.nilMap)]),(0,.var 25 (cv25 x))]
theorem k80 (x:HairBook) (r:HairBook×(List (Hair_dye×Span))) (h:g80 x=some r):SCall Tryd.prog Gs 80 [.agg (cv25 x)] [] 0 Fr.emp (match r with | (r0_B,mf)=>.agg (hbm r0_B mf)) [] 0 Fr.emp:=by
 unfold g80 at h
 refine SCall.mkK Tryd.func80 c80 rfl rfl (by kernel_rfl) (fun Q_0 hR_0 hN_0=>?_)
 refine Sa (sT [pR 1 0,pR 2 1] [(1,.var 78 [.d (.nilSl),.d (.nilSl),jI 0,jI 0,jI 0,.d (.nilMap)]),(0,.var 25 (cv25 x))] 2 0) ?_
 refine Sa (sT [pR 1 0,pR 2 1,pR 3 3] (y1 x) 4 0) ?_
 refine AW.seqK fun K_1 hK_1=>AW.srwK fun Q_2 hQ_2=>?_
 refine Au 2 (sT [pR 1 0,pR 2 1,pR 3 3,(11,.d (.sl 4 (List.map e58 x.Hanks)))] (y1 x) 4 0) ?_
 refine rL rfl ?_
 refine Au 1 (sT [pR 1 0,pR 2 1,pR 3 3,(11,.d (.sl 4 (List.map e58 x.Hanks))),(12,jI (x.Hanks.length:Int)),(13,jI 0)] (y1 x) 4 0) ?_
 refine RW.nil (hQ_2 _ ?_)
 refine AW.block ?_
 refine AW.sln (t:=11) rfl (fun hN_3=>?_)
 rw [List.length_map] at hN_3
 obtain ⟨out_3,hx_3,h⟩:=bsome h
 refine AW.evSK (fun (v:Int) (m:List (Hair_dye×Span))=>(sT [pR 1 0,pR 2 1,pR 3 3,(11,.d (.sl 4 (List.map e58 x.Hanks))),(12,jI (x.Hanks.length:Int)),(13,jI v)] (y2 x m) 4 0)) (g80_3 x) hx_3 (Can.kp (by kernel_rfl)) (fun v p m hi_3 hl_3 hp_3 c_3 h K_3 hK_3=>?_) (fun v m hi_3 hl_3 hout=>?_)
 ·unfold g80_3 at h
  refine Sa (sT [pR 1 0,pR 2 1,pR 3 3,(11,.d (.sl 4 (List.map e58 x.Hanks))),(12,jI (x.Hanks.length:Int)),(13,jI v),(14,.d (.bool (decide (v<(x.Hanks.length:Int)))))] (y2 x m) 4 0) ?_
  refine AW.seqK (fun K_4 hK_4=>?_)
  refine AW.cond rfl (fun hb_5=>?_) (fun hb_5=>False.elim (by have:=of_decide_eq_false hb_5;omega))
  refine AW.skip (hK_4 _ ?_)
  refine AW.seqK (fun K_6 hK_6=>?_)
  refine AW.block ?_
  refine AW.srwK (fun Q_7 hQ_7=>?_)
  refine Au 1 (sT [pR 1 0,pR 2 1,pR 3 3,(11,.d (.sl 4 (List.map e58 x.Hanks))),(12,jI (x.Hanks.length:Int)),(13,jI v),(15,jI v)] (y2 x m) 4 0) ?_
  refine RW.one fokW (r_iaD trivial rfl rfl hi_3 (row:=e58 p) (mapget hp_3) (r_end ?_))
  refine Au 4 (sT [pR 1 0,pR 2 1,pR 3 3,(4,jI v),pR 5 4,(11,.d (.sl 4 (List.map e58 x.Hanks))),(12,jI (x.Hanks.length:Int)),(13,jI v)] [(4,.var 58 (cv58 p)),(3,.var 78 (catV (cv25 x) [.map 2])),(2,.mp (List.map m84_35 m)),(1,.var 78 [.d (.nilSl),.d (.nilSl),jI 0,jI 0,jI 0,.d (.nilMap)]),(0,.var 25 (cv25 x))] 5 0) ?_
  refine RW.nil (hQ_7 _ ?_)
  refine Sa (sT [pR 1 0,pR 2 1,pR 3 3,(4,jI v),pR 5 4,(11,.d (.sl 4 (List.map e58 x.Hanks))),(12,jI (x.Hanks.length:Int)),(13,jI v),(20,jI (wr (x.Dark+1))),(21,jI 0)] [(4,.var 58 (cv58 p)),(3,.var 78 (catV (cv25 x) [.map 2])),(2,.mp (List.map m84_35 m)),(1,.var 78 [.d (.nilSl),.d (.nilSl),jI 0,jI 0,jI 0,.d (.nilMap)]),(0,.var 25 (cv25 x))] 5 0) ?_
  refine AW.block ?_
  have hN_8:(wr (x.Dark+1))≤9223372036854775807:=(wr_range _).2
  obtain ⟨out_8,hx_8,h⟩:=bsome h
  refine AW.lpSK (fun (v1:Int) (m1:List (Hair_dye×Span))=>(sT [pR 1 0,pR 2 1,pR 3 3,(4,jI v),pR 5 4,(11,.d (.sl 4 (List.map e58 x.Hanks))),(12,jI (x.Hanks.length:Int)),(13,jI v),(20,jI (wr (x.Dark+1))),(21,jI v1)] [(4,.var 58 (cv58 p)),(3,.var 78 (catV (cv25 x) [.map 2])),(2,.mp (List.map m84_35 m1)),(1,.var 78 [.d (.nilSl),.d (.nilSl),jI 0,jI 0,jI 0,.d (.nilMap)]),(0,.var 25 (cv25 x))] 5 0)) (g80_8 v p) ((wr (x.Dark+1))) hx_8 (Can.kp (by kernel_rfl)) (fun v1 m1 hi_8 hl_8 c_8 h K_8 hK_8=>?_) (fun v1 m1 hi_8 hl_8 hout=>?_)
  ·unfold g80_8 at h
   refine Sa (sT [pR 1 0,pR 2 1,pR 3 3,(4,jI v),pR 5 4,(11,.d (.sl 4 (List.map e58 x.Hanks))),(12,jI (x.Hanks.length:Int)),(13,jI v),(20,jI (wr (x.Dark+1))),(21,jI v1),(22,.d (.bool (decide (v1<(wr (x.Dark+1))))))] [(4,.var 58 (cv58 p)),(3,.var 78 (catV (cv25 x) [.map 2])),(2,.mp (List.map m84_35 m1)),(1,.var 78 [.d (.nilSl),.d (.nilSl),jI 0,jI 0,jI 0,.d (.nilMap)]),(0,.var 25 (cv25 x))] 5 0) ?_
   refine AW.seqK (fun K_9 hK_9=>?_)
   refine AW.cond rfl (fun hb_10=>?_) (fun hb_10=>False.elim (by have:=of_decide_eq_false hb_10;omega))
   refine AW.skip (hK_9 _ ?_)
   refine AW.seqK (fun K_11 hK_11=>?_)
   refine AW.block ?_
   refine Sa (sT [pR 1 0,pR 2 1,pR 3 3,(4,jI v),pR 5 4,(6,jI v1),(11,.d (.sl 4 (List.map e58 x.Hanks))),(12,jI (x.Hanks.length:Int)),(13,jI v),(20,jI (wr (x.Dark+1))),(21,jI v1)] [(4,.var 58 (cv58 p)),(3,.var 78 (catV (cv25 x) [.map 2])),(2,.mp (List.map m84_35 m1)),(1,.var 78 [.d (.nilSl),.d (.nilSl),jI 0,jI 0,jI 0,.d (.nilMap)]),(0,.var 25 (cv25 x))] 5 0) ?_
   refine AW.rw ?_
   refine Au 16 (sT [pR 1 0,pR 2 1,pR 3 3,(4,jI v),pR 5 4,(11,.d (.sl 4 (List.map e58 x.Hanks))),(12,jI (x.Hanks.length:Int)),(13,jI v),(20,jI (wr (x.Dark+1))),(21,jI v1),(25,.map 2),(28,.agg [jI v,jI v1]),(39,.agg [jI (wr (p.Shade.Low+v1)),jI (wr (p.Shade.High+v1))])] [(4,.var 58 (cv58 p)),(3,.var 78 (catV (cv25 x) [.map 2])),(2,.mp (List.map m84_35 m1)),(1,.var 78 [.d (.nilSl),.d (.nilSl),jI 0,jI 0,jI 0,.d (.nilMap)]),(0,.var 25 (cv25 x))] 5 0) ?_
   obtain ⟨m2,hv_13,h⟩:=bsome h
   refine RW.one fokW (r_mput q84 e84 (fun x=>DV.a (e35 x)) trivial rfl rfl rfl rfl ft84 q84_ok (fun _=>rfl) rfl hv_13 (r_end ?_))
   refine RW.nil ?_
   refine hK_11 _ ?_
   refine Ra (sT [pR 1 0,pR 2 1,pR 3 3,(4,jI v),pR 5 4,(11,.d (.sl 4 (List.map e58 x.Hanks))),(12,jI (x.Hanks.length:Int)),(13,jI v),(20,jI (wr (x.Dark+1))),(21,jI (wr (v1+1)))] [(2,.mp (List.map m84_35 m2)),(4,.var 58 (cv58 p)),(3,.var 78 (catV (cv25 x) [.map 2])),(1,.var 78 [.d (.nilSl),.d (.nilSl),jI 0,jI 0,jI 0,.d (.nilMap)]),(0,.var 25 (cv25 x))] 5 0) ?_
   obtain rfl:=Option.some.inj h
   have ew:wr (v1+1)=v1+1:=inext (N:=(wr (x.Dark+1))) (by omega) (by omega) (by omega)
   rw [ew]
   exact hK_8 _ (Can.kp (by kernel_rfl))
  ·subst hout
   refine Sa (sT [pR 1 0,pR 2 1,pR 3 3,(4,jI v),pR 5 4,(11,.d (.sl 4 (List.map e58 x.Hanks))),(12,jI (x.Hanks.length:Int)),(13,jI v),(20,jI (wr (x.Dark+1))),(21,jI v1),(22,.d (.bool (decide (v1<(wr (x.Dark+1))))))] [(4,.var 58 (cv58 p)),(3,.var 78 (catV (cv25 x) [.map 2])),(2,.mp (List.map m84_35 m1)),(1,.var 78 [.d (.nilSl),.d (.nilSl),jI 0,jI 0,jI 0,.d (.nilMap)]),(0,.var 25 (cv25 x))] 5 0) ?_
   refine AW.seqK (fun K_14 hK_14=>?_)
   refine AW.cond rfl (fun hb_15=>False.elim (by have:=of_decide_eq_true hb_15;omega)) (fun hb_15=>?_)
   refine AW.exit ?_
   refine hK_6 _ ?_
   refine Ra (sT [pR 1 0,pR 2 1,pR 3 3,(11,.d (.sl 4 (List.map e58 x.Hanks))),(12,jI (x.Hanks.length:Int)),(13,jI (wr (v+1)))] [(3,.var 78 (catV (cv25 x) [.map 2])),(2,.mp (List.map m84_35 m1)),(1,.var 78 [.d (.nilSl),.d (.nilSl),jI 0,jI 0,jI 0,.d (.nilMap)]),(0,.var 25 (cv25 x))] 5 0) ?_
   obtain rfl:=Option.some.inj h
   have ew:wr (v+1)=v+1:=inext (N:=(x.Hanks.length:Int)) (by omega) (by omega) (by omega)
   rw [ew]
   exact hK_3 _ (Can.kp (by kernel_rfl))
 ·subst hout
  refine Sa (sT [pR 1 0,pR 2 1,pR 3 3,(11,.d (.sl 4 (List.map e58 x.Hanks))),(12,jI (x.Hanks.length:Int)),(13,jI v),(14,.d (.bool (decide (v<(x.Hanks.length:Int)))))] (y2 x m) 4 0) ?_
  refine AW.seqK (fun K_16 hK_16=>?_)
  refine AW.cond rfl (fun hb_17=>False.elim (by have:=of_decide_eq_true hb_17;omega)) (fun hb_17=>?_)
  refine AW.exit ?_
  refine hK_1 _ ?_
  refine Sa (sT [pR 2 1] [(1,.var 78 (catV (cv25 x) [.map 2])),(2,.mp (List.map m84_35 m))] 4 0) ?_
  obtain rfl:=Option.some.inj h
  exact AW.ret (hR_0 _ (retXM (.cons (.agg rfl rfl (Nat.le_of_ble_eq_true rfl)) .nil) (FrzR.agg_of ⟨.of (.refl _),.of (.refl _),.of (.refl _),.of (.refl _),.of (.refl _),.mp rfl,trivial⟩) rfl (by kernel_rfl) (by kernel_rfl)))
def g58 (b_B:HairBook) (mf:List (Hair_dye×Span)) (n:Int):Option Bool:=(g57 n 0 (wr ((b_B.Hanks.length:Int) - 1))).bind fun r0=>some r0
theorem k58 (b_B:HairBook) (mf:List (Hair_dye×Span)) (n:Int) (r:Bool) (h:g58 b_B mf n=some r):SCall Tryd.prog Gs 58 [.agg (hbm b_B mf),jI n] [] 0 Fr.emp (.d (.bool r)) [] 0 Fr.emp:=by
 unfold g58 at h
 refine SCall.mkK Tryd.func58 c58 rfl rfl (by kernel_rfl) (fun Q_0 hR_0 hN_0=>?_)
 refine Sa (sT [(1,jI n),pR 2 0] [(0,.var 78 (hbm b_B mf))] 1 0) ?_
 refine AW.srwK (fun Q_1 hQ_1=>?_)
 refine Au 4 (sT [(5,jI n),(8,.d (.sl 4 (List.map e58 b_B.Hanks)))] [] 1 0) ?_
 refine rL rfl ?_
 refine Au 1 (sT [(5,jI n),(10,jI (wr ((b_B.Hanks.length:Int) - 1)))] [] 1 0) ?_
 obtain ⟨r0,hx_2,h⟩:=bsome h
 refine rC (k57 n 0 (wr ((b_B.Hanks.length:Int) - 1)) _ hx_2) ?_
 refine Au 1 (sT [(4,.d (.bool r0))] [] 1 0) ?_
 refine RW.nil (hQ_1 _ ?_)
 obtain rfl:=Option.some.inj h
 exact rT hR_0 (.cons (.tmp rfl) .nil)
def g56 (b_B:HairBook) (mf:List (Hair_dye×Span)) (o0:Int) (o1:HairBook) (o2:Int) (o3:Int):Option Bool:=(g57 o0 0 (wr ((o1.Horses.length:Int) - 1))).bind fun r0=>(bif r0 then ((g58 b_B mf o2).bind fun r0_1=>some r0_1) else (some false)).bind fun v=>(bif v then ((g58 b_B mf o3).bind fun r0_1_1=>some r0_1_1) else (some false)).bind fun v1=>some v1
def y3 (b_B:HairBook) (mf:List (Hair_dye×Span)) (o0:Int) (o1:HairBook) (o2:Int) (o3:Int):List (Nat×Blk):=[(4,.var 78 (hbm b_B mf)),(0,.var 3 [jI o0]),(1,.var 25 (cv25 o1)),(2,.var 3 [jI o2]),(3,.var 3 [jI o3])]
theorem k56 (b_B:HairBook) (mf:List (Hair_dye×Span)) (o0:Int) (o1:HairBook) (o2:Int) (o3:Int) (r:Bool) (h:g56 b_B mf o0 o1 o2 o3=some r):SCall Tryd.prog Gs 56 [.agg (hbm b_B mf),.ptr 0 0,.ptr 1 0,.ptr 2 0,.ptr 3 0] [(0,.var 3 [jI o0]),(1,.var 25 (cv25 o1)),(2,.var 3 [jI o2]),(3,.var 3 [jI o3])] 4 Fr.emp (.d (.bool r)) [(0,.var 3 [jI o0]),(1,.var 25 (cv25 o1)),(2,.var 3 [jI o2]),(3,.var 3 [jI o3])] 4 Fr.emp:=by
 unfold g56 at h
 refine SCall.mkK Tryd.func56 c56 rfl rfl (by kernel_rfl) (fun Q_0 hR_0 hN_0=>?_)
 refine Sa (sT [pR 1 0,pR 2 1,pR 3 2,pR 4 3,pR 5 4] (y3 b_B mf o0 o1 o2 o3) 5 4) ?_
 refine AW.srwK (fun Q_1 hQ_1=>?_)
 refine Au 3 (sT [pR 3 2,pR 4 3,pR 5 4,(7,jI o0),(9,.d (.sl 3 (List.map e69 o1.Horses)))] (y3 b_B mf o0 o1 o2 o3) 5 4) ?_
 refine rL rfl ?_
 refine Au 1 (sT [pR 3 2,pR 4 3,pR 5 4,(7,jI o0),(11,jI (wr ((o1.Horses.length:Int) - 1)))] (y3 b_B mf o0 o1 o2 o3) 5 4) ?_
 obtain ⟨r0,hx_2,h⟩:=bsome h
 refine rC (k57 o0 0 (wr ((o1.Horses.length:Int) - 1)) _ hx_2) ?_
 refine Au 1 (sT [pR 3 2,pR 4 3,pR 5 4,(13,.d (.bool r0))] (y3 b_B mf o0 o1 o2 o3) 5 4) ?_
 obtain ⟨v,hx_3,h⟩:=bsome h
 refine RW.cut fokW 4 ((sT [pR 4 3,pR 5 4,(17,.d (.bool v))] (y3 b_B mf o0 o1 o2 o3) 5 4)) ?_ ?_
 ·refine r_split 13 rfl (fun hb_5=>?_) (fun hb_5=>?_)
  ·have h:=ifT hb_5 hx_3
   refine aX 2 (sT [pR 4 3,pR 5 4,(13,.d (.bool true)),(14,.agg (hbm b_B mf)),(15,jI o2)] (y3 b_B mf o0 o1 o2 o3) 5 4) ?_
   obtain ⟨r0_1,hx_4,h⟩:=bsome h
   refine r_call rfl rfl (k58 b_B mf o2 _ hx_4) rfl rfl ?_
   refine aX 1 (sT [pR 4 3,pR 5 4,(17,.d (.bool r0_1))] (y3 b_B mf o0 o1 o2 o3) 5 4) ?_
   obtain rfl:=Option.some.inj h
   refine RunC.finJ (Can.kp (by kernel_rfl))
  ·have h:=ifF hb_5 hx_3
   refine aX 4 (sT [pR 4 3,pR 5 4,(17,.d (.bool false))] (y3 b_B mf o0 o1 o2 o3) 5 4) ?_
   obtain rfl:=Option.some.inj h
   refine RunC.finJ (Can.kp (by kernel_rfl))
 ·refine Au 1 (sT [pR 4 3,pR 5 4,(18,.d (.bool v))] (y3 b_B mf o0 o1 o2 o3) 5 4) ?_
  obtain ⟨v1,hx_6,h⟩:=bsome h
  refine RW.cut fokW 4 ((sT [(22,.d (.bool v1))] [(0,.var 3 [jI o0]),(1,.var 25 (cv25 o1)),(2,.var 3 [jI o2]),(3,.var 3 [jI o3])] 5 4)) ?_ ?_
  ·refine r_split 18 rfl (fun hb_8=>?_) (fun hb_8=>?_)
   ·have h:=ifT hb_8 hx_6
    refine aX 2 (sT [(18,.d (.bool true)),(19,.agg (hbm b_B mf)),(20,jI o3)] (y3 b_B mf o0 o1 o2 o3) 5 4) ?_
    obtain ⟨r0_1_1,hx_7,h⟩:=bsome h
    refine r_call rfl rfl (k58 b_B mf o3 _ hx_7) rfl rfl ?_
    refine aX 1 (sT [(22,.d (.bool r0_1_1))] (y3 b_B mf o0 o1 o2 o3) 5 4) ?_
    obtain rfl:=Option.some.inj h
    refine RunC.finJ (Can.kp (by kernel_rfl))
   ·have h:=ifF hb_8 hx_6
    refine aX 4 (sT [(22,.d (.bool false))] (y3 b_B mf o0 o1 o2 o3) 5 4) ?_
    obtain rfl:=Option.some.inj h
    refine RunC.finJ (Can.kp (by kernel_rfl))
  ·refine Au 1 (sT [(6,.d (.bool v1))] [(0,.var 3 [jI o0]),(1,.var 25 (cv25 o1)),(2,.var 3 [jI o2]),(3,.var 3 [jI o3])] 5 4) ?_
   refine RW.nil (hQ_1 _ ?_)
   obtain rfl:=Option.some.inj h
   exact rT hR_0 (.cons (.tmp rfl) .nil)
def g55 (x:HairBook) (o0:Int) (o1:HairBook) (o2:Int) (o3:Int):Option (Ctl (HairBook×Int) (HairBook×(List (Hair_dye×Span))×Int)):=(g17 x).bind fun r0_9=>bif (decide (r0_9≠0)) then (some (.next ((HairBook.mk [] [] 0 0 0),r0_9))) else ((g80 x).bind fun (r0_B,mf)=>(g56 r0_B mf o0 o1 o2 o3).bind fun r0_2=>bif (!r0_2) then (some (.brk (r0_B,mf,61))) else (some (.brk (r0_B,mf,0))))
def y4 (x:HairBook) (o0:Int) (o1:HairBook) (o2:Int) (o3:Int):List (Nat×Blk):=[(5,.var 78 [.d (.nilSl),.d (.nilSl),jI 0,jI 0,jI 0,.d (.nilMap)]),(4,.var 25 (cv25 x)),(0,.var 3 [jI o0]),(1,.var 25 (cv25 o1)),(2,.var 3 [jI o2]),(3,.var 3 [jI o3])]
def y5 (o0:Int) (o1:HairBook) (o2:Int) (o3:Int):List (Nat×Blk):=[(5,.var 78 [.d (.nilSl),.d (.nilSl),jI 0,jI 0,jI 0,.d (.nilMap)]),(0,.var 3 [jI o0]),(1,.var 25 (cv25 o1)),(2,.var 3 [jI o2]),(3,.var 3 [jI o3])]
theorem k55 (x:HairBook) (o0:Int) (o1:HairBook) (o2:Int) (o3:Int) (r:Ctl (HairBook×Int) (HairBook×(List (Hair_dye×Span))×Int)) (h:g55 x o0 o1 o2 o3=some r):SCall Tryd.prog Gs 55 [.agg (cv25 x),.clo 56 [] [.ptr 0 0,.ptr 1 0,.ptr 2 0,.ptr 3 0]] [(0,.var 3 [jI o0]),(1,.var 25 (cv25 o1)),(2,.var 3 [jI o2]),(3,.var 3 [jI o3])] 4 Fr.emp (match r with | .next (r0_B4,r1_1)=>.tup [.agg [.d (.sl 4 (List.map e58 r0_B4.Hanks)),.d (.sl 3 (List.map e69 r0_B4.Horses)),jI r0_B4.Dark,jI r0_B4.Near,jI r0_B4.Match,.d (.nilMap)],jI r1_1] | .brk (r0_B5,mf2,r1_2)=>.tup [.agg (hbm r0_B5 mf2),jI r1_2]) (match r with | .next (r0_B4,r1_1)=>[(0,.var 3 [jI o0]),(1,.var 25 (cv25 o1)),(2,.var 3 [jI o2]),(3,.var 3 [jI o3])] | .brk (r0_B5,mf2,r1_2)=>[(0,.var 3 [jI o0]),(1,.var 25 (cv25 o1)),(2,.var 3 [jI o2]),(3,.var 3 [jI o3])]) 4 Fr.emp:=by
 unfold g55 at h
 refine SCall.mkK Tryd.func55 c55 rfl (by rcases r with _ | _<;>rfl) (by rcases r with _ | _<;>kernel_rfl) (fun Q_0 hR_0 hN_0=>?_)
 refine Sa (sT [(1,.clo 56 [] [.ptr 0 0,.ptr 1 0,.ptr 2 0,.ptr 3 0]),pR 2 4,pR 4 5] (y4 x o0 o1 o2 o3) 6 4) ?_
 refine AW.seqK fun K_1 hK_1=>AW.srwK fun Q_2 hQ_2=>?_
 refine Au 1 (sT [(1,.clo 56 [] [.ptr 0 0,.ptr 1 0,.ptr 2 0,.ptr 3 0]),pR 2 4,pR 4 5,(8,.agg (cv25 x))] (y4 x o0 o1 o2 o3) 6 4) ?_
 obtain ⟨r0_9,hx_3,h⟩:=bsome h
 refine rC (k17 x _ hx_3) ?_
 refine Au 1 (sT [(1,.clo 56 [] [.ptr 0 0,.ptr 1 0,.ptr 2 0,.ptr 3 0]),pR 2 4,pR 4 5,(6,jI r0_9)] (y4 x o0 o1 o2 o3) 6 4) ?_
 refine RW.nil (hQ_2 _ ?_)
 refine Sa (sT [(1,.clo 56 [] [.ptr 0 0,.ptr 1 0,.ptr 2 0,.ptr 3 0]),pR 2 4,pR 4 5,(6,jI r0_9),(11,.d (.bool (decide (r0_9≠0))))] (y4 x o0 o1 o2 o3) 6 4) ?_
 refine AW.cond rfl (fun hb_4=>?_) (fun hb_4=>?_)
 ·have h:=ifT hb_4 h
  refine Sa (sT [pR 4 5,(5,jI r0_9)] (y5 o0 o1 o2 o3) 6 4) ?_
  obtain rfl:=Option.some.inj h
  exact AW.ret (hR_0 _ (retX (.cons (.agg rfl rfl (Nat.le_of_ble_eq_true rfl)) (.cons (.tmp rfl) .nil)) (Frz.tup_of ⟨Frz.agg_of ⟨(.nil 4),(.nil 3),.refl _,.refl _,.refl _,.refl _,trivial⟩,.refl _,trivial⟩) rfl (by kernel_rfl) (by kernel_rfl)))
 ·have h:=ifF hb_4 h
  refine AW.skip (hK_1 _ ?_)
  refine AW.srwK (fun Q_5 hQ_5=>?_)
  refine Au 1 (sT [(1,.clo 56 [] [.ptr 0 0,.ptr 1 0,.ptr 2 0,.ptr 3 0]),pR 4 5,(14,.agg (cv25 x))] (y5 o0 o1 o2 o3) 6 4) ?_
  obtain ⟨⟨r0_B,mf⟩,hx_6,h⟩:=bsome h
  refine rC (k80 x _ hx_6) ?_
  refine Au 2 (sT [(1,.clo 56 [] [.ptr 0 0,.ptr 1 0,.ptr 2 0,.ptr 3 0]),pR 4 5,pR 7 6] [(6,.var 78 (hbm r0_B mf)),(5,.var 78 [.d (.nilSl),.d (.nilSl),jI 0,jI 0,jI 0,.d (.nilMap)]),(0,.var 3 [jI o0]),(1,.var 25 (cv25 o1)),(2,.var 3 [jI o2]),(3,.var 3 [jI o3])] 7 4) ?_
  refine RW.nil (hQ_5 _ ?_)
  refine AW.seqK fun K_7 hK_7=>AW.srwK fun Q_8 hQ_8=>?_
  refine Au 2 (sT [pR 4 5,pR 7 6,(16,.clo 56 [] [.ptr 0 0,.ptr 1 0,.ptr 2 0,.ptr 3 0]),(17,.agg (hbm r0_B mf))] [(6,.var 78 (hbm r0_B mf)),(5,.var 78 [.d (.nilSl),.d (.nilSl),jI 0,jI 0,jI 0,.d (.nilMap)]),(0,.var 3 [jI o0]),(1,.var 25 (cv25 o1)),(2,.var 3 [jI o2]),(3,.var 3 [jI o3])] 7 4) ?_
  obtain ⟨r0_2,hx_9,h⟩:=bsome h
  refine RW.one fokW (r_callvE (zr:=[]) [0,1,2,3] trivial rfl (.clo _ _ _) (by kernel_rfl) rfl (k56 r0_B mf o0 o1 o2 o3 _ hx_9) ⟨rfl,rfl,rfl,rfl,trivial⟩ rfl rfl ⟨.refl _,.refl _,.refl _,.refl _,.refl _,trivial⟩ rfl rfl rfl (r_end ?_))
  refine Au 1 (sT [pR 4 5,pR 7 6,(19,.d (.bool (!r0_2)))] [(0,.var 3 [jI o0]),(1,.var 25 (cv25 o1)),(2,.var 3 [jI o2]),(3,.var 3 [jI o3]),(6,.var 78 (hbm r0_B mf)),(5,.var 78 [.d (.nilSl),.d (.nilSl),jI 0,jI 0,jI 0,.d (.nilMap)])] 7 4) ?_
  refine RW.nil (hQ_8 _ ?_)
  refine AW.cond rfl (fun hb_10=>?_) (fun hb_10=>?_)
  ·have h:=ifT hb_10 h
   refine Sa (sT [pR 4 5,(5,jI 61)] [(5,.var 78 (hbm r0_B mf)),(0,.var 3 [jI o0]),(1,.var 25 (cv25 o1)),(2,.var 3 [jI o2]),(3,.var 3 [jI o3])] 7 4) ?_
   obtain rfl:=Option.some.inj h
   exact rT hR_0 (.cons (.agg rfl rfl (Nat.le_of_ble_eq_true rfl)) (.cons (.tmp rfl) .nil))
  ·have h:=ifF hb_10 h
   refine AW.skip (hK_7 _ ?_)
   refine Sa (sT [pR 4 5,(5,jI 0)] [(5,.var 78 (hbm r0_B mf)),(0,.var 3 [jI o0]),(1,.var 25 (cv25 o1)),(2,.var 3 [jI o2]),(3,.var 3 [jI o3])] 7 4) ?_
   obtain rfl:=Option.some.inj h
   exact rT hR_0 (.cons (.agg rfl rfl (Nat.le_of_ble_eq_true rfl)) (.cons (.tmp rfl) .nil))
def g113_3:Int→Int→Int→Option Int:=fun v p first1=>some (max first1 p)
def g113 (first:Int) (l:(List Int)):Option Int:=(eachS g113_3 l 0 first).bind fun first1=>some first1
theorem k113 (first:Int) (l:(List Int)) (r:Int) (h:g113 first l=some r):SCall Tryd.prog Gs 113 [jI first,.d (q1 l)] [] 0 Fr.emp (jI r) [] 0 Fr.emp:=by
 unfold g113 at h
 refine SCall.mkK Tryd.func113 c113 rfl rfl (by kernel_rfl) (fun Q_0 hR_0 hN_0=>?_)
 refine Sa (sT [(0,jI first),(1,.d (q1 l))] [] 0 0) ?_
 refine AW.seqK fun K_1 hK_1=>AW.srwK fun Q_2 hQ_2=>?_
 refine Au 1 (sT [(0,jI first),(7,.d (q1 l))] [] 0 0) ?_
 refine rL rfl ?_
 refine Au 1 (sT [(0,jI first),(7,.d (q1 l)),(8,jI (l.length:Int)),(9,jI 0)] [] 0 0) ?_
 refine RW.nil (hQ_2 _ ?_)
 refine AW.block ?_
 refine AW.sln (t:=7) rfl (fun hN_3=>?_)
 rw [List.length_map] at hN_3
 obtain ⟨out_3,hx_3,h⟩:=bsome h
 refine AW.evSK (fun (v:Int) (first1:Int)=>(sT [(0,jI first1),(7,.d (q1 l)),(8,jI (l.length:Int)),(9,jI v)] [] 0 0)) g113_3 hx_3 (Can.kp (by kernel_rfl)) (fun v p first1 hi_3 hl_3 hp_3 c_3 h K_3 hK_3=>?_) (fun v first1 hi_3 hl_3 hout=>?_)
 ·unfold g113_3 at h
  refine Sa (sT [(0,jI first1),(7,.d (q1 l)),(8,jI (l.length:Int)),(9,jI v),(10,.d (.bool (decide (v<(l.length:Int)))))] [] 0 0) ?_
  refine AW.seqK (fun K_4 hK_4=>?_)
  refine AW.cond rfl (fun hb_5=>?_) (fun hb_5=>False.elim (by have:=of_decide_eq_false hb_5;omega))
  refine AW.skip (hK_4 _ ?_)
  refine AW.seqK (fun K_6 hK_6=>?_)
  refine AW.block ?_
  refine AW.srwK (fun Q_7 hQ_7=>?_)
  refine RW.one fokW (r_iaD trivial rfl rfl hi_3 (row:=e3 p) (mapget hp_3) (r_end ?_))
  refine Au 2 (sT [(0,jI first1),(6,jI p),(7,.d (q1 l)),(8,jI (l.length:Int)),(9,jI v)] [] 0 0) ?_
  refine RW.nil (hQ_7 _ ?_)
  refine Ra (sT [(0,jI (max first1 p)),(7,.d (q1 l)),(8,jI (l.length:Int)),(9,jI v)] [] 0 0) ?_
  refine hK_6 _ ?_
  refine Ra (sT [(0,jI (max first1 p)),(7,.d (q1 l)),(8,jI (l.length:Int)),(9,jI (wr (v+1)))] [] 0 0) ?_
  obtain rfl:=Option.some.inj h
  have ew:wr (v+1)=v+1:=inext (N:=(l.length:Int)) (by omega) (by omega) (by omega)
  rw [ew]
  exact hK_3 _ (Can.kp (by kernel_rfl))
 ·subst hout
  refine Sa (sT [(0,jI first1),(7,.d (q1 l)),(8,jI (l.length:Int)),(9,jI v),(10,.d (.bool (decide (v<(l.length:Int)))))] [] 0 0) ?_
  refine AW.seqK (fun K_8 hK_8=>?_)
  refine AW.cond rfl (fun hb_9=>False.elim (by have:=of_decide_eq_true hb_9;omega)) (fun hb_9=>?_)
  refine AW.exit ?_
  refine hK_1 _ ?_
  refine Sa (sT [(4,jI first1)] [] 0 0) ?_
  obtain rfl:=Option.some.inj h
  exact rT hR_0 (.cons (.tmp rfl) .nil)
def g100 (b_B:HairBook) (mf:List (Hair_dye×Span)) (horse:Int) (mane:Hair_dye) (tail:Hair_dye):Option Bool:=(ixL b_B.Horses horse).bind fun p=>(g113 (wr ((((mget q84 mf mane).getD (Span.mk 0 0)).High) - p.Shade)) [(wr (p.Shade - (((mget q84 mf mane).getD (Span.mk 0 0)).Low))),(wr ((((mget q84 mf tail).getD (Span.mk 0 0)).High) - p.Shade)),(wr (p.Shade - (((mget q84 mf tail).getD (Span.mk 0 0)).Low)))]).bind fun r0=>bif (decide (b_B.Near<r0)) then (some false) else (bif (decide (mane.hank=tail.hank)) then ((bif (false != ((mane.hank==tail.hank)&&((mane.steps==tail.steps)&&true))) then (some true) else ((g57 (wr (mane.steps - tail.steps)) (wr (-b_B.Match)) b_B.Match).bind fun r0_1=>some r0_1)).bind fun v=>some v) else ((g113 (wr ((((mget q84 mf mane).getD (Span.mk 0 0)).High) - (((mget q84 mf tail).getD (Span.mk 0 0)).Low))) [(wr ((((mget q84 mf tail).getD (Span.mk 0 0)).High) - (((mget q84 mf mane).getD (Span.mk 0 0)).Low)))]).bind fun r0_2=>some (decide (r0_2≤b_B.Match))))
def y6 (tail:Hair_dye) (mane:Hair_dye) (b_B:HairBook) (mf:List (Hair_dye×Span)):List (Nat×Blk):=[(2,.var 84 [jI tail.hank,jI tail.steps]),(1,.var 84 [jI mane.hank,jI mane.steps]),(0,.var 78 (hbm b_B mf))]
theorem k100 (b_B:HairBook) (mf:List (Hair_dye×Span)) (horse:Int) (mane:Hair_dye) (tail:Hair_dye) (r:Bool) (h:g100 b_B mf horse mane tail=some r):SCall Tryd.prog Gs 100 [.agg (hbm b_B mf),jI horse,.agg [jI mane.hank,jI mane.steps],.agg [jI tail.hank,jI tail.steps]] [] 0 Fr.emp (.d (.bool r)) [] 0 Fr.emp:=by
 unfold g100 at h
 refine SCall.mkK Tryd.func100 c100 rfl rfl (by kernel_rfl) (fun Q_0 hR_0 hN_0=>?_)
 refine Sa (sT [(1,jI horse),pR 4 0,pR 6 1,pR 7 2] (y6 tail mane b_B mf) 3 0) ?_
 refine AW.srwK (fun Q_1 hQ_1=>?_)
 refine Au 4 (sT [pR 4 0,pR 6 1,pR 7 2,(14,.d (.sl 3 (List.map e69 b_B.Horses))),(15,jI horse)] (y6 tail mane b_B mf) 3 0) ?_
 obtain ⟨p,hv_2,h⟩:=bsome h
 refine RW.one fokW (r_iaD trivial rfl rfl (ixL_ok hv_2).1 (row:=e69 p) (mapget (ixL_ok hv_2).2) (r_end ?_))
 refine Au 3 (sT [pR 4 0,pR 6 1,pR 7 2,(9,jI p.Shade)] (y6 tail mane b_B mf) 3 0) ?_
 refine RW.nil (hQ_1 _ ?_)
 refine AW.sdrwK fokW (fun Q_3 hQ_3=>?_)
 refine aX 3 (sT [pR 4 0,pR 6 1,pR 7 2,(9,jI p.Shade),(20,.fmp (List.map m84_35 mf)),(21,.agg [jI mane.hank,jI mane.steps])] (y6 tail mane b_B mf) 3 0) ?_
 refine r_lookFA q84 e84 e35 mf mane (Span.mk 0 0) trivial rfl rfl ft84 q84_ok (fun _=>rfl) rfl ?_
 refine aX 3 (sT [pR 4 0,pR 6 1,pR 7 2,(9,jI p.Shade),(22,.agg [jI (((mget q84 mf mane).getD (Span.mk 0 0)).Low),jI (((mget q84 mf mane).getD (Span.mk 0 0)).High)]),(24,.fmp (List.map m84_35 mf)),(25,.agg [jI tail.hank,jI tail.steps])] (y6 tail mane b_B mf) 3 0) ?_
 refine r_lookFA q84 e84 e35 mf tail (Span.mk 0 0) trivial rfl rfl ft84 q84_ok (fun _=>rfl) rfl ?_
 refine aX 4 (sT [pR 4 0,pR 6 1,pR 7 2,(9,jI p.Shade),pR 10 3,pR 11 4] [(4,.var 35 [jI (((mget q84 mf tail).getD (Span.mk 0 0)).Low),jI (((mget q84 mf tail).getD (Span.mk 0 0)).High)]),(3,.var 35 [jI (((mget q84 mf mane).getD (Span.mk 0 0)).Low),jI (((mget q84 mf mane).getD (Span.mk 0 0)).High)]),(2,.var 84 [jI tail.hank,jI tail.steps]),(1,.var 84 [jI mane.hank,jI mane.steps]),(0,.var 78 (hbm b_B mf))] 5 0) ?_
 refine Fi (sT [pR 4 0,pR 6 1,pR 7 2,(9,jI p.Shade),pR 10 3,pR 11 4] [(4,.var 35 [jI (((mget q84 mf tail).getD (Span.mk 0 0)).Low),jI (((mget q84 mf tail).getD (Span.mk 0 0)).High)]),(3,.var 35 [jI (((mget q84 mf mane).getD (Span.mk 0 0)).Low),jI (((mget q84 mf mane).getD (Span.mk 0 0)).High)]),(2,.var 84 [jI tail.hank,jI tail.steps]),(1,.var 84 [jI mane.hank,jI mane.steps]),(0,.var 78 (hbm b_B mf))] 5 0) ?_
 refine hQ_3 _ ?_
 refine AW.seqK (fun K_4 hK_4=>?_)
 refine AW.sdrwK fokW (fun Q_5 hQ_5=>?_)
 refine aX 17 (sT [pR 4 0,pR 6 1,pR 7 2,pR 10 3,pR 11 4,(30,jI (wr ((((mget q84 mf mane).getD (Span.mk 0 0)).High) - p.Shade))),(43,.own 5 (List.map e3 [(wr (p.Shade - (((mget q84 mf mane).getD (Span.mk 0 0)).Low))),(wr ((((mget q84 mf tail).getD (Span.mk 0 0)).High) - p.Shade)),(wr (p.Shade - (((mget q84 mf tail).getD (Span.mk 0 0)).Low)))]).length)] [(5,.row 3 1 (List.map e3 [(wr (p.Shade - (((mget q84 mf mane).getD (Span.mk 0 0)).Low))),(wr ((((mget q84 mf tail).getD (Span.mk 0 0)).High) - p.Shade)),(wr (p.Shade - (((mget q84 mf tail).getD (Span.mk 0 0)).Low)))])),(4,.var 35 [jI (((mget q84 mf tail).getD (Span.mk 0 0)).Low),jI (((mget q84 mf tail).getD (Span.mk 0 0)).High)]),(3,.var 35 [jI (((mget q84 mf mane).getD (Span.mk 0 0)).Low),jI (((mget q84 mf mane).getD (Span.mk 0 0)).High)]),(2,.var 84 [jI tail.hank,jI tail.steps]),(1,.var 84 [jI mane.hank,jI mane.steps]),(0,.var 78 (hbm b_B mf))] 6 0) ?_
 obtain ⟨r0,hx_6,h⟩:=bsome h
 refine r_callF (rs:=[(5,.row 3 1 (List.map e3 [(wr (p.Shade - (((mget q84 mf mane).getD (Span.mk 0 0)).Low))),(wr ((((mget q84 mf tail).getD (Span.mk 0 0)).High) - p.Shade)),(wr (p.Shade - (((mget q84 mf tail).getD (Span.mk 0 0)).Low)))]))]) trivial rfl (k113 (wr ((((mget q84 mf mane).getD (Span.mk 0 0)).High) - p.Shade)) [(wr (p.Shade - (((mget q84 mf mane).getD (Span.mk 0 0)).Low))),(wr ((((mget q84 mf tail).getD (Span.mk 0 0)).High) - p.Shade)),(wr (p.Shade - (((mget q84 mf tail).getD (Span.mk 0 0)).Low)))] _ hx_6) ⟨rfl,trivial⟩ ⟨.refl _,(.own rfl rfl),trivial⟩ rfl rfl rfl ?_
 refine aX 4 (sT [pR 4 0,pR 6 1,pR 7 2,pR 10 3,pR 11 4,(48,.d (.bool (decide (b_B.Near<r0))))] [(5,.row 3 1 (List.map e3 [(wr (p.Shade - (((mget q84 mf mane).getD (Span.mk 0 0)).Low))),(wr ((((mget q84 mf tail).getD (Span.mk 0 0)).High) - p.Shade)),(wr (p.Shade - (((mget q84 mf tail).getD (Span.mk 0 0)).Low)))])),(4,.var 35 [jI (((mget q84 mf tail).getD (Span.mk 0 0)).Low),jI (((mget q84 mf tail).getD (Span.mk 0 0)).High)]),(3,.var 35 [jI (((mget q84 mf mane).getD (Span.mk 0 0)).Low),jI (((mget q84 mf mane).getD (Span.mk 0 0)).High)]),(2,.var 84 [jI tail.hank,jI tail.steps]),(1,.var 84 [jI mane.hank,jI mane.steps]),(0,.var 78 (hbm b_B mf))] 6 0) ?_
 refine Fi (sT [pR 4 0,pR 6 1,pR 7 2,pR 10 3,pR 11 4,(48,.d (.bool (decide (b_B.Near<r0))))] [(4,.var 35 [jI (((mget q84 mf tail).getD (Span.mk 0 0)).Low),jI (((mget q84 mf tail).getD (Span.mk 0 0)).High)]),(3,.var 35 [jI (((mget q84 mf mane).getD (Span.mk 0 0)).Low),jI (((mget q84 mf mane).getD (Span.mk 0 0)).High)]),(2,.var 84 [jI tail.hank,jI tail.steps]),(1,.var 84 [jI mane.hank,jI mane.steps]),(0,.var 78 (hbm b_B mf))] 6 0) ?_
 refine hQ_5 _ ?_
 refine AW.cond rfl (fun hb_7=>?_) (fun hb_7=>?_)
 ·have h:=ifT hb_7 h
  refine Sa (sT [(8,.d (.bool false))] [] 6 0) ?_
  obtain rfl:=Option.some.inj h
  exact rT hR_0 (.cons (.tmp rfl) .nil)
 ·have h:=ifF hb_7 h
  refine AW.skip (hK_4 _ ?_)
  refine AW.seqK (fun K_8 hK_8=>?_)
  refine Sa (sT [pR 4 0,pR 6 1,pR 7 2,pR 10 3,pR 11 4,(53,.d (.bool (decide (mane.hank=tail.hank))))] [(4,.var 35 [jI (((mget q84 mf tail).getD (Span.mk 0 0)).Low),jI (((mget q84 mf tail).getD (Span.mk 0 0)).High)]),(3,.var 35 [jI (((mget q84 mf mane).getD (Span.mk 0 0)).Low),jI (((mget q84 mf mane).getD (Span.mk 0 0)).High)]),(2,.var 84 [jI tail.hank,jI tail.steps]),(1,.var 84 [jI mane.hank,jI mane.steps]),(0,.var 78 (hbm b_B mf))] 6 0) ?_
  refine AW.cond rfl (fun hb_9=>?_) (fun hb_9=>?_)
  ·have h:=ifT hb_9 h
   refine AW.srwK (fun Q_10 hQ_10=>?_)
   refine Au 2 (sT [pR 4 0,pR 6 1,pR 7 2,(54,.agg [jI mane.hank,jI mane.steps]),(55,.agg [jI tail.hank,jI tail.steps])] (y6 tail mane b_B mf) 6 0) ?_
   refine RW.one fokW (r_aeq trivial rfl rfl rfl rfl ft84 rfl rfl rfl (r_end ?_))
   refine Au 1 (sT [pR 4 0,pR 6 1,pR 7 2,(57,.d (.bool (false != ((mane.hank==tail.hank)&&((mane.steps==tail.steps)&&true)))))] (y6 tail mane b_B mf) 6 0) ?_
   obtain ⟨v,hx_11,h⟩:=bsome h
   refine RW.cut fokW 14 ((sT [(71,.d (.bool v))] [] 6 0)) ?_ ?_
   ·refine r_split 57 rfl (fun hb_13=>?_) (fun hb_13=>?_)
    ·have h:=ifT hb_13 hx_11
     refine aX 14 (sT [(71,.d (.bool true))] (y6 tail mane b_B mf) 6 0) ?_
     obtain rfl:=Option.some.inj h
     refine RunC.finJ (Can.kp (by kernel_rfl))
    ·have h:=ifF hb_13 hx_11
     refine aX 12 (sT [(57,.d (.bool false)),(62,jI (wr (mane.steps - tail.steps))),(66,jI (wr (-b_B.Match))),(69,jI b_B.Match)] (y6 tail mane b_B mf) 6 0) ?_
     obtain ⟨r0_1,hx_12,h⟩:=bsome h
     refine r_call rfl rfl (k57 (wr (mane.steps - tail.steps)) (wr (-b_B.Match)) b_B.Match _ hx_12) rfl rfl ?_
     refine aX 1 (sT [(71,.d (.bool r0_1))] (y6 tail mane b_B mf) 6 0) ?_
     obtain rfl:=Option.some.inj h
     refine RunC.finJ (Can.kp (by kernel_rfl))
   ·refine Au 1 (sT [(8,.d (.bool v))] [] 6 0) ?_
    refine RW.nil (hQ_10 _ ?_)
    obtain rfl:=Option.some.inj h
    exact rT hR_0 (.cons (.tmp rfl) .nil)
  ·have h:=ifF hb_9 h
   refine AW.skip (hK_8 _ ?_)
   refine AW.sdrwK fokW (fun Q_14 hQ_14=>?_)
   refine aX 11 (sT [pR 4 0,(76,jI (wr ((((mget q84 mf mane).getD (Span.mk 0 0)).High) - (((mget q84 mf tail).getD (Span.mk 0 0)).Low)))),(82,.own 6 (List.map e3 [(wr ((((mget q84 mf tail).getD (Span.mk 0 0)).High) - (((mget q84 mf mane).getD (Span.mk 0 0)).Low)))]).length)] [(6,.row 3 1 (List.map e3 [(wr ((((mget q84 mf tail).getD (Span.mk 0 0)).High) - (((mget q84 mf mane).getD (Span.mk 0 0)).Low)))])),(4,.var 35 [jI (((mget q84 mf tail).getD (Span.mk 0 0)).Low),jI (((mget q84 mf tail).getD (Span.mk 0 0)).High)]),(3,.var 35 [jI (((mget q84 mf mane).getD (Span.mk 0 0)).Low),jI (((mget q84 mf mane).getD (Span.mk 0 0)).High)]),(2,.var 84 [jI tail.hank,jI tail.steps]),(1,.var 84 [jI mane.hank,jI mane.steps]),(0,.var 78 (hbm b_B mf))] 7 0) ?_
   obtain ⟨r0_2,hx_15,h⟩:=bsome h
   refine r_callF (rs:=[(6,.row 3 1 (List.map e3 [(wr ((((mget q84 mf tail).getD (Span.mk 0 0)).High) - (((mget q84 mf mane).getD (Span.mk 0 0)).Low)))]))]) trivial rfl (k113 (wr ((((mget q84 mf mane).getD (Span.mk 0 0)).High) - (((mget q84 mf tail).getD (Span.mk 0 0)).Low))) [(wr ((((mget q84 mf tail).getD (Span.mk 0 0)).High) - (((mget q84 mf mane).getD (Span.mk 0 0)).Low)))] _ hx_15) ⟨rfl,trivial⟩ ⟨.refl _,(.own rfl rfl),trivial⟩ rfl rfl rfl ?_
   refine aX 5 (sT [(8,.d (.bool (decide (r0_2≤b_B.Match))))] [(6,.row 3 1 (List.map e3 [(wr ((((mget q84 mf tail).getD (Span.mk 0 0)).High) - (((mget q84 mf mane).getD (Span.mk 0 0)).Low)))])),(4,.var 35 [jI (((mget q84 mf tail).getD (Span.mk 0 0)).Low),jI (((mget q84 mf tail).getD (Span.mk 0 0)).High)]),(3,.var 35 [jI (((mget q84 mf mane).getD (Span.mk 0 0)).Low),jI (((mget q84 mf mane).getD (Span.mk 0 0)).High)]),(2,.var 84 [jI tail.hank,jI tail.steps]),(1,.var 84 [jI mane.hank,jI mane.steps]),(0,.var 78 (hbm b_B mf))] 7 0) ?_
   refine Fi (sT [(8,.d (.bool (decide (r0_2≤b_B.Match))))] [] 7 0) ?_
   refine hQ_14 _ ?_
   obtain rfl:=Option.some.inj h
   exact rT hR_0 (.cons (.tmp rfl) .nil)
def g59_6 (b_B:HairBook) (mf:List (Hair_dye×Span)) (horse:Int) (mane:Int) (tail:Int) (v:Int):Int→Unit→Option (Ctl (Unit) (Ctl (Unit) (Hair_dye×Hair_dye×Bool))):=fun v1 _=>(g100 b_B mf horse (Hair_dye.mk mane v) (Hair_dye.mk tail v1)).bind fun r0_5=>bif r0_5 then (some (.brk (.brk ((Hair_dye.mk mane v),(Hair_dye.mk tail v1),true)))) else (some (.next ()))
def g59_2 (b_B:HairBook) (mf:List (Hair_dye×Span)) (horse:Int) (mane:Int) (tail:Int):Int→Unit→Option (Ctl (Unit) (Hair_dye×Hair_dye×Bool)):=fun v _=>bindC (forC (g59_6 b_B mf horse mane tail v) ((((wr (b_B.Dark+1)):Int) - 0).toNat) 0 ()) fun _=>some (.next ())
def g59 (b_B:HairBook) (mf:List (Hair_dye×Span)) (horse:Int) (mane:Int) (tail:Int):Option (Hair_dye×Hair_dye×Bool):=bindC (forC (g59_2 b_B mf horse mane tail) ((((wr (b_B.Dark+1)):Int) - 0).toNat) 0 ()) fun _=>some ((Hair_dye.mk 0 0),(Hair_dye.mk 0 0),false)
def y7 (b_B:HairBook) (mf:List (Hair_dye×Span)):List (Nat×Blk):=[(2,.var 84 [jI 0,jI 0]),(1,.var 84 [jI 0,jI 0]),(0,.var 78 (hbm b_B mf))]
theorem k59 (b_B:HairBook) (mf:List (Hair_dye×Span)) (horse:Int) (mane:Int) (tail:Int) (r:Hair_dye×Hair_dye×Bool) (h:g59 b_B mf horse mane tail=some r):SCall Tryd.prog Gs 59 [.agg (hbm b_B mf),jI horse,jI mane,jI tail] [] 0 Fr.emp (match r with | (r0_1,r1_1,r2_1)=>.tup [.agg [jI r0_1.hank,jI r0_1.steps],.agg [jI r1_1.hank,jI r1_1.steps],.d (.bool r2_1)]) [] 0 Fr.emp:=by
 unfold g59 at h
 refine SCall.mkK Tryd.func59 c59 rfl rfl (by kernel_rfl) (fun Q_0 hR_0 hN_0=>?_)
 refine Sa (sT [(1,jI horse),(2,jI mane),(3,jI tail),pR 4 0,pR 8 1,pR 9 2] (y7 b_B mf) 3 0) ?_
 refine Sa (sT [(1,jI horse),(2,jI mane),(3,jI tail),pR 4 0,pR 8 1,pR 9 2,(11,.clo 100 [.agg (hbm b_B mf)] [])] (y7 b_B mf) 3 0) ?_
 refine AW.seqK (fun K_1 hK_1=>?_)
 refine Sa (sT [(1,jI horse),(2,jI mane),(3,jI tail),pR 4 0,pR 8 1,pR 9 2,(11,.clo 100 [.agg (hbm b_B mf)] []),(19,jI (wr (b_B.Dark+1))),(20,jI 0)] (y7 b_B mf) 3 0) ?_
 refine AW.block ?_
 have hN_2:(wr (b_B.Dark+1))≤9223372036854775807:=(wr_range _).2
 obtain ⟨out_2,hx_2,hk_2⟩:=bsomeC h
 refine AW.lpCK (fun (v:Int) (_:Unit)=>(sT [(1,jI horse),(2,jI mane),(3,jI tail),pR 4 0,pR 8 1,pR 9 2,(11,.clo 100 [.agg (hbm b_B mf)] []),(19,jI (wr (b_B.Dark+1))),(20,jI v)] (y7 b_B mf) 3 0)) (g59_2 b_B mf horse mane tail) ((wr (b_B.Dark+1))) hx_2 (Can.kp (by kernel_rfl)) (fun v s_2 hi_2 hl_2 c_2 h hb_2 K_2 hK_2=>?_) (fun v s_2 hi_2 hl_2 hout=>?_)
 ·unfold g59_2 at h
  refine Sa (sT [(1,jI horse),(2,jI mane),(3,jI tail),pR 4 0,pR 8 1,pR 9 2,(11,.clo 100 [.agg (hbm b_B mf)] []),(19,jI (wr (b_B.Dark+1))),(20,jI v),(21,.d (.bool (decide (v<(wr (b_B.Dark+1))))))] (y7 b_B mf) 3 0) ?_
  refine AW.seqK (fun K_3 hK_3=>?_)
  refine AW.cond rfl (fun hb_4=>?_) (fun hb_4=>False.elim (by have:=of_decide_eq_false hb_4;omega))
  refine AW.skip (hK_3 _ ?_)
  refine AW.seqK (fun K_5 hK_5=>?_)
  refine AW.block ?_
  refine Sa (sT [(1,jI horse),(2,jI mane),(3,jI tail),pR 4 0,pR 8 1,pR 9 2,(11,.clo 100 [.agg (hbm b_B mf)] []),(12,jI v),(19,jI (wr (b_B.Dark+1))),(20,jI v)] (y7 b_B mf) 3 0) ?_
  refine Sa (sT [(1,jI horse),(2,jI mane),(3,jI tail),pR 4 0,pR 8 1,pR 9 2,(11,.clo 100 [.agg (hbm b_B mf)] []),(12,jI v),(19,jI (wr (b_B.Dark+1))),(20,jI v),(26,jI (wr (b_B.Dark+1))),(27,jI 0)] (y7 b_B mf) 3 0) ?_
  refine AW.block ?_
  have hN_6:(wr (b_B.Dark+1))≤9223372036854775807:=(wr_range _).2
  obtain ⟨out_6,hx_6,hk_6⟩:=bsomeC h
  refine AW.lpCK (fun (v1:Int) (_:Unit)=>(sT [(1,jI horse),(2,jI mane),(3,jI tail),pR 4 0,pR 8 1,pR 9 2,(11,.clo 100 [.agg (hbm b_B mf)] []),(12,jI v),(19,jI (wr (b_B.Dark+1))),(20,jI v),(26,jI (wr (b_B.Dark+1))),(27,jI v1)] (y7 b_B mf) 3 0)) (g59_6 b_B mf horse mane tail v) ((wr (b_B.Dark+1))) hx_6 (Can.kp (by kernel_rfl)) (fun v1 s_6 hi_6 hl_6 c_6 h hb_6 K_6 hK_6=>?_) (fun v1 s_6 hi_6 hl_6 hout=>?_)
  ·unfold g59_6 at h
   refine Sa (sT [(1,jI horse),(2,jI mane),(3,jI tail),pR 4 0,pR 8 1,pR 9 2,(11,.clo 100 [.agg (hbm b_B mf)] []),(12,jI v),(19,jI (wr (b_B.Dark+1))),(20,jI v),(26,jI (wr (b_B.Dark+1))),(27,jI v1),(28,.d (.bool (decide (v1<(wr (b_B.Dark+1))))))] (y7 b_B mf) 3 0) ?_
   refine AW.seqK (fun K_7 hK_7=>?_)
   refine AW.cond rfl (fun hb_8=>?_) (fun hb_8=>False.elim (by have:=of_decide_eq_false hb_8;omega))
   refine AW.skip (hK_7 _ ?_)
   refine AW.seqK (fun K_9 hK_9=>?_)
   refine AW.block ?_
   refine Sa (sT [(1,jI horse),(2,jI mane),(3,jI tail),pR 4 0,pR 8 1,pR 9 2,(11,.clo 100 [.agg (hbm b_B mf)] []),(12,jI v),(13,jI v1),(19,jI (wr (b_B.Dark+1))),(20,jI v),(26,jI (wr (b_B.Dark+1))),(27,jI v1)] (y7 b_B mf) 3 0) ?_
   refine AW.srwK (fun Q_10 hQ_10=>?_)
   refine Au 8 (sT [(1,jI horse),(2,jI mane),(3,jI tail),pR 4 0,pR 8 1,pR 9 2,(11,.clo 100 [.agg (hbm b_B mf)] []),(12,jI v),(13,jI v1),(19,jI (wr (b_B.Dark+1))),(20,jI v),(26,jI (wr (b_B.Dark+1))),(27,jI v1),(30,.clo 100 [.agg (hbm b_B mf)] []),(31,jI horse),(34,.agg [jI mane,jI v]),(37,.agg [jI tail,jI v1])] (y7 b_B mf) 3 0) ?_
   obtain ⟨r0_5,hx_11,h⟩:=bsome h
   refine RW.one fokW (r_callvZ (zr:=[]) trivial rfl (.clo _ _ _) (by kernel_rfl) rfl (k100 b_B mf horse (Hair_dye.mk mane v) (Hair_dye.mk tail v1) _ hx_11) trivial ⟨.refl _,.refl _,.refl _,.refl _,trivial⟩ rfl rfl rfl rfl (r_end ?_))
   refine RW.nil (hQ_10 _ ?_)
   refine AW.cond rfl (fun hb_12=>?_) (fun hb_12=>?_)
   ·have h:=ifT hb_12 h
    refine Sa (sT [pR 8 1,pR 9 2,(10,.d (.bool true))] [(2,.var 84 [jI tail,jI v1]),(1,.var 84 [jI mane,jI v])] 3 0) ?_
    obtain rfl:=Option.some.inj h
    have e_2:=hb_6 _ rfl
    subst e_2
    obtain rfl:=Aft.bk hk_6
    have e_1:=hb_2 _ rfl
    subst e_1
    obtain rfl:=Aft.bk hk_2
    exact rT hR_0 (.cons (.agg rfl rfl (Nat.le_of_ble_eq_true rfl)) (.cons (.agg rfl rfl (Nat.le_of_ble_eq_true rfl)) (.cons (.tmp rfl) .nil)))
   ·have h:=ifF hb_12 h
    refine AW.skip (hK_9 _ ?_)
    refine Ra (sT [(1,jI horse),(2,jI mane),(3,jI tail),pR 4 0,pR 8 1,pR 9 2,(11,.clo 100 [.agg (hbm b_B mf)] []),(12,jI v),(19,jI (wr (b_B.Dark+1))),(20,jI v),(26,jI (wr (b_B.Dark+1))),(27,jI (wr (v1+1)))] (y7 b_B mf) 3 0) ?_
    obtain rfl:=Option.some.inj h
    have ew:wr (v1+1)=v1+1:=inext (N:=(wr (b_B.Dark+1))) (by omega) (by omega) (by omega)
    rw [ew]
    exact hK_6 _ _ rfl (Can.kp (by kernel_rfl))
  ·subst hout
   have h:=Aft.nx hk_6
   refine Sa (sT [(1,jI horse),(2,jI mane),(3,jI tail),pR 4 0,pR 8 1,pR 9 2,(11,.clo 100 [.agg (hbm b_B mf)] []),(12,jI v),(19,jI (wr (b_B.Dark+1))),(20,jI v),(26,jI (wr (b_B.Dark+1))),(27,jI v1),(28,.d (.bool (decide (v1<(wr (b_B.Dark+1))))))] (y7 b_B mf) 3 0) ?_
   refine AW.seqK (fun K_13 hK_13=>?_)
   refine AW.cond rfl (fun hb_14=>False.elim (by have:=of_decide_eq_true hb_14;omega)) (fun hb_14=>?_)
   refine AW.exit ?_
   refine hK_5 _ ?_
   refine Ra (sT [(1,jI horse),(2,jI mane),(3,jI tail),pR 4 0,pR 8 1,pR 9 2,(11,.clo 100 [.agg (hbm b_B mf)] []),(19,jI (wr (b_B.Dark+1))),(20,jI (wr (v+1)))] (y7 b_B mf) 3 0) ?_
   obtain rfl:=Option.some.inj h
   have ew:wr (v+1)=v+1:=inext (N:=(wr (b_B.Dark+1))) (by omega) (by omega) (by omega)
   rw [ew]
   exact hK_2 _ _ rfl (Can.kp (by kernel_rfl))
 ·subst hout
  have h:=Aft.nx hk_2
  refine Sa (sT [(1,jI horse),(2,jI mane),(3,jI tail),pR 4 0,pR 8 1,pR 9 2,(11,.clo 100 [.agg (hbm b_B mf)] []),(19,jI (wr (b_B.Dark+1))),(20,jI v),(21,.d (.bool (decide (v<(wr (b_B.Dark+1))))))] (y7 b_B mf) 3 0) ?_
  refine AW.seqK (fun K_15 hK_15=>?_)
  refine AW.cond rfl (fun hb_16=>False.elim (by have:=of_decide_eq_true hb_16;omega)) (fun hb_16=>?_)
  refine AW.exit ?_
  refine hK_1 _ ?_
  refine Sa (sT [pR 8 1,pR 9 2,(10,.d (.bool false))] [(2,.var 84 [jI 0,jI 0]),(1,.var 84 [jI 0,jI 0])] 3 0) ?_
  obtain rfl:=Option.some.inj h
  exact rT hR_0 (.cons (.agg rfl rfl (Nat.le_of_ble_eq_true rfl)) (.cons (.agg rfl rfl (Nat.le_of_ble_eq_true rfl)) (.cons (.tmp rfl) .nil)))
def g15 (x:HairBook) (horse:Int) (mane:Int) (tail:Int):Option (Int×Int×Int):=(g55 x horse x mane tail).bind fun r_12=>match r_12 with | .next (r0_B4,r1_1)=>(must (decide (r1_1≠0))).bind fun _=>some (0,0,r1_1) | .brk (r0_B5,mf2,r1_2)=>bif (decide (r1_2≠0)) then (some (0,0,r1_2)) else ((g59 r0_B5 mf2 horse mane tail).bind fun (r0_1,r1_1_1,r2_1)=>bif (!r2_1) then (some (0,0,4)) else (some (r0_1.steps,r1_1_1.steps,0)))
theorem k15 (x:HairBook) (horse:Int) (mane:Int) (tail:Int) (r:Int×Int×Int) (h:g15 x horse mane tail=some r):SCall Tryd.prog Gs 15 [.agg (cv25 x),jI horse,jI mane,jI tail] [] 0 Fr.emp (match r with | (r0_4,r1_5,r2_4)=>.tup [jI r0_4,jI r1_5,jI r2_4]) [] 0 Fr.emp:=by
 unfold g15 at h
 refine SCall.mkK Tryd.func15 c15 rfl rfl (by kernel_rfl) (fun Q_0 hR_0 hN_0=>?_)
 refine Sa (sT [pR 4 0,pR 5 1,pR 6 2,pR 7 3] [(3,.var 3 [jI tail]),(2,.var 3 [jI mane]),(1,.var 3 [jI horse]),(0,.var 25 (cv25 x))] 4 0) ?_
 refine AW.srwK (fun Q_1 hQ_1=>?_)
 refine Au 2 (sT [pR 5 1,pR 6 2,pR 7 3,(17,.agg (cv25 x)),(18,.clo 56 [] [.ptr 1 0,.ptr 0 0,.ptr 2 0,.ptr 3 0])] [(3,.var 3 [jI tail]),(2,.var 3 [jI mane]),(1,.var 3 [jI horse]),(0,.var 25 (cv25 x))] 4 0) ?_
 obtain ⟨r_12,hx_2,h⟩:=bsome h
 rcases r_12 with (⟨r0_B4,r1_1⟩ | (⟨r0_B5,mf2,r1_2⟩))
 ·refine RW.one fokW (r_callS (zr:=[]) [1,0,2,3] trivial rfl (k55 x horse x mane tail _ hx_2) ⟨rfl,rfl,rfl,rfl,trivial⟩ rfl rfl ⟨.refl _,.refl _,trivial⟩ rfl rfl rfl (r_end ?_))
  obtain ⟨_,hv_3,h⟩:=bsome h
  have hf_4:=must_ok hv_3
  refine Au 6 (sT [pR 5 1,pR 6 2,pR 7 3,pR 11 4,(12,jI r1_1)] [(4,.var 78 (catV (cv25 r0_B4) [.d (.nilMap)])),(1,.var 3 [jI horse]),(2,.var 3 [jI mane]),(3,.var 3 [jI tail])] 5 0) ?_
  refine RW.nil (hQ_1 _ ?_)
  refine AW.seqK (fun K_5 hK_5=>?_)
  refine Sa (sT [pR 5 1,pR 6 2,pR 7 3,pR 11 4,(12,jI r1_1),(23,.d (.bool (decide (r1_1≠0))))] [(4,.var 78 (catV (cv25 r0_B4) [.d (.nilMap)])),(1,.var 3 [jI horse]),(2,.var 3 [jI mane]),(3,.var 3 [jI tail])] 5 0) ?_
  refine AW.cond rfl (fun hb_6=>?_) (fun hb_6=>False.elim (by rw [hf_4] at hb_6;cases hb_6))
  refine Sa (sT [(8,jI 0),(9,jI 0),(10,jI r1_1)] [] 5 0) ?_
  obtain rfl:=Option.some.inj h
  exact rT hR_0 (.cons (.tmp rfl) (.cons (.tmp rfl) (.cons (.tmp rfl) .nil)))
 ·refine RW.one fokW (r_callS (zr:=[]) [1,0,2,3] trivial rfl (k55 x horse x mane tail _ hx_2) ⟨rfl,rfl,rfl,rfl,trivial⟩ rfl rfl ⟨.refl _,.refl _,trivial⟩ rfl rfl rfl (r_end ?_))
  refine Au 6 (sT [pR 5 1,pR 6 2,pR 7 3,pR 11 4,(12,jI r1_2)] [(4,.var 78 (hbm r0_B5 mf2)),(1,.var 3 [jI horse]),(2,.var 3 [jI mane]),(3,.var 3 [jI tail])] 5 0) ?_
  refine RW.nil (hQ_1 _ ?_)
  refine AW.seqK (fun K_7 hK_7=>?_)
  refine Sa (sT [pR 5 1,pR 6 2,pR 7 3,pR 11 4,(12,jI r1_2),(23,.d (.bool (decide (r1_2≠0))))] [(4,.var 78 (hbm r0_B5 mf2)),(1,.var 3 [jI horse]),(2,.var 3 [jI mane]),(3,.var 3 [jI tail])] 5 0) ?_
  refine AW.cond rfl (fun hb_8=>?_) (fun hb_8=>?_)
  ·have h:=ifT hb_8 h
   refine Sa (sT [(8,jI 0),(9,jI 0),(10,jI r1_2)] [] 5 0) ?_
   obtain rfl:=Option.some.inj h
   exact rT hR_0 (.cons (.tmp rfl) (.cons (.tmp rfl) (.cons (.tmp rfl) .nil)))
  ·have h:=ifF hb_8 h
   refine AW.skip (hK_7 _ ?_)
   refine AW.srwK (fun Q_9 hQ_9=>?_)
   refine Au 4 (sT [(26,.agg (hbm r0_B5 mf2)),(27,jI horse),(28,jI mane),(29,jI tail)] [] 5 0) ?_
   obtain ⟨⟨r0_1,r1_1_1,r2_1⟩,hx_10,h⟩:=bsome h
   refine rC (k59 r0_B5 mf2 horse mane tail _ hx_10) ?_
   refine Au 9 (sT [pR 13 5,pR 14 6,(15,.d (.bool r2_1))] [(6,.var 84 [jI r1_1_1.hank,jI r1_1_1.steps]),(5,.var 84 [jI r0_1.hank,jI r0_1.steps])] 7 0) ?_
   refine RW.nil (hQ_9 _ ?_)
   refine AW.seqK (fun K_11 hK_11=>?_)
   refine Sa (sT [pR 13 5,pR 14 6,(35,.d (.bool (!r2_1)))] [(6,.var 84 [jI r1_1_1.hank,jI r1_1_1.steps]),(5,.var 84 [jI r0_1.hank,jI r0_1.steps])] 7 0) ?_
   refine AW.cond rfl (fun hb_12=>?_) (fun hb_12=>?_)
   ·have h:=ifT hb_12 h
    refine Sa (sT [(8,jI 0),(9,jI 0),(10,jI 4)] [] 7 0) ?_
    obtain rfl:=Option.some.inj h
    exact rT hR_0 (.cons (.tmp rfl) (.cons (.tmp rfl) (.cons (.tmp rfl) .nil)))
   ·have h:=ifF hb_12 h
    refine AW.skip (hK_11 _ ?_)
    refine Sa (sT [(8,jI r0_1.steps),(9,jI r1_1_1.steps),(10,jI 0)] [] 7 0) ?_
    obtain rfl:=Option.some.inj h
    exact rT hR_0 (.cons (.tmp rfl) (.cons (.tmp rfl) (.cons (.tmp rfl) .nil)))
def g50 (n:Int) (first:Int) (last:Int):Option Bool:=some ((decide (first≤n))&&(decide (n≤last)))
theorem k50 (n:Int) (first:Int) (last:Int) (r:Bool) (h:g50 n first last=some r):SCall Tryd.prog Gs 50 [jI n,jI first,jI last] [] 0 Fr.emp (.d (.bool r)) [] 0 Fr.emp:=by
 unfold g50 at h
 refine SCall.mkK Tryd.func50 c50 rfl rfl (by kernel_rfl) (fun Q_0 hR_0 hN_0=>?_)
 refine Sa (sT [(0,jI n),(1,jI first),(2,jI last)] [] 0 0) ?_
 refine AW.sa fokW [10] (sT [(6,.d (.bool ((decide (first≤n))&&(decide (n≤last)))))] [] 0 0) (by kernel_rfl) ?_
 obtain rfl:=Option.some.inj h
 exact rT hR_0 (.cons (.tmp rfl) .nil)
def g64 (s:Span) (first:Int) (last:Int):Option Bool:=some (((decide (first≤s.Low))&&(decide (s.Low≤s.High)))&&(decide (s.High≤last)))
theorem k64 (s:Span) (first:Int) (last:Int) (r:Bool) (h:g64 s first last=some r):SCall Tryd.prog Gs 64 [.agg [jI s.Low,jI s.High],jI first,jI last] [] 0 Fr.emp (.d (.bool r)) [] 0 Fr.emp:=by
 unfold g64 at h
 refine SCall.mkK Tryd.func64 c64 rfl rfl (by kernel_rfl) (fun Q_0 hR_0 hN_0=>?_)
 refine Sa (sT [(1,jI first),(2,jI last),pR 3 0] [(0,.var 35 [jI s.Low,jI s.High])] 1 0) ?_
 refine AW.sa fokW [11,18] (sT [(6,.d (.bool (((decide (first≤s.Low))&&(decide (s.Low≤s.High)))&&(decide (s.High≤last)))))] [] 1 0) (by kernel_rfl) ?_
 obtain rfl:=Option.some.inj h
 exact rT hR_0 (.cons (.tmp rfl) .nil)
def g18_15 (b:HairBook):(Bool×Int)→Option (Ctl (Bool×Int) (Bool)):=fun  (ok2,i)=>(bif ok2 then (some (decide (i<(b.Hanks.length:Int)))) else (some false)).bind fun v4=>bif v4 then ((ixL b.Hanks i).bind fun p=>(g64 p.Weight 1 60).bind fun r0_3=>(bif (r0_3&&(decide ((wr (p.Weight.High - p.Weight.Low))≤4))) then ((g64 p.Shade 0 20).bind fun r0_4=>some r0_4) else (some false)).bind fun v5=>some (.next ((v5&&(decide ((wr (p.Shade.High - p.Shade.Low))≤2))),(wr (i+1))))) else (some (.brk ok2))
def g18_31 (b:HairBook):(Bool×Int)→Option (Ctl (Bool×Int) (Bool)):=fun  (ok5,i1)=>(bif ok5 then (some (decide (i1<(b.Horses.length:Int)))) else (some false)).bind fun v6=>bif v6 then ((ixL b.Horses i1).bind fun p1=>(g50 p1.Mane 1 30).bind fun r0_5=>(bif r0_5 then ((g50 p1.Tail 1 30).bind fun r0_6=>some r0_6) else (some false)).bind fun v7=>(bif v7 then ((g50 p1.Shade 0 25).bind fun r0_7=>some r0_7) else (some false)).bind fun v8=>some (.next (v8,(wr (i1+1))))) else (some (.brk ok5))
def g18 (b:HairBook):Option Int:=(bif (decide ((b.Hanks.length:Int)≤4)) then (some (decide ((b.Horses.length:Int)≤3))) else (some false)).bind fun v=>(bif v then ((g50 b.Dark 0 4).bind fun r0=>some r0) else (some false)).bind fun v1=>(bif v1 then ((g50 b.Near 0 3).bind fun r0_1=>some r0_1) else (some false)).bind fun v2=>(bif v2 then ((g50 b.Match 0 3).bind fun r0_2=>some r0_2) else (some false)).bind fun v3=>((whileC (g18_15 b) 1000 (v3,0)).bind fun ok1=>some ok1).bind fun ok=>((whileC (g18_31 b) 1000 (ok,0)).bind fun ok4=>some ok4).bind fun ok3=>bif (!ok3) then (some 60) else (some 0)
theorem k18 (b:HairBook) (r:Int) (h:g18 b=some r):SCall Tryd.prog Gs 18 [.agg (cv25 b)] [] 0 Fr.emp (jI r) [] 0 Fr.emp:=by
 unfold g18 at h
 refine SCall.mkK Tryd.func18 c18 rfl rfl (by kernel_rfl) (fun Q_0 hR_0 hN_0=>?_)
 refine Sa (sT [pR 1 0] [(0,.var 25 (cv25 b))] 1 0) ?_
 refine AW.srwK (fun Q_1 hQ_1=>?_)
 refine Au 2 (sT [pR 1 0,(9,.d (.sl 4 (List.map e58 b.Hanks)))] [(0,.var 25 (cv25 b))] 1 0) ?_
 refine rL rfl ?_
 refine Au 2 (sT [pR 1 0,(12,.d (.bool (decide ((b.Hanks.length:Int)≤4))))] [(0,.var 25 (cv25 b))] 1 0) ?_
 obtain ⟨v,hx_2,h⟩:=bsome h
 refine RW.cut fokW 5 ((sT [pR 1 0,(17,.d (.bool v))] [(0,.var 25 (cv25 b))] 1 0)) ?_ ?_
 ·refine r_split 12 rfl (fun hb_3=>?_) (fun hb_3=>?_)
  ·have h:=ifT hb_3 hx_2
   refine aX 2 (sT [pR 1 0,(12,.d (.bool true)),(14,.d (.sl 3 (List.map e69 b.Horses)))] [(0,.var 25 (cv25 b))] 1 0) ?_
   refine r_lenX rfl rfl lenm ?_
   refine aX 2 (sT [pR 1 0,(17,.d (.bool (decide ((b.Horses.length:Int)≤3))))] [(0,.var 25 (cv25 b))] 1 0) ?_
   obtain rfl:=Option.some.inj h
   refine RunC.finJ (Can.kp (by kernel_rfl))
  ·have h:=ifF hb_3 hx_2
   refine aX 5 (sT [pR 1 0,(17,.d (.bool false))] [(0,.var 25 (cv25 b))] 1 0) ?_
   obtain rfl:=Option.some.inj h
   refine RunC.finJ (Can.kp (by kernel_rfl))
 ·refine Au 1 (sT [pR 1 0,(18,.d (.bool v))] [(0,.var 25 (cv25 b))] 1 0) ?_
  obtain ⟨v1,hx_4,h⟩:=bsome h
  refine RW.cut fokW 4 ((sT [pR 1 0,(22,.d (.bool v1))] [(0,.var 25 (cv25 b))] 1 0)) ?_ ?_
  ·refine r_split 18 rfl (fun hb_6=>?_) (fun hb_6=>?_)
   ·have h:=ifT hb_6 hx_4
    refine aX 2 (sT [pR 1 0,(18,.d (.bool true)),(20,jI b.Dark)] [(0,.var 25 (cv25 b))] 1 0) ?_
    obtain ⟨r0,hx_5,h⟩:=bsome h
    refine r_call rfl rfl (k50 b.Dark 0 4 _ hx_5) rfl rfl ?_
    refine aX 1 (sT [pR 1 0,(22,.d (.bool r0))] [(0,.var 25 (cv25 b))] 1 0) ?_
    obtain rfl:=Option.some.inj h
    refine RunC.finJ (Can.kp (by kernel_rfl))
   ·have h:=ifF hb_6 hx_4
    refine aX 4 (sT [pR 1 0,(22,.d (.bool false))] [(0,.var 25 (cv25 b))] 1 0) ?_
    obtain rfl:=Option.some.inj h
    refine RunC.finJ (Can.kp (by kernel_rfl))
  ·refine Au 1 (sT [pR 1 0,(23,.d (.bool v1))] [(0,.var 25 (cv25 b))] 1 0) ?_
   obtain ⟨v2,hx_7,h⟩:=bsome h
   refine RW.cut fokW 4 ((sT [pR 1 0,(27,.d (.bool v2))] [(0,.var 25 (cv25 b))] 1 0)) ?_ ?_
   ·refine r_split 23 rfl (fun hb_9=>?_) (fun hb_9=>?_)
    ·have h:=ifT hb_9 hx_7
     refine aX 2 (sT [pR 1 0,(23,.d (.bool true)),(25,jI b.Near)] [(0,.var 25 (cv25 b))] 1 0) ?_
     obtain ⟨r0_1,hx_8,h⟩:=bsome h
     refine r_call rfl rfl (k50 b.Near 0 3 _ hx_8) rfl rfl ?_
     refine aX 1 (sT [pR 1 0,(27,.d (.bool r0_1))] [(0,.var 25 (cv25 b))] 1 0) ?_
     obtain rfl:=Option.some.inj h
     refine RunC.finJ (Can.kp (by kernel_rfl))
    ·have h:=ifF hb_9 hx_7
     refine aX 4 (sT [pR 1 0,(27,.d (.bool false))] [(0,.var 25 (cv25 b))] 1 0) ?_
     obtain rfl:=Option.some.inj h
     refine RunC.finJ (Can.kp (by kernel_rfl))
   ·refine Au 1 (sT [pR 1 0,(28,.d (.bool v2))] [(0,.var 25 (cv25 b))] 1 0) ?_
    obtain ⟨v3,hx_10,h⟩:=bsome h
    refine RW.cut fokW 4 ((sT [pR 1 0,(32,.d (.bool v3))] [(0,.var 25 (cv25 b))] 1 0)) ?_ ?_
    ·refine r_split 28 rfl (fun hb_12=>?_) (fun hb_12=>?_)
     ·have h:=ifT hb_12 hx_10
      refine aX 2 (sT [pR 1 0,(28,.d (.bool true)),(30,jI b.Match)] [(0,.var 25 (cv25 b))] 1 0) ?_
      obtain ⟨r0_2,hx_11,h⟩:=bsome h
      refine r_call rfl rfl (k50 b.Match 0 3 _ hx_11) rfl rfl ?_
      refine aX 1 (sT [pR 1 0,(32,.d (.bool r0_2))] [(0,.var 25 (cv25 b))] 1 0) ?_
      obtain rfl:=Option.some.inj h
      refine RunC.finJ (Can.kp (by kernel_rfl))
     ·have h:=ifF hb_12 hx_10
      refine aX 4 (sT [pR 1 0,(32,.d (.bool false))] [(0,.var 25 (cv25 b))] 1 0) ?_
      obtain rfl:=Option.some.inj h
      refine RunC.finJ (Can.kp (by kernel_rfl))
    ·refine Au 1 (sT [pR 1 0,(3,.d (.bool v3))] [(0,.var 25 (cv25 b))] 1 0) ?_
     refine RW.nil (hQ_1 _ ?_)
     obtain ⟨ok,hx_13,h⟩:=bsome h
     refine AW.jnSK (fun (ok:Bool)=>(sT [pR 1 0,(3,.d (.bool ok))] [(0,.var 25 (cv25 b))] 1 0)) (c:=ok) (fun K_13 hK_13=>?_) ?_
     ·have h:=hx_13
      refine Sa (sT [pR 1 0,(3,.d (.bool v3)),(4,jI 0)] [(0,.var 25 (cv25 b))] 1 0) ?_
      obtain ⟨ok1,hx_14,h⟩:=bsome h
      refine AW.jqSK (fun (ok1:Bool)=>(sT [pR 1 0,(3,.d (.bool ok1))] [(0,.var 25 (cv25 b))] 1 0)) (c:=ok1) (fun K_14 hK_14=>?_) ?_
      ·have h:=hx_14
       refine AW.block ?_
       refine AW.whK (fun (⟨ok2,i⟩:Bool×Int)=>(sT [pR 1 0,(3,.d (.bool ok2)),(4,jI i)] [(0,.var 25 (cv25 b))] 1 0)) (g18_15 b) h (Can.kp (by kernel_rfl)) (fun s_15 c_15 h hb_15 K_15 hK_15=>?_)
       obtain ⟨ok2,i⟩:=s_15
       unfold g18_15 at h
       refine AW.seqK fun K_16 hK_16=>AW.srwK fun Q_17 hQ_17=>?_
       refine Au 2 (sT [pR 1 0,(3,.d (.bool ok2)),(4,jI i),(34,.d (.bool ok2))] [(0,.var 25 (cv25 b))] 1 0) ?_
       obtain ⟨v4,hx_18,h⟩:=bsome h
       refine RW.cut fokW 6 ((sT [pR 1 0,(3,.d (.bool ok2)),(4,jI i),(40,.d (.bool v4))] [(0,.var 25 (cv25 b))] 1 0)) ?_ ?_
       ·refine r_split 34 rfl (fun hb_19=>?_) (fun hb_19=>?_)
        ·have h:=ifT hb_19 hx_18
         refine aX 3 (sT [pR 1 0,(3,.d (.bool ok2)),(4,jI i),(34,.d (.bool true)),(35,jI i),(37,.d (.sl 4 (List.map e58 b.Hanks)))] [(0,.var 25 (cv25 b))] 1 0) ?_
         refine r_lenX rfl rfl lenm ?_
         refine aX 2 (sT [pR 1 0,(3,.d (.bool ok2)),(4,jI i),(40,.d (.bool (decide (i<(b.Hanks.length:Int)))))] [(0,.var 25 (cv25 b))] 1 0) ?_
         obtain rfl:=Option.some.inj h
         refine RunC.finJ (Can.kp (by kernel_rfl))
        ·have h:=ifF hb_19 hx_18
         refine aX 6 (sT [pR 1 0,(3,.d (.bool ok2)),(4,jI i),(40,.d (.bool false))] [(0,.var 25 (cv25 b))] 1 0) ?_
         obtain rfl:=Option.some.inj h
         refine RunC.finJ (Can.kp (by kernel_rfl))
       ·refine RW.nil (hQ_17 _ ?_)
        refine AW.cond rfl (fun hb_20=>?_) (fun hb_20=>?_)
        ·have h:=ifT hb_20 h
         refine AW.skip (hK_16 _ ?_)
         refine AW.seqK (fun K_21 hK_21=>?_)
         refine AW.block ?_
         refine AW.srwK (fun Q_22 hQ_22=>?_)
         refine Au 3 (sT [pR 1 0,(4,jI i),(44,.d (.sl 4 (List.map e58 b.Hanks))),(45,jI i)] [(0,.var 25 (cv25 b))] 1 0) ?_
         obtain ⟨p,hv_23,h⟩:=bsome h
         refine RW.one fokW (r_iaD trivial rfl rfl (ixL_ok hv_23).1 (row:=e58 p) (mapget (ixL_ok hv_23).2) (r_end ?_))
         refine Au 3 (sT [pR 1 0,(4,jI i),pR 5 1] [(1,.var 58 (cv58 p)),(0,.var 25 (cv25 b))] 2 0) ?_
         refine RW.nil (hQ_22 _ ?_)
         refine AW.rw ?_
         refine Au 2 (sT [pR 1 0,(4,jI i),pR 5 1,(49,.agg [jI p.Weight.Low,jI p.Weight.High])] [(1,.var 58 (cv58 p)),(0,.var 25 (cv25 b))] 2 0) ?_
         obtain ⟨r0_3,hx_25,h⟩:=bsome h
         refine rC (k64 p.Weight 1 60 _ hx_25) ?_
         refine RW.au fokW 11 [51] (sT [pR 1 0,(4,jI i),pR 5 1,(61,.d (.bool (r0_3&&(decide ((wr (p.Weight.High - p.Weight.Low))≤4)))))] [(1,.var 58 (cv58 p)),(0,.var 25 (cv25 b))] 2 0) (by kernel_rfl) ?_
         obtain ⟨v5,hx_26,h⟩:=bsome h
         refine RW.cut fokW 4 ((sT [pR 1 0,(4,jI i),pR 5 1,(65,.d (.bool v5))] [(1,.var 58 (cv58 p)),(0,.var 25 (cv25 b))] 2 0)) ?_ ?_
         ·refine r_split 61 rfl (fun hb_28=>?_) (fun hb_28=>?_)
          ·have h:=ifT hb_28 hx_26
           refine aX 2 (sT [pR 1 0,(4,jI i),pR 5 1,(61,.d (.bool true)),(63,.agg [jI p.Shade.Low,jI p.Shade.High])] [(1,.var 58 (cv58 p)),(0,.var 25 (cv25 b))] 2 0) ?_
           obtain ⟨r0_4,hx_27,h⟩:=bsome h
           refine r_call rfl rfl (k64 p.Shade 0 20 _ hx_27) rfl rfl ?_
           refine aX 1 (sT [pR 1 0,(4,jI i),pR 5 1,(65,.d (.bool r0_4))] [(1,.var 58 (cv58 p)),(0,.var 25 (cv25 b))] 2 0) ?_
           obtain rfl:=Option.some.inj h
           refine RunC.finJ (Can.kp (by kernel_rfl))
          ·have h:=ifF hb_28 hx_26
           refine aX 4 (sT [pR 1 0,(4,jI i),pR 5 1,(65,.d (.bool false))] [(1,.var 58 (cv58 p)),(0,.var 25 (cv25 b))] 2 0) ?_
           obtain rfl:=Option.some.inj h
           refine RunC.finJ (Can.kp (by kernel_rfl))
         ·refine RW.au fokW 11 [66] (sT [pR 1 0,(3,.d (.bool (v5&&(decide ((wr (p.Shade.High - p.Shade.Low))≤2))))),(4,jI i)] [(0,.var 25 (cv25 b))] 2 0) (by kernel_rfl) ?_
          refine RW.nil ?_
          refine hK_21 _ ?_
          refine Ra (sT [pR 1 0,(3,.d (.bool (v5&&(decide ((wr (p.Shade.High - p.Shade.Low))≤2))))),(4,jI (wr (i+1)))] [(0,.var 25 (cv25 b))] 2 0) ?_
          obtain rfl:=Option.some.inj h
          exact hK_15 _ _ rfl (Can.kp (by kernel_rfl))
        ·have h:=ifF hb_20 h
         refine AW.exit ?_
         obtain rfl:=Option.some.inj h
         obtain rfl:=hb_15 _ rfl
         exact hK_14 _ (Can.kp (by kernel_rfl))
      ·obtain rfl:=Option.some.inj h
       exact hK_13 _ (Can.kp (by kernel_rfl))
     ·obtain ⟨ok3,hx_29,h⟩:=bsome h
      refine AW.jnSK (fun (ok3:Bool)=>(sT [(3,.d (.bool ok3))] [] 1 0)) (c:=ok3) (fun K_29 hK_29=>?_) ?_
      ·have h:=hx_29
       refine Sa (sT [pR 1 0,(3,.d (.bool ok)),(6,jI 0)] [(0,.var 25 (cv25 b))] 1 0) ?_
       obtain ⟨ok4,hx_30,h⟩:=bsome h
       refine AW.jqSK (fun (ok4:Bool)=>(sT [(3,.d (.bool ok4))] [] 1 0)) (c:=ok4) (fun K_30 hK_30=>?_) ?_
       ·have h:=hx_30
        refine AW.block ?_
        refine AW.whK (fun (⟨ok5,i1⟩:Bool×Int)=>(sT [pR 1 0,(3,.d (.bool ok5)),(6,jI i1)] [(0,.var 25 (cv25 b))] 1 0)) (g18_31 b) h (Can.kp (by kernel_rfl)) (fun s_31 c_31 h hb_31 K_31 hK_31=>?_)
        obtain ⟨ok5,i1⟩:=s_31
        unfold g18_31 at h
        refine AW.seqK fun K_32 hK_32=>AW.srwK fun Q_33 hQ_33=>?_
        refine Au 2 (sT [pR 1 0,(3,.d (.bool ok5)),(6,jI i1),(77,.d (.bool ok5))] [(0,.var 25 (cv25 b))] 1 0) ?_
        obtain ⟨v6,hx_34,h⟩:=bsome h
        refine RW.cut fokW 6 ((sT [pR 1 0,(3,.d (.bool ok5)),(6,jI i1),(83,.d (.bool v6))] [(0,.var 25 (cv25 b))] 1 0)) ?_ ?_
        ·refine r_split 77 rfl (fun hb_35=>?_) (fun hb_35=>?_)
         ·have h:=ifT hb_35 hx_34
          refine aX 3 (sT [pR 1 0,(3,.d (.bool ok5)),(6,jI i1),(77,.d (.bool true)),(78,jI i1),(80,.d (.sl 3 (List.map e69 b.Horses)))] [(0,.var 25 (cv25 b))] 1 0) ?_
          refine r_lenX rfl rfl lenm ?_
          refine aX 2 (sT [pR 1 0,(3,.d (.bool ok5)),(6,jI i1),(83,.d (.bool (decide (i1<(b.Horses.length:Int)))))] [(0,.var 25 (cv25 b))] 1 0) ?_
          obtain rfl:=Option.some.inj h
          refine RunC.finJ (Can.kp (by kernel_rfl))
         ·have h:=ifF hb_35 hx_34
          refine aX 6 (sT [pR 1 0,(3,.d (.bool ok5)),(6,jI i1),(83,.d (.bool false))] [(0,.var 25 (cv25 b))] 1 0) ?_
          obtain rfl:=Option.some.inj h
          refine RunC.finJ (Can.kp (by kernel_rfl))
        ·refine RW.nil (hQ_33 _ ?_)
         refine AW.cond rfl (fun hb_36=>?_) (fun hb_36=>?_)
         ·have h:=ifT hb_36 h
          refine AW.skip (hK_32 _ ?_)
          refine AW.seqK (fun K_37 hK_37=>?_)
          refine AW.block ?_
          refine AW.srwK (fun Q_38 hQ_38=>?_)
          refine Au 3 (sT [pR 1 0,(6,jI i1),(87,.d (.sl 3 (List.map e69 b.Horses))),(88,jI i1)] [(0,.var 25 (cv25 b))] 1 0) ?_
          obtain ⟨p1,hv_39,h⟩:=bsome h
          refine RW.one fokW (r_iaD trivial rfl rfl (ixL_ok hv_39).1 (row:=e69 p1) (mapget (ixL_ok hv_39).2) (r_end ?_))
          refine Au 3 (sT [pR 1 0,(6,jI i1),pR 7 1] [(1,.var 69 [jI p1.Mane,jI p1.Tail,jI p1.Shade]),(0,.var 25 (cv25 b))] 2 0) ?_
          refine RW.nil (hQ_38 _ ?_)
          refine AW.rw ?_
          refine Au 2 (sT [pR 1 0,(6,jI i1),pR 7 1,(92,jI p1.Mane)] [(1,.var 69 [jI p1.Mane,jI p1.Tail,jI p1.Shade]),(0,.var 25 (cv25 b))] 2 0) ?_
          obtain ⟨r0_5,hx_41,h⟩:=bsome h
          refine rC (k50 p1.Mane 1 30 _ hx_41) ?_
          refine Au 1 (sT [pR 1 0,(6,jI i1),pR 7 1,(94,.d (.bool r0_5))] [(1,.var 69 [jI p1.Mane,jI p1.Tail,jI p1.Shade]),(0,.var 25 (cv25 b))] 2 0) ?_
          obtain ⟨v7,hx_42,h⟩:=bsome h
          refine RW.cut fokW 4 ((sT [pR 1 0,(6,jI i1),pR 7 1,(98,.d (.bool v7))] [(1,.var 69 [jI p1.Mane,jI p1.Tail,jI p1.Shade]),(0,.var 25 (cv25 b))] 2 0)) ?_ ?_
          ·refine r_split 94 rfl (fun hb_44=>?_) (fun hb_44=>?_)
           ·have h:=ifT hb_44 hx_42
            refine aX 2 (sT [pR 1 0,(6,jI i1),pR 7 1,(94,.d (.bool true)),(96,jI p1.Tail)] [(1,.var 69 [jI p1.Mane,jI p1.Tail,jI p1.Shade]),(0,.var 25 (cv25 b))] 2 0) ?_
            obtain ⟨r0_6,hx_43,h⟩:=bsome h
            refine r_call rfl rfl (k50 p1.Tail 1 30 _ hx_43) rfl rfl ?_
            refine aX 1 (sT [pR 1 0,(6,jI i1),pR 7 1,(98,.d (.bool r0_6))] [(1,.var 69 [jI p1.Mane,jI p1.Tail,jI p1.Shade]),(0,.var 25 (cv25 b))] 2 0) ?_
            obtain rfl:=Option.some.inj h
            refine RunC.finJ (Can.kp (by kernel_rfl))
           ·have h:=ifF hb_44 hx_42
            refine aX 4 (sT [pR 1 0,(6,jI i1),pR 7 1,(98,.d (.bool false))] [(1,.var 69 [jI p1.Mane,jI p1.Tail,jI p1.Shade]),(0,.var 25 (cv25 b))] 2 0) ?_
            obtain rfl:=Option.some.inj h
            refine RunC.finJ (Can.kp (by kernel_rfl))
          ·refine Au 1 (sT [pR 1 0,(6,jI i1),pR 7 1,(99,.d (.bool v7))] [(1,.var 69 [jI p1.Mane,jI p1.Tail,jI p1.Shade]),(0,.var 25 (cv25 b))] 2 0) ?_
           obtain ⟨v8,hx_45,h⟩:=bsome h
           refine RW.cut fokW 4 ((sT [pR 1 0,(6,jI i1),(103,.d (.bool v8))] [(0,.var 25 (cv25 b))] 2 0)) ?_ ?_
           ·refine r_split 99 rfl (fun hb_47=>?_) (fun hb_47=>?_)
            ·have h:=ifT hb_47 hx_45
             refine aX 2 (sT [pR 1 0,(6,jI i1),(99,.d (.bool true)),(101,jI p1.Shade)] [(1,.var 69 [jI p1.Mane,jI p1.Tail,jI p1.Shade]),(0,.var 25 (cv25 b))] 2 0) ?_
             obtain ⟨r0_7,hx_46,h⟩:=bsome h
             refine r_call rfl rfl (k50 p1.Shade 0 25 _ hx_46) rfl rfl ?_
             refine aX 1 (sT [pR 1 0,(6,jI i1),(103,.d (.bool r0_7))] [(1,.var 69 [jI p1.Mane,jI p1.Tail,jI p1.Shade]),(0,.var 25 (cv25 b))] 2 0) ?_
             obtain rfl:=Option.some.inj h
             refine RunC.finJ (Can.kp (by kernel_rfl))
            ·have h:=ifF hb_47 hx_45
             refine aX 4 (sT [pR 1 0,(6,jI i1),(103,.d (.bool false))] [(1,.var 69 [jI p1.Mane,jI p1.Tail,jI p1.Shade]),(0,.var 25 (cv25 b))] 2 0) ?_
             obtain rfl:=Option.some.inj h
             refine RunC.finJ (Can.kp (by kernel_rfl))
           ·refine Au 1 (sT [pR 1 0,(3,.d (.bool v8)),(6,jI i1)] [(0,.var 25 (cv25 b))] 2 0) ?_
            refine RW.nil ?_
            refine hK_37 _ ?_
            refine Ra (sT [pR 1 0,(3,.d (.bool v8)),(6,jI (wr (i1+1)))] [(0,.var 25 (cv25 b))] 2 0) ?_
            obtain rfl:=Option.some.inj h
            exact hK_31 _ _ rfl (Can.kp (by kernel_rfl))
         ·have h:=ifF hb_36 h
          refine AW.exit ?_
          obtain rfl:=Option.some.inj h
          obtain rfl:=hb_31 _ rfl
          exact hK_30 _ (Can.kp (by kernel_rfl))
       ·obtain rfl:=Option.some.inj h
        exact hK_29 _ (Can.kp (by kernel_rfl))
      ·refine AW.seqK (fun K_48 hK_48=>?_)
       refine Sa (sT [(105,.d (.bool (!ok3)))] [] 1 0) ?_
       refine AW.cond rfl (fun hb_49=>?_) (fun hb_49=>?_)
       ·have h:=ifT hb_49 h
        refine Sa (sT [(2,jI 60)] [] 1 0) ?_
        obtain rfl:=Option.some.inj h
        exact rT hR_0 (.cons (.tmp rfl) .nil)
       ·have h:=ifF hb_49 h
        refine AW.skip (hK_48 _ ?_)
        refine Sa (sT [(2,jI 0)] [] 1 0) ?_
        obtain rfl:=Option.some.inj h
        exact rT hR_0 (.cons (.tmp rfl) .nil)
def g117 (n:Int) (m:Int):Option Int:=some (max (wr (n - m)) (wr (m - n)))
theorem k117 (n:Int) (m:Int) (r:Int) (h:g117 n m=some r):SCall Tryd.prog Gs 117 [jI n,jI m] [] 0 Fr.emp (jI r) [] 0 Fr.emp:=by
 unfold g117 at h
 refine SCall.mkK Tryd.func117 c117 rfl rfl (by kernel_rfl) (fun Q_0 hR_0 hN_0=>?_)
 refine Sa (sT [(0,jI n),(1,jI m)] [] 0 0) ?_
 refine Sa (sT [(4,jI (max (wr (n - m)) (wr (m - n))))] [] 0 0) ?_
 obtain rfl:=Option.some.inj h
 exact rT hR_0 (.cons (.tmp rfl) .nil)
def g114 (b:HairBook) (wanted:Int) (mane:Int) (tail:Int):Option Bool:=(g117 mane wanted).bind fun r0=>bif (decide (r0≤b.Near)) then ((g117 tail wanted).bind fun r0_1=>bif (decide (r0_1≤b.Near)) then ((g117 mane tail).bind fun r0_2=>some (decide (r0_2≤b.Match))) else (some false)) else (some false)
theorem k114 (b:HairBook) (wanted:Int) (mane:Int) (tail:Int) (r:Bool) (h:g114 b wanted mane tail=some r):SCall Tryd.prog Gs 114 [.agg (cv25 b),jI wanted,jI mane,jI tail] [] 0 Fr.emp (.d (.bool r)) [] 0 Fr.emp:=by
 unfold g114 at h
 refine SCall.mkK Tryd.func114 c114 rfl rfl (by kernel_rfl) (fun Q_0 hR_0 hN_0=>?_)
 refine Sa (sT [(1,jI wanted),(2,jI mane),(3,jI tail),pR 4 0] [(0,.var 25 (cv25 b))] 1 0) ?_
 refine AW.sdrwK fokW (fun Q_1 hQ_1=>?_)
 refine aX 2 (sT [(1,jI wanted),(2,jI mane),(3,jI tail),pR 4 0,(9,jI mane),(10,jI wanted)] [(0,.var 25 (cv25 b))] 1 0) ?_
 obtain ⟨r0,hx_2,h⟩:=bsome h
 refine r_call trivial rfl (k117 mane wanted _ hx_2) rfl rfl ?_
 refine aX 4 (sT [(1,jI wanted),(2,jI mane),(3,jI tail),pR 4 0,(15,.d (.bool (decide (r0≤b.Near))))] [(0,.var 25 (cv25 b))] 1 0) ?_
 refine r_split 15 rfl (fun hb_3=>?_) (fun hb_3=>?_)
 ·have h:=ifT hb_3 h
  refine aX 2 (sT [(2,jI mane),(3,jI tail),pR 4 0,(15,.d (.bool true)),(16,jI tail),(17,jI wanted)] [(0,.var 25 (cv25 b))] 1 0) ?_
  obtain ⟨r0_1,hx_4,h⟩:=bsome h
  refine r_call rfl rfl (k117 tail wanted _ hx_4) rfl rfl ?_
  refine aX 5 (sT [(2,jI mane),(3,jI tail),pR 4 0,(23,.d (.bool (decide (r0_1≤b.Near))))] [(0,.var 25 (cv25 b))] 1 0) ?_
  refine r_split 23 rfl (fun hb_5=>?_) (fun hb_5=>?_)
  ·have h:=ifT hb_5 h
   refine aX 2 (sT [pR 4 0,(23,.d (.bool true)),(24,jI mane),(25,jI tail)] [(0,.var 25 (cv25 b))] 1 0) ?_
   obtain ⟨r0_2,hx_6,h⟩:=bsome h
   refine r_call rfl rfl (k117 mane tail _ hx_6) rfl rfl ?_
   refine aX 5 (sT [(8,.d (.bool (decide (r0_2≤b.Match))))] [(0,.var 25 (cv25 b))] 1 0) ?_
   refine Fi (sT [(8,.d (.bool (decide (r0_2≤b.Match))))] [] 1 0) ?_
   refine hQ_1 _ ?_
   obtain rfl:=Option.some.inj h
   exact rT hR_0 (.cons (.tmp rfl) .nil)
  ·have h:=ifF hb_5 h
   refine aX 8 (sT [(8,.d (.bool false))] [(0,.var 25 (cv25 b))] 1 0) ?_
   refine Fi (sT [(8,.d (.bool false))] [] 1 0) ?_
   refine hQ_1 _ ?_
   obtain rfl:=Option.some.inj h
   exact rT hR_0 (.cons (.tmp rfl) .nil)
 ·have h:=ifF hb_3 h
  refine aX 16 (sT [(8,.d (.bool false))] [(0,.var 25 (cv25 b))] 1 0) ?_
  refine Fi (sT [(8,.d (.bool false))] [] 1 0) ?_
  refine hQ_1 _ ?_
  obtain rfl:=Option.some.inj h
  exact rT hR_0 (.cons (.tmp rfl) .nil)
end Go.Proofs.Th
namespace Go.Proofs.Th
open Go Go.Abs Go.Proofs
def g101_10 (b:HairBook) (mane:Int) (tail:Int) (dyes:(Nat→Int)) (p:HairHorse) (n:Int):Int→Unit→Option (Ctl (Unit) (Ctl (Unit) (Bool))):=fun m _=>(bif ((decide (mane≠tail))||(decide (n=m))) then ((g114 b p.Shade (wr (n+(dyes 0))) (wr (m+(dyes 1)))).bind fun r0_5=>some (!r0_5)) else (some false)).bind fun v=>bif v then (some (.brk (.brk false))) else (some (.next ()))
def g101_6 (b:HairBook) (mane:Int) (tail:Int) (dyes:(Nat→Int)) (p:HairHorse) (p2:HairHank):Int→Unit→Option (Ctl (Unit) (Bool)):=fun n _=>(must (decide ((p2.Shade.High+1)≤9223372036854775807))).bind fun _=>(must (decide (-9223372036854775808≤p2.Shade.Low))).bind fun _=>bindC (forC (g101_10 b mane tail dyes p n) ((((p2.Shade.High+1):Int) - p2.Shade.Low).toNat) p2.Shade.Low ()) fun _=>some (.next ())
def g101 (b:HairBook) (horse:Int) (mane:Int) (tail:Int) (dyes:(Nat→Int)):Option Bool:=(ixL b.Horses horse).bind fun p=>(ixL b.Hanks mane).bind fun p1=>(ixL b.Hanks tail).bind fun p2=>(must (decide ((p1.Shade.High+1)≤9223372036854775807))).bind fun _=>(must (decide (-9223372036854775808≤p1.Shade.Low))).bind fun _=>bindC (forC (g101_6 b mane tail dyes p p2) ((((p1.Shade.High+1):Int) - p1.Shade.Low).toNat) p1.Shade.Low ()) fun _=>some true
def y8 (dyes:(Nat→Int)) (b:HairBook):List (Nat×Blk):=[(1,.var 49 [jI (dyes 0),jI (dyes 1)]),(0,.var 25 (cv25 b))]
theorem k101 (b:HairBook) (horse:Int) (mane:Int) (tail:Int) (dyes:(Nat→Int)) (r:Bool) (h:g101 b horse mane tail dyes=some r):SCall Tryd.prog Gs 101 [.agg (cv25 b),jI horse,jI mane,jI tail,.agg [jI (dyes 0),jI (dyes 1)]] [] 0 Fr.emp (.d (.bool r)) [] 0 Fr.emp:=by
 unfold g101 at h
 refine SCall.mkK Tryd.func101 c101 rfl rfl (by kernel_rfl) (fun Q_0 hR_0 hN_0=>?_)
 refine Sa (sT [(1,jI horse),(2,jI mane),(3,jI tail),pR 5 0,pR 9 1] (y8 dyes b) 2 0) ?_
 refine AW.sdrwK fokW (fun Q_1 hQ_1=>?_)
 refine aX 3 (sT [(2,jI mane),(3,jI tail),pR 5 0,pR 9 1,(17,.d (.sl 3 (List.map e69 b.Horses))),(18,jI horse)] (y8 dyes b) 2 0) ?_
 obtain ⟨p,hv_2,h⟩:=bsome h
 refine r_iaD trivial rfl rfl (ixL_ok hv_2).1 (row:=e69 p) (mapget (ixL_ok hv_2).2) ?_
 refine aX 5 (sT [(2,jI mane),(3,jI tail),pR 5 0,pR 9 1,(21,jI p.Shade),(23,.d (.sl 4 (List.map e58 b.Hanks))),(24,jI mane)] (y8 dyes b) 2 0) ?_
 obtain ⟨p1,hv_3,h⟩:=bsome h
 refine r_iaD trivial rfl rfl (ixL_ok hv_3).1 (row:=e58 p1) (mapget (ixL_ok hv_3).2) ?_
 refine aX 5 (sT [(2,jI mane),(3,jI tail),pR 5 0,pR 9 1,(21,jI p.Shade),(27,.agg [jI p1.Shade.Low,jI p1.Shade.High]),(29,.d (.sl 4 (List.map e58 b.Hanks))),(30,jI tail)] (y8 dyes b) 2 0) ?_
 obtain ⟨p2,hv_4,h⟩:=bsome h
 refine r_iaD trivial rfl rfl (ixL_ok hv_4).1 (row:=e58 p2) (mapget (ixL_ok hv_4).2) ?_
 refine aX 7 (sT [(2,jI mane),(3,jI tail),pR 5 0,pR 9 1,(11,jI p.Shade),pR 12 2,pR 13 3] [(3,.var 35 [jI p2.Shade.Low,jI p2.Shade.High]),(2,.var 35 [jI p1.Shade.Low,jI p1.Shade.High]),(1,.var 49 [jI (dyes 0),jI (dyes 1)]),(0,.var 25 (cv25 b))] 4 0) ?_
 refine Fi (sT [(2,jI mane),(3,jI tail),pR 5 0,pR 9 1,(11,jI p.Shade),pR 12 2,pR 13 3] [(3,.var 35 [jI p2.Shade.Low,jI p2.Shade.High]),(2,.var 35 [jI p1.Shade.Low,jI p1.Shade.High]),(1,.var 49 [jI (dyes 0),jI (dyes 1)]),(0,.var 25 (cv25 b))] 4 0) ?_
 refine hQ_1 _ ?_
 refine AW.seqK (fun K_5 hK_5=>?_)
 refine Sa (sT [(2,jI mane),(3,jI tail),pR 5 0,pR 9 1,(11,jI p.Shade),pR 12 2,pR 13 3,(14,jI p1.Shade.Low)] [(3,.var 35 [jI p2.Shade.Low,jI p2.Shade.High]),(2,.var 35 [jI p1.Shade.Low,jI p1.Shade.High]),(1,.var 49 [jI (dyes 0),jI (dyes 1)]),(0,.var 25 (cv25 b))] 4 0) ?_
 refine AW.block ?_
 obtain ⟨_,hN_6,h⟩:=bsome h
 have hN_6:=of_decide_eq_true (must_ok hN_6)
 obtain ⟨_,h0_6,h⟩:=bsome h
 have h0_6:=of_decide_eq_true (must_ok h0_6)
 obtain ⟨out_6,hx_6,hk_6⟩:=bsomeC h
 refine AW.lpCK (fun (n:Int) (_:Unit)=>(sT [(2,jI mane),(3,jI tail),pR 5 0,pR 9 1,(11,jI p.Shade),pR 12 2,pR 13 3,(14,jI n)] [(3,.var 35 [jI p2.Shade.Low,jI p2.Shade.High]),(2,.var 35 [jI p1.Shade.Low,jI p1.Shade.High]),(1,.var 49 [jI (dyes 0),jI (dyes 1)]),(0,.var 25 (cv25 b))] 4 0)) (g101_6 b mane tail dyes p p2) ((p1.Shade.High+1)) hx_6 (Can.kp (by kernel_rfl)) (fun n s_6 hi_6 hl_6 c_6 h hb_6 K_6 hK_6=>?_) (fun n s_6 hi_6 hl_6 hout=>?_)
 ·unfold g101_6 at h
  refine AW.seqK (fun K_7 hK_7=>?_)
  refine Sa (sT [(2,jI mane),(3,jI tail),pR 5 0,pR 9 1,(11,jI p.Shade),pR 12 2,pR 13 3,(14,jI n),(39,.d (.bool (decide (n≤p1.Shade.High))))] [(3,.var 35 [jI p2.Shade.Low,jI p2.Shade.High]),(2,.var 35 [jI p1.Shade.Low,jI p1.Shade.High]),(1,.var 49 [jI (dyes 0),jI (dyes 1)]),(0,.var 25 (cv25 b))] 4 0) ?_
  refine AW.cond rfl (fun hb_8=>?_) (fun hb_8=>False.elim (by have:=of_decide_eq_false hb_8;omega))
  refine AW.skip (hK_7 _ ?_)
  refine AW.seqK (fun K_9 hK_9=>?_)
  refine AW.block ?_
  refine Sa (sT [(2,jI mane),(3,jI tail),pR 5 0,pR 9 1,(11,jI p.Shade),pR 12 2,pR 13 3,(14,jI n),(15,jI p2.Shade.Low)] [(3,.var 35 [jI p2.Shade.Low,jI p2.Shade.High]),(2,.var 35 [jI p1.Shade.Low,jI p1.Shade.High]),(1,.var 49 [jI (dyes 0),jI (dyes 1)]),(0,.var 25 (cv25 b))] 4 0) ?_
  refine AW.block ?_
  obtain ⟨_,hN_10,h⟩:=bsome h
  have hN_10:=of_decide_eq_true (must_ok hN_10)
  obtain ⟨_,h0_10,h⟩:=bsome h
  have h0_10:=of_decide_eq_true (must_ok h0_10)
  obtain ⟨out_10,hx_10,hk_10⟩:=bsomeC h
  refine AW.lpCK (fun (m:Int) (_:Unit)=>(sT [(2,jI mane),(3,jI tail),pR 5 0,pR 9 1,(11,jI p.Shade),pR 12 2,pR 13 3,(14,jI n),(15,jI m)] [(3,.var 35 [jI p2.Shade.Low,jI p2.Shade.High]),(2,.var 35 [jI p1.Shade.Low,jI p1.Shade.High]),(1,.var 49 [jI (dyes 0),jI (dyes 1)]),(0,.var 25 (cv25 b))] 4 0)) (g101_10 b mane tail dyes p n) ((p2.Shade.High+1)) hx_10 (Can.kp (by kernel_rfl)) (fun m s_10 hi_10 hl_10 c_10 h hb_10 K_10 hK_10=>?_) (fun m s_10 hi_10 hl_10 hout=>?_)
  ·unfold g101_10 at h
   refine AW.seqK (fun K_11 hK_11=>?_)
   refine Sa (sT [(2,jI mane),(3,jI tail),pR 5 0,pR 9 1,(11,jI p.Shade),pR 12 2,pR 13 3,(14,jI n),(15,jI m),(47,.d (.bool (decide (m≤p2.Shade.High))))] [(3,.var 35 [jI p2.Shade.Low,jI p2.Shade.High]),(2,.var 35 [jI p1.Shade.Low,jI p1.Shade.High]),(1,.var 49 [jI (dyes 0),jI (dyes 1)]),(0,.var 25 (cv25 b))] 4 0) ?_
   refine AW.cond rfl (fun hb_12=>?_) (fun hb_12=>False.elim (by have:=of_decide_eq_false hb_12;omega))
   refine AW.skip (hK_11 _ ?_)
   refine AW.seqK (fun K_13 hK_13=>?_)
   refine AW.block ?_
   refine AW.srwK (fun Q_14 hQ_14=>?_)
   refine RW.au fokW 9 [53] (sT [(2,jI mane),(3,jI tail),pR 5 0,pR 9 1,(11,jI p.Shade),pR 12 2,pR 13 3,(14,jI n),(15,jI m),(58,.d (.bool ((decide (mane≠tail))||(decide (n=m)))))] [(3,.var 35 [jI p2.Shade.Low,jI p2.Shade.High]),(2,.var 35 [jI p1.Shade.Low,jI p1.Shade.High]),(1,.var 49 [jI (dyes 0),jI (dyes 1)]),(0,.var 25 (cv25 b))] 4 0) (by kernel_rfl) ?_
   obtain ⟨v,hx_15,h⟩:=bsome h
   refine RW.cut fokW 13 ((sT [(2,jI mane),(3,jI tail),pR 5 0,pR 9 1,(11,jI p.Shade),pR 12 2,pR 13 3,(14,jI n),(15,jI m),(71,.d (.bool v))] [(3,.var 35 [jI p2.Shade.Low,jI p2.Shade.High]),(2,.var 35 [jI p1.Shade.Low,jI p1.Shade.High]),(1,.var 49 [jI (dyes 0),jI (dyes 1)]),(0,.var 25 (cv25 b))] 4 0)) ?_ ?_
   ·refine r_split 58 rfl (fun hb_17=>?_) (fun hb_17=>?_)
    ·have h:=ifT hb_17 hx_15
     refine aX 10 (sT [(2,jI mane),(3,jI tail),pR 5 0,pR 9 1,(11,jI p.Shade),pR 12 2,pR 13 3,(14,jI n),(15,jI m),(58,.d (.bool true)),(59,.agg (cv25 b)),(60,jI p.Shade),(64,jI (wr (n+(dyes 0)))),(68,jI (wr (m+(dyes 1))))] [(3,.var 35 [jI p2.Shade.Low,jI p2.Shade.High]),(2,.var 35 [jI p1.Shade.Low,jI p1.Shade.High]),(1,.var 49 [jI (dyes 0),jI (dyes 1)]),(0,.var 25 (cv25 b))] 4 0) ?_
     obtain ⟨r0_5,hx_16,h⟩:=bsome h
     refine r_call rfl rfl (k114 b p.Shade (wr (n+(dyes 0))) (wr (m+(dyes 1))) _ hx_16) rfl rfl ?_
     refine aX 2 (sT [(2,jI mane),(3,jI tail),pR 5 0,pR 9 1,(11,jI p.Shade),pR 12 2,pR 13 3,(14,jI n),(15,jI m),(71,.d (.bool (!r0_5)))] [(3,.var 35 [jI p2.Shade.Low,jI p2.Shade.High]),(2,.var 35 [jI p1.Shade.Low,jI p1.Shade.High]),(1,.var 49 [jI (dyes 0),jI (dyes 1)]),(0,.var 25 (cv25 b))] 4 0) ?_
     obtain rfl:=Option.some.inj h
     refine RunC.finJ (Can.kp (by kernel_rfl))
    ·have h:=ifF hb_17 hx_15
     refine aX 13 (sT [(2,jI mane),(3,jI tail),pR 5 0,pR 9 1,(11,jI p.Shade),pR 12 2,pR 13 3,(14,jI n),(15,jI m),(71,.d (.bool false))] [(3,.var 35 [jI p2.Shade.Low,jI p2.Shade.High]),(2,.var 35 [jI p1.Shade.Low,jI p1.Shade.High]),(1,.var 49 [jI (dyes 0),jI (dyes 1)]),(0,.var 25 (cv25 b))] 4 0) ?_
     obtain rfl:=Option.some.inj h
     refine RunC.finJ (Can.kp (by kernel_rfl))
   ·refine RW.nil (hQ_14 _ ?_)
    refine AW.cond rfl (fun hb_18=>?_) (fun hb_18=>?_)
    ·have h:=ifT hb_18 h
     refine Sa (sT [(10,.d (.bool false))] [] 4 0) ?_
     obtain rfl:=Option.some.inj h
     have e_2:=hb_10 _ rfl
     subst e_2
     obtain rfl:=Aft.bk hk_10
     have e_1:=hb_6 _ rfl
     subst e_1
     obtain rfl:=Aft.bk hk_6
     exact rT hR_0 (.cons (.tmp rfl) .nil)
    ·have h:=ifF hb_18 h
     refine AW.skip (hK_13 _ ?_)
     refine Ra (sT [(2,jI mane),(3,jI tail),pR 5 0,pR 9 1,(11,jI p.Shade),pR 12 2,pR 13 3,(14,jI n),(15,jI (wr (m+1)))] [(3,.var 35 [jI p2.Shade.Low,jI p2.Shade.High]),(2,.var 35 [jI p1.Shade.Low,jI p1.Shade.High]),(1,.var 49 [jI (dyes 0),jI (dyes 1)]),(0,.var 25 (cv25 b))] 4 0) ?_
     obtain rfl:=Option.some.inj h
     have ew:wr (m+1)=m+1:=inext (N:=(p2.Shade.High+1)) (by omega) (by omega) (by omega)
     rw [ew]
     exact hK_10 _ _ rfl (Can.kp (by kernel_rfl))
  ·subst hout
   have h:=Aft.nx hk_10
   refine AW.seqK (fun K_19 hK_19=>?_)
   refine Sa (sT [(2,jI mane),(3,jI tail),pR 5 0,pR 9 1,(11,jI p.Shade),pR 12 2,pR 13 3,(14,jI n),(15,jI m),(47,.d (.bool (decide (m≤p2.Shade.High))))] [(3,.var 35 [jI p2.Shade.Low,jI p2.Shade.High]),(2,.var 35 [jI p1.Shade.Low,jI p1.Shade.High]),(1,.var 49 [jI (dyes 0),jI (dyes 1)]),(0,.var 25 (cv25 b))] 4 0) ?_
   refine AW.cond rfl (fun hb_20=>False.elim (by have:=of_decide_eq_true hb_20;omega)) (fun hb_20=>?_)
   refine AW.exit ?_
   refine hK_9 _ ?_
   refine Ra (sT [(2,jI mane),(3,jI tail),pR 5 0,pR 9 1,(11,jI p.Shade),pR 12 2,pR 13 3,(14,jI (wr (n+1)))] [(3,.var 35 [jI p2.Shade.Low,jI p2.Shade.High]),(2,.var 35 [jI p1.Shade.Low,jI p1.Shade.High]),(1,.var 49 [jI (dyes 0),jI (dyes 1)]),(0,.var 25 (cv25 b))] 4 0) ?_
   obtain rfl:=Option.some.inj h
   have ew:wr (n+1)=n+1:=inext (N:=(p1.Shade.High+1)) (by omega) (by omega) (by omega)
   rw [ew]
   exact hK_6 _ _ rfl (Can.kp (by kernel_rfl))
 ·subst hout
  have h:=Aft.nx hk_6
  refine AW.seqK (fun K_21 hK_21=>?_)
  refine Sa (sT [(2,jI mane),(3,jI tail),pR 5 0,pR 9 1,(11,jI p.Shade),pR 12 2,pR 13 3,(14,jI n),(39,.d (.bool (decide (n≤p1.Shade.High))))] [(3,.var 35 [jI p2.Shade.Low,jI p2.Shade.High]),(2,.var 35 [jI p1.Shade.Low,jI p1.Shade.High]),(1,.var 49 [jI (dyes 0),jI (dyes 1)]),(0,.var 25 (cv25 b))] 4 0) ?_
  refine AW.cond rfl (fun hb_22=>False.elim (by have:=of_decide_eq_true hb_22;omega)) (fun hb_22=>?_)
  refine AW.exit ?_
  refine hK_5 _ ?_
  refine Sa (sT [(10,.d (.bool true))] [] 4 0) ?_
  obtain rfl:=Option.some.inj h
  exact rT hR_0 (.cons (.tmp rfl) .nil)
def g62_6 (b:HairBook) (horse:Int) (mane:Int) (tail:Int) (n:Int):Int→Unit→Option (Ctl (Unit) (Ctl (Unit) ((Nat→Int)×Bool))):=fun m _=>(g101 b horse mane tail (arrL [n,m])).bind fun r0_1=>bif r0_1 then (some (.brk (.brk ((arrL [n,m]),true)))) else (some (.next ()))
def g62_2 (b:HairBook) (horse:Int) (mane:Int) (tail:Int):Int→Unit→Option (Ctl (Unit) ((Nat→Int)×Bool)):=fun n _=>(must (decide ((b.Dark+1)≤9223372036854775807))).bind fun _=>bindC (forC (g62_6 b horse mane tail n) ((((b.Dark+1):Int) - 0).toNat) 0 ()) fun _=>some (.next ())
def g62 (b:HairBook) (horse:Int) (mane:Int) (tail:Int):Option ((Nat→Int)×Bool):=(must (decide ((b.Dark+1)≤9223372036854775807))).bind fun _=>bindC (forC (g62_2 b horse mane tail) ((((b.Dark+1):Int) - 0).toNat) 0 ()) fun _=>some ((arrL [0,0]),false)
theorem k62 (b:HairBook) (horse:Int) (mane:Int) (tail:Int) (r:(Nat→Int)×Bool) (h:g62 b horse mane tail=some r):SCall Tryd.prog Gs 62 [.agg (cv25 b),jI horse,jI mane,jI tail] [] 0 Fr.emp (match r with | (r0_2,r1_1)=>.tup [.agg [jI (r0_2 0),jI (r0_2 1)],.d (.bool r1_1)]) [] 0 Fr.emp:=by
 unfold g62 at h
 refine SCall.mkK Tryd.func62 c62 rfl rfl (by kernel_rfl) (fun Q_0 hR_0 hN_0=>?_)
 refine Sa (sT [(1,jI horse),(2,jI mane),(3,jI tail),pR 4 0,pR 8 1] [(1,.var 49 [jI 0,jI 0]),(0,.var 25 (cv25 b))] 2 0) ?_
 refine AW.seqK (fun K_1 hK_1=>?_)
 refine Sa (sT [(1,jI horse),(2,jI mane),(3,jI tail),pR 4 0,pR 8 1,(10,jI 0)] [(1,.var 49 [jI 0,jI 0]),(0,.var 25 (cv25 b))] 2 0) ?_
 refine AW.block ?_
 obtain ⟨_,hN_2,h⟩:=bsome h
 have hN_2:=of_decide_eq_true (must_ok hN_2)
 obtain ⟨out_2,hx_2,hk_2⟩:=bsomeC h
 refine AW.lpCK (fun (n:Int) (_:Unit)=>(sT [(1,jI horse),(2,jI mane),(3,jI tail),pR 4 0,pR 8 1,(10,jI n)] [(1,.var 49 [jI 0,jI 0]),(0,.var 25 (cv25 b))] 2 0)) (g62_2 b horse mane tail) ((b.Dark+1)) hx_2 (Can.kp (by kernel_rfl)) (fun n s_2 hi_2 hl_2 c_2 h hb_2 K_2 hK_2=>?_) (fun n s_2 hi_2 hl_2 hout=>?_)
 ·unfold g62_2 at h
  refine AW.seqK (fun K_3 hK_3=>?_)
  refine Sa (sT [(1,jI horse),(2,jI mane),(3,jI tail),pR 4 0,pR 8 1,(10,jI n),(15,.d (.bool (decide (n≤b.Dark))))] [(1,.var 49 [jI 0,jI 0]),(0,.var 25 (cv25 b))] 2 0) ?_
  refine AW.cond rfl (fun hb_4=>?_) (fun hb_4=>False.elim (by have:=of_decide_eq_false hb_4;omega))
  refine AW.skip (hK_3 _ ?_)
  refine AW.seqK (fun K_5 hK_5=>?_)
  refine AW.block ?_
  refine Sa (sT [(1,jI horse),(2,jI mane),(3,jI tail),pR 4 0,pR 8 1,(10,jI n),(11,jI 0)] [(1,.var 49 [jI 0,jI 0]),(0,.var 25 (cv25 b))] 2 0) ?_
  refine AW.block ?_
  obtain ⟨_,hN_6,h⟩:=bsome h
  have hN_6:=of_decide_eq_true (must_ok hN_6)
  obtain ⟨out_6,hx_6,hk_6⟩:=bsomeC h
  refine AW.lpCK (fun (m:Int) (_:Unit)=>(sT [(1,jI horse),(2,jI mane),(3,jI tail),pR 4 0,pR 8 1,(10,jI n),(11,jI m)] [(1,.var 49 [jI 0,jI 0]),(0,.var 25 (cv25 b))] 2 0)) (g62_6 b horse mane tail n) ((b.Dark+1)) hx_6 (Can.kp (by kernel_rfl)) (fun m s_6 hi_6 hl_6 c_6 h hb_6 K_6 hK_6=>?_) (fun m s_6 hi_6 hl_6 hout=>?_)
  ·unfold g62_6 at h
   refine AW.seqK (fun K_7 hK_7=>?_)
   refine Sa (sT [(1,jI horse),(2,jI mane),(3,jI tail),pR 4 0,pR 8 1,(10,jI n),(11,jI m),(21,.d (.bool (decide (m≤b.Dark))))] [(1,.var 49 [jI 0,jI 0]),(0,.var 25 (cv25 b))] 2 0) ?_
   refine AW.cond rfl (fun hb_8=>?_) (fun hb_8=>False.elim (by have:=of_decide_eq_false hb_8;omega))
   refine AW.skip (hK_7 _ ?_)
   refine AW.seqK (fun K_9 hK_9=>?_)
   refine AW.block ?_
   refine AW.srwK (fun Q_10 hQ_10=>?_)
   refine Au 7 (sT [(1,jI horse),(2,jI mane),(3,jI tail),pR 4 0,pR 8 1,(10,jI n),(11,jI m),(24,.agg (cv25 b)),(25,jI horse),(26,jI mane),(27,jI tail),(30,.agg [jI n,jI m])] [(1,.var 49 [jI 0,jI 0]),(0,.var 25 (cv25 b))] 2 0) ?_
   obtain ⟨r0_1,hx_11,h⟩:=bsome h
   refine rC (k101 b horse mane tail (arrL [n,m]) _ hx_11) ?_
   refine RW.nil (hQ_10 _ ?_)
   refine AW.cond rfl (fun hb_12=>?_) (fun hb_12=>?_)
   ·have h:=ifT hb_12 h
    refine Sa (sT [pR 8 1,(9,.d (.bool true))] [(1,.var 49 [jI n,jI m])] 2 0) ?_
    obtain rfl:=Option.some.inj h
    have e_2:=hb_6 _ rfl
    subst e_2
    obtain rfl:=Aft.bk hk_6
    have e_1:=hb_2 _ rfl
    subst e_1
    obtain rfl:=Aft.bk hk_2
    exact rT hR_0 (.cons (.agg rfl rfl (Nat.le_of_ble_eq_true rfl)) (.cons (.tmp rfl) .nil))
   ·have h:=ifF hb_12 h
    refine AW.skip (hK_9 _ ?_)
    refine Ra (sT [(1,jI horse),(2,jI mane),(3,jI tail),pR 4 0,pR 8 1,(10,jI n),(11,jI (wr (m+1)))] [(1,.var 49 [jI 0,jI 0]),(0,.var 25 (cv25 b))] 2 0) ?_
    obtain rfl:=Option.some.inj h
    have ew:wr (m+1)=m+1:=inext (N:=(b.Dark+1)) (by omega) (by omega) (by omega)
    rw [ew]
    exact hK_6 _ _ rfl (Can.kp (by kernel_rfl))
  ·subst hout
   have h:=Aft.nx hk_6
   refine AW.seqK (fun K_13 hK_13=>?_)
   refine Sa (sT [(1,jI horse),(2,jI mane),(3,jI tail),pR 4 0,pR 8 1,(10,jI n),(11,jI m),(21,.d (.bool (decide (m≤b.Dark))))] [(1,.var 49 [jI 0,jI 0]),(0,.var 25 (cv25 b))] 2 0) ?_
   refine AW.cond rfl (fun hb_14=>False.elim (by have:=of_decide_eq_true hb_14;omega)) (fun hb_14=>?_)
   refine AW.exit ?_
   refine hK_5 _ ?_
   refine Ra (sT [(1,jI horse),(2,jI mane),(3,jI tail),pR 4 0,pR 8 1,(10,jI (wr (n+1)))] [(1,.var 49 [jI 0,jI 0]),(0,.var 25 (cv25 b))] 2 0) ?_
   obtain rfl:=Option.some.inj h
   have ew:wr (n+1)=n+1:=inext (N:=(b.Dark+1)) (by omega) (by omega) (by omega)
   rw [ew]
   exact hK_2 _ _ rfl (Can.kp (by kernel_rfl))
 ·subst hout
  have h:=Aft.nx hk_2
  refine AW.seqK (fun K_15 hK_15=>?_)
  refine Sa (sT [(1,jI horse),(2,jI mane),(3,jI tail),pR 4 0,pR 8 1,(10,jI n),(15,.d (.bool (decide (n≤b.Dark))))] [(1,.var 49 [jI 0,jI 0]),(0,.var 25 (cv25 b))] 2 0) ?_
  refine AW.cond rfl (fun hb_16=>False.elim (by have:=of_decide_eq_true hb_16;omega)) (fun hb_16=>?_)
  refine AW.exit ?_
  refine hK_1 _ ?_
  refine Sa (sT [pR 8 1,(9,.d (.bool false))] [(1,.var 49 [jI 0,jI 0])] 2 0) ?_
  obtain rfl:=Option.some.inj h
  exact rT hR_0 (.cons (.agg rfl rfl (Nat.le_of_ble_eq_true rfl)) (.cons (.tmp rfl) .nil))
def g103 (n:Int) (o0_B:HairBook) (mf:List (Hair_dye×Span)):Option Bool:=(g58 o0_B mf n).bind fun r0_1=>some (!r0_1)
theorem k103 (n:Int) (o0_B:HairBook) (mf:List (Hair_dye×Span)) (r:Bool) (h:g103 n o0_B mf=some r):SCall Tryd.prog Gs 103 [jI n,.ptr 0 0] [(0,.var 78 (hbm o0_B mf))] 1 Fr.emp (.d (.bool r)) [(0,.var 78 (hbm o0_B mf))] 1 Fr.emp:=by
 unfold g103 at h
 refine SCall.mkK Tryd.func103 c103 rfl rfl (by kernel_rfl) (fun Q_0 hR_0 hN_0=>?_)
 refine Sa (sT [(0,jI n),pR 1 0] [(0,.var 78 (hbm o0_B mf))] 1 1) ?_
 refine AW.srwK (fun Q_1 hQ_1=>?_)
 refine Au 2 (sT [(4,.agg (hbm o0_B mf)),(5,jI n)] [(0,.var 78 (hbm o0_B mf))] 1 1) ?_
 obtain ⟨r0_1,hx_2,h⟩:=bsome h
 refine rC (k58 o0_B mf n _ hx_2) ?_
 refine Au 2 (sT [(3,.d (.bool (!r0_1)))] [(0,.var 78 (hbm o0_B mf))] 1 1) ?_
 refine RW.nil (hQ_1 _ ?_)
 obtain rfl:=Option.some.inj h
 exact rT hR_0 (.cons (.tmp rfl) .nil)
def g115_3 (o0_B:HairBook) (mf:List (Hair_dye×Span)):Int→Int→Unit→Option (Ctl (Unit) (Int)):=fun v p _=>(g103 p o0_B mf).bind fun r0=>bif r0 then (some (.brk v)) else (some (.next ()))
def g115 (s:(List Int)) (o0_B:HairBook) (mf:List (Hair_dye×Span)):Option Int:=bindC (eachC (g115_3 o0_B mf) s 0 ()) fun _=>some (-1)
theorem k115 (s:(List Int)) (o0_B:HairBook) (mf:List (Hair_dye×Span)) (r:Int) (h:g115 s o0_B mf=some r):SCall Tryd.prog Gs 115 [.d (q1 s),.clo 103 [] [.ptr 0 0]] [(0,.var 78 (hbm o0_B mf))] 1 Fr.emp (jI r) [(0,.var 78 (hbm o0_B mf))] 1 Fr.emp:=by
 unfold g115 at h
 refine SCall.mkK Tryd.func115 c115 rfl rfl (by kernel_rfl) (fun Q_0 hR_0 hN_0=>?_)
 refine Sa (sT [(0,.d (q1 s)),(1,.clo 103 [] [.ptr 0 0])] [(0,.var 78 (hbm o0_B mf))] 1 1) ?_
 refine AW.seqK fun K_1 hK_1=>AW.srwK fun Q_2 hQ_2=>?_
 refine Au 1 (sT [(0,.d (q1 s)),(1,.clo 103 [] [.ptr 0 0]),(6,.d (q1 s))] [(0,.var 78 (hbm o0_B mf))] 1 1) ?_
 refine rL rfl ?_
 refine Au 1 (sT [(0,.d (q1 s)),(1,.clo 103 [] [.ptr 0 0]),(7,jI (s.length:Int)),(8,jI 0)] [(0,.var 78 (hbm o0_B mf))] 1 1) ?_
 refine RW.nil (hQ_2 _ ?_)
 refine AW.block ?_
 refine AW.sln (t:=0) rfl (fun hN_3=>?_)
 rw [List.length_map] at hN_3
 obtain ⟨out_3,hx_3,hk_3⟩:=bsomeC h
 refine AW.evCK (fun (v:Int) (_:Unit)=>(sT [(0,.d (q1 s)),(1,.clo 103 [] [.ptr 0 0]),(7,jI (s.length:Int)),(8,jI v)] [(0,.var 78 (hbm o0_B mf))] 1 1)) (g115_3 o0_B mf) hx_3 (Can.kp (by kernel_rfl)) (fun v p s_3 hi_3 hl_3 hp_3 c_3 h hb_3 K_3 hK_3=>?_) (fun v s_3 hi_3 hl_3 hout=>?_)
 ·unfold g115_3 at h
  refine Sa (sT [(0,.d (q1 s)),(1,.clo 103 [] [.ptr 0 0]),(7,jI (s.length:Int)),(8,jI v),(9,.d (.bool (decide (v<(s.length:Int)))))] [(0,.var 78 (hbm o0_B mf))] 1 1) ?_
  refine AW.seqK (fun K_4 hK_4=>?_)
  refine AW.cond rfl (fun hb_5=>?_) (fun hb_5=>False.elim (by have:=of_decide_eq_false hb_5;omega))
  refine AW.skip (hK_4 _ ?_)
  refine AW.seqK (fun K_6 hK_6=>?_)
  refine AW.block ?_
  refine Sa (sT [(0,.d (q1 s)),(1,.clo 103 [] [.ptr 0 0]),(5,jI v),(7,jI (s.length:Int)),(8,jI v)] [(0,.var 78 (hbm o0_B mf))] 1 1) ?_
  refine AW.srwK (fun Q_7 hQ_7=>?_)
  refine Au 3 (sT [(0,.d (q1 s)),(1,.clo 103 [] [.ptr 0 0]),(5,jI v),(7,jI (s.length:Int)),(8,jI v),(11,.clo 103 [] [.ptr 0 0]),(12,.d (q1 s)),(13,jI v)] [(0,.var 78 (hbm o0_B mf))] 1 1) ?_
  refine RW.one fokW (r_iaD trivial rfl rfl hi_3 (row:=e3 p) (mapget hp_3) (r_end ?_))
  refine Au 1 (sT [(0,.d (q1 s)),(1,.clo 103 [] [.ptr 0 0]),(5,jI v),(7,jI (s.length:Int)),(8,jI v),(11,.clo 103 [] [.ptr 0 0]),(15,jI p)] [(0,.var 78 (hbm o0_B mf))] 1 1) ?_
  obtain ⟨r0,hx_8,h⟩:=bsome h
  refine RW.one fokW (r_callvE (zr:=[]) [0] trivial rfl (.clo _ _ _) (by kernel_rfl) rfl (k103 p o0_B mf _ hx_8) ⟨rfl,trivial⟩ rfl rfl ⟨.refl _,.refl _,trivial⟩ rfl rfl rfl (r_end ?_))
  refine RW.nil (hQ_7 _ ?_)
  refine AW.cond rfl (fun hb_9=>?_) (fun hb_9=>?_)
  ·have h:=ifT hb_9 h
   refine Sa (sT [(4,jI v)] [(0,.var 78 (hbm o0_B mf))] 1 1) ?_
   obtain rfl:=Option.some.inj h
   have e_1:=hb_3 _ rfl
   subst e_1
   obtain rfl:=Aft.bk hk_3
   exact rT hR_0 (.cons (.tmp rfl) .nil)
  ·have h:=ifF hb_9 h
   refine AW.skip (hK_6 _ ?_)
   refine Ra (sT [(0,.d (q1 s)),(1,.clo 103 [] [.ptr 0 0]),(7,jI (s.length:Int)),(8,jI (wr (v+1)))] [(0,.var 78 (hbm o0_B mf))] 1 1) ?_
   obtain rfl:=Option.some.inj h
   have ew:wr (v+1)=v+1:=inext (N:=(s.length:Int)) (by omega) (by omega) (by omega)
   rw [ew]
   exact hK_3 _ _ rfl (Can.kp (by kernel_rfl))
 ·subst hout
  have h:=Aft.nx hk_3
  refine Sa (sT [(0,.d (q1 s)),(1,.clo 103 [] [.ptr 0 0]),(7,jI (s.length:Int)),(8,jI v),(9,.d (.bool (decide (v<(s.length:Int)))))] [(0,.var 78 (hbm o0_B mf))] 1 1) ?_
  refine AW.seqK (fun K_10 hK_10=>?_)
  refine AW.cond rfl (fun hb_11=>False.elim (by have:=of_decide_eq_true hb_11;omega)) (fun hb_11=>?_)
  refine AW.exit ?_
  refine hK_1 _ ?_
  refine Sa (sT [(4,jI (-1))] [(0,.var 78 (hbm o0_B mf))] 1 1) ?_
  obtain rfl:=Option.some.inj h
  exact rT hR_0 (.cons (.tmp rfl) .nil)
def g102 (s:(List Int)) (o0_B:HairBook) (mf:List (Hair_dye×Span)):Option Bool:=(g115 s o0_B mf).bind fun r0_2=>some (decide (0≤r0_2))
theorem k102 (s:(List Int)) (o0_B:HairBook) (mf:List (Hair_dye×Span)) (r:Bool) (h:g102 s o0_B mf=some r):SCall Tryd.prog Gs 102 [.d (q1 s),.clo 103 [] [.ptr 0 0]] [(0,.var 78 (hbm o0_B mf))] 1 Fr.emp (.d (.bool r)) [(0,.var 78 (hbm o0_B mf))] 1 Fr.emp:=by
 unfold g102 at h
 refine SCall.mkK Tryd.func102 c102 rfl rfl (by kernel_rfl) (fun Q_0 hR_0 hN_0=>?_)
 refine Sa (sT [(0,.d (q1 s)),(1,.clo 103 [] [.ptr 0 0])] [(0,.var 78 (hbm o0_B mf))] 1 1) ?_
 refine AW.srwK (fun Q_1 hQ_1=>?_)
 refine Au 2 (sT [(5,.d (q1 s)),(6,.clo 103 [] [.ptr 0 0])] [(0,.var 78 (hbm o0_B mf))] 1 1) ?_
 obtain ⟨r0_2,hx_2,h⟩:=bsome h
 refine RW.one fokW (r_callS (zr:=[]) [0] trivial rfl (k115 s o0_B mf _ hx_2) ⟨rfl,trivial⟩ rfl rfl ⟨.refl _,.refl _,trivial⟩ rfl rfl rfl (r_end ?_))
 refine Au 2 (sT [(4,.d (.bool (decide (0≤r0_2))))] [(0,.var 78 (hbm o0_B mf))] 1 1) ?_
 refine RW.nil (hQ_1 _ ?_)
 obtain rfl:=Option.some.inj h
 exact rT hR_0 (.cons (.tmp rfl) .nil)
def g66 (b_B:HairBook) (mf:List (Hair_dye×Span)) (plan:(List Int)):Option Bool:=(bif (decide ((plan.length:Int)=(wr (2*(b_B.Horses.length:Int))))) then ((g102 plan b_B mf).bind fun r0=>some (!r0)) else (some false)).bind fun v=>some v
theorem k66 (b_B:HairBook) (mf:List (Hair_dye×Span)) (plan:(List Int)) (r:Bool) (h:g66 b_B mf plan=some r):SCall Tryd.prog Gs 66 [.agg (hbm b_B mf),.d (q1 plan)] [] 0 Fr.emp (.d (.bool r)) [] 0 Fr.emp:=by
 unfold g66 at h
 refine SCall.mkK Tryd.func66 c66 rfl rfl (by kernel_rfl) (fun Q_0 hR_0 hN_0=>?_)
 refine Sa (sT [(1,.d (q1 plan)),pR 2 0] [(0,.var 78 (hbm b_B mf))] 1 0) ?_
 refine AW.srwK (fun Q_1 hQ_1=>?_)
 refine Au 1 (sT [(1,.d (q1 plan)),pR 2 0,(5,.d (q1 plan))] [(0,.var 78 (hbm b_B mf))] 1 0) ?_
 refine rL rfl ?_
 refine Au 3 (sT [(1,.d (q1 plan)),pR 2 0,(6,jI (plan.length:Int)),(9,.d (.sl 3 (List.map e69 b_B.Horses)))] [(0,.var 78 (hbm b_B mf))] 1 0) ?_
 refine rL rfl ?_
 refine Au 3 (sT [(1,.d (q1 plan)),pR 2 0,(13,.d (.bool (decide ((plan.length:Int)=(wr (2*(b_B.Horses.length:Int)))))))] [(0,.var 78 (hbm b_B mf))] 1 0) ?_
 obtain ⟨v,hx_2,h⟩:=bsome h
 refine RW.cut fokW 5 ((sT [(18,.d (.bool v))] [] 1 0)) ?_ ?_
 ·refine r_split 13 rfl (fun hb_4=>?_) (fun hb_4=>?_)
  ·have h:=ifT hb_4 hx_2
   refine aX 2 (sT [(13,.d (.bool true)),(14,.d (q1 plan)),(15,.clo 103 [] [.ptr 0 0])] [(0,.var 78 (hbm b_B mf))] 1 0) ?_
   obtain ⟨r0,hx_3,h⟩:=bsome h
   refine r_callS (zr:=[]) [0] rfl rfl (k102 plan b_B mf _ hx_3) ⟨rfl,trivial⟩ rfl rfl ⟨.refl _,.refl _,trivial⟩ rfl rfl rfl ?_
   refine aX 2 (sT [(18,.d (.bool (!r0)))] [(0,.var 78 (hbm b_B mf))] 1 0) ?_
   obtain rfl:=Option.some.inj h
   refine RunC.finJ (Can.kp (by kernel_rfl))
  ·have h:=ifF hb_4 hx_2
   refine aX 5 (sT [(18,.d (.bool false))] [(0,.var 78 (hbm b_B mf))] 1 0) ?_
   obtain rfl:=Option.some.inj h
   refine RunC.finJ (Can.kp (by kernel_rfl))
 ·refine Au 1 (sT [(4,.d (.bool v))] [] 1 0) ?_
  refine RW.nil (hQ_1 _ ?_)
  obtain rfl:=Option.some.inj h
  exact rT hR_0 (.cons (.tmp rfl) .nil)
def g65 (b_B:HairBook) (mf:List (Hair_dye×Span)) (o0:(List Int)):Option Bool:=(g66 b_B mf o0).bind fun r0_1=>some r0_1
theorem k65 (b_B:HairBook) (mf:List (Hair_dye×Span)) (o0:(List Int)) (r:Bool) (h:g65 b_B mf o0=some r):SCall Tryd.prog Gs 65 [.agg (hbm b_B mf),.ptr 0 0] [(0,.var 26 [.d (q1 o0)])] 1 Fr.emp (.d (.bool r)) [(0,.var 26 [.d (q1 o0)])] 1 Fr.emp:=by
 unfold g65 at h
 refine SCall.mkK Tryd.func65 c65 rfl rfl (by kernel_rfl) (fun Q_0 hR_0 hN_0=>?_)
 refine Sa (sT [pR 1 0,pR 2 1] [(1,.var 78 (hbm b_B mf)),(0,.var 26 [.d (q1 o0)])] 2 1) ?_
 refine AW.srwK (fun Q_1 hQ_1=>?_)
 refine Au 2 (sT [(4,.agg (hbm b_B mf)),(5,.d (q1 o0))] [(0,.var 26 [.d (q1 o0)])] 2 1) ?_
 obtain ⟨r0_1,hx_2,h⟩:=bsome h
 refine rC (k66 b_B mf o0 _ hx_2) ?_
 refine Au 1 (sT [(3,.d (.bool r0_1))] [(0,.var 26 [.d (q1 o0)])] 2 1) ?_
 refine RW.nil (hQ_1 _ ?_)
 obtain rfl:=Option.some.inj h
 exact rT hR_0 (.cons (.tmp rfl) .nil)
def g55a (x:HairBook) (o0:(List Int)):Option (Ctl (HairBook×Int) (HairBook×(List (Hair_dye×Span))×Int)):=(g17 x).bind fun r0_9=>bif (decide (r0_9≠0)) then (some (.next ((HairBook.mk [] [] 0 0 0),r0_9))) else ((g80 x).bind fun (r0_B,mf)=>(g65 r0_B mf o0).bind fun r0=>bif (!r0) then (some (.brk (r0_B,mf,61))) else (some (.brk (r0_B,mf,0))))
def y9 (x:HairBook) (o0:(List Int)):List (Nat×Blk):=[(2,.var 78 [.d (.nilSl),.d (.nilSl),jI 0,jI 0,jI 0,.d (.nilMap)]),(1,.var 25 (cv25 x)),(0,.var 26 [.d (q1 o0)])]
def y10 (o0:(List Int)):List (Nat×Blk):=[(2,.var 78 [.d (.nilSl),.d (.nilSl),jI 0,jI 0,jI 0,.d (.nilMap)]),(0,.var 26 [.d (q1 o0)])]
theorem k55a (x:HairBook) (o0:(List Int)) (r:Ctl (HairBook×Int) (HairBook×(List (Hair_dye×Span))×Int)) (h:g55a x o0=some r):SCall Tryd.prog Gs 55 [.agg (cv25 x),.clo 65 [] [.ptr 0 0]] [(0,.var 26 [.d (q1 o0)])] 1 Fr.emp (match r with | .next (r0_B4,r1_1)=>.tup [.agg [.d (.sl 4 (List.map e58 r0_B4.Hanks)),.d (.sl 3 (List.map e69 r0_B4.Horses)),jI r0_B4.Dark,jI r0_B4.Near,jI r0_B4.Match,.d (.nilMap)],jI r1_1] | .brk (r0_B5,mf2,r1_2)=>.tup [.agg (hbm r0_B5 mf2),jI r1_2]) (match r with | .next (r0_B4,r1_1)=>[(0,.var 26 [.d (q1 o0)])] | .brk (r0_B5,mf2,r1_2)=>[(0,.var 26 [.d (q1 o0)])]) 1 Fr.emp:=by
 unfold g55a at h
 refine SCall.mkK Tryd.func55 c55 rfl (by rcases r with _ | _<;>rfl) (by rcases r with _ | _<;>kernel_rfl) (fun Q_0 hR_0 hN_0=>?_)
 refine Sa (sT [(1,.clo 65 [] [.ptr 0 0]),pR 2 1,pR 4 2] (y9 x o0) 3 1) ?_
 refine AW.seqK fun K_1 hK_1=>AW.srwK fun Q_2 hQ_2=>?_
 refine Au 1 (sT [(1,.clo 65 [] [.ptr 0 0]),pR 2 1,pR 4 2,(8,.agg (cv25 x))] (y9 x o0) 3 1) ?_
 obtain ⟨r0_9,hx_3,h⟩:=bsome h
 refine rC (k17 x _ hx_3) ?_
 refine Au 1 (sT [(1,.clo 65 [] [.ptr 0 0]),pR 2 1,pR 4 2,(6,jI r0_9)] (y9 x o0) 3 1) ?_
 refine RW.nil (hQ_2 _ ?_)
 refine Sa (sT [(1,.clo 65 [] [.ptr 0 0]),pR 2 1,pR 4 2,(6,jI r0_9),(11,.d (.bool (decide (r0_9≠0))))] (y9 x o0) 3 1) ?_
 refine AW.cond rfl (fun hb_4=>?_) (fun hb_4=>?_)
 ·have h:=ifT hb_4 h
  refine Sa (sT [pR 4 2,(5,jI r0_9)] (y10 o0) 3 1) ?_
  obtain rfl:=Option.some.inj h
  exact AW.ret (hR_0 _ (retX (.cons (.agg rfl rfl (Nat.le_of_ble_eq_true rfl)) (.cons (.tmp rfl) .nil)) (Frz.tup_of ⟨Frz.agg_of ⟨(.nil 4),(.nil 3),.refl _,.refl _,.refl _,.refl _,trivial⟩,.refl _,trivial⟩) rfl (by kernel_rfl) (by kernel_rfl)))
 ·have h:=ifF hb_4 h
  refine AW.skip (hK_1 _ ?_)
  refine AW.srwK (fun Q_5 hQ_5=>?_)
  refine Au 1 (sT [(1,.clo 65 [] [.ptr 0 0]),pR 4 2,(14,.agg (cv25 x))] (y10 o0) 3 1) ?_
  obtain ⟨⟨r0_B,mf⟩,hx_6,h⟩:=bsome h
  refine rC (k80 x _ hx_6) ?_
  refine Au 2 (sT [(1,.clo 65 [] [.ptr 0 0]),pR 4 2,pR 7 3] [(3,.var 78 (hbm r0_B mf)),(2,.var 78 [.d (.nilSl),.d (.nilSl),jI 0,jI 0,jI 0,.d (.nilMap)]),(0,.var 26 [.d (q1 o0)])] 4 1) ?_
  refine RW.nil (hQ_5 _ ?_)
  refine AW.seqK fun K_7 hK_7=>AW.srwK fun Q_8 hQ_8=>?_
  refine Au 2 (sT [pR 4 2,pR 7 3,(16,.clo 65 [] [.ptr 0 0]),(17,.agg (hbm r0_B mf))] [(3,.var 78 (hbm r0_B mf)),(2,.var 78 [.d (.nilSl),.d (.nilSl),jI 0,jI 0,jI 0,.d (.nilMap)]),(0,.var 26 [.d (q1 o0)])] 4 1) ?_
  obtain ⟨r0,hx_9,h⟩:=bsome h
  refine RW.one fokW (r_callvE (zr:=[]) [0] trivial rfl (.clo _ _ _) (by kernel_rfl) rfl (k65 r0_B mf o0 _ hx_9) ⟨rfl,trivial⟩ rfl rfl ⟨.refl _,.refl _,trivial⟩ rfl rfl rfl (r_end ?_))
  refine Au 1 (sT [pR 4 2,pR 7 3,(19,.d (.bool (!r0)))] [(0,.var 26 [.d (q1 o0)]),(3,.var 78 (hbm r0_B mf)),(2,.var 78 [.d (.nilSl),.d (.nilSl),jI 0,jI 0,jI 0,.d (.nilMap)])] 4 1) ?_
  refine RW.nil (hQ_8 _ ?_)
  refine AW.cond rfl (fun hb_10=>?_) (fun hb_10=>?_)
  ·have h:=ifT hb_10 h
   refine Sa (sT [pR 4 2,(5,jI 61)] [(2,.var 78 (hbm r0_B mf)),(0,.var 26 [.d (q1 o0)])] 4 1) ?_
   obtain rfl:=Option.some.inj h
   exact rT hR_0 (.cons (.agg rfl rfl (Nat.le_of_ble_eq_true rfl)) (.cons (.tmp rfl) .nil))
  ·have h:=ifF hb_10 h
   refine AW.skip (hK_7 _ ?_)
   refine Sa (sT [pR 4 2,(5,jI 0)] [(2,.var 78 (hbm r0_B mf)),(0,.var 26 [.d (q1 o0)])] 4 1) ?_
   obtain rfl:=Option.some.inj h
   exact rT hR_0 (.cons (.agg rfl rfl (Nat.le_of_ble_eq_true rfl)) (.cons (.tmp rfl) .nil))
def g105 :Option (Nat→Int):=some (arrL [0,0,0,0,0])
theorem k105  (r:(Nat→Int)) (h:g105=some r):SCall Tryd.prog Gs 105 [] [] 0 Fr.emp (.agg (cfv r)) [] 0 Fr.emp:=by
 unfold g105 at h
 refine SCall.mkK Tryd.func105 c105 rfl rfl (by kernel_rfl) (fun Q_0 hR_0 hN_0=>?_)
 refine Sa (sT [pR 0 0] [(0,.var 92 [jI 0,jI 0,jI 0,jI 0,jI 0])] 1 0) ?_
 refine Sa (sT [pR 0 0,pR 1 1] [(1,.var 92 [jI 0,jI 0,jI 0,jI 0,jI 0]),(0,.var 92 [jI 0,jI 0,jI 0,jI 0,jI 0])] 2 0) ?_
 refine Sa (sT [pR 0 0] [(0,.var 92 [jI 0,jI 0,jI 0,jI 0,jI 0])] 2 0) ?_
 obtain rfl:=Option.some.inj h
 exact rT hR_0 (.cons (.agg rfl rfl (Nat.le_of_ble_eq_true rfl)) .nil)
def g133 (h_:HairHorse):Option Int:=some h_.Mane
theorem k133 (h_:HairHorse) (r:Int) (h:g133 h_=some r):SCall Tryd.prog Gs 133 [.agg [jI h_.Mane,jI h_.Tail,jI h_.Shade]] [] 0 Fr.emp (jI r) [] 0 Fr.emp:=by
 unfold g133 at h
 refine SCall.mkK Tryd.func133 c133 rfl rfl (by kernel_rfl) (fun Q_0 hR_0 hN_0=>?_)
 refine Sa (sT [pR 1 0] [(0,.var 124 [jI h_.Mane,jI h_.Tail,jI h_.Shade])] 1 0) ?_
 refine Sa (sT [(2,jI h_.Mane)] [] 1 0) ?_
 obtain rfl:=Option.some.inj h
 exact rT hR_0 (.cons (.tmp rfl) .nil)
def g135 (h_:HairHorse):Option Int:=some h_.Tail
theorem k135 (h_:HairHorse) (r:Int) (h:g135 h_=some r):SCall Tryd.prog Gs 135 [.agg [jI h_.Mane,jI h_.Tail,jI h_.Shade]] [] 0 Fr.emp (jI r) [] 0 Fr.emp:=by
 unfold g135 at h
 refine SCall.mkK Tryd.func135 c135 rfl rfl (by kernel_rfl) (fun Q_0 hR_0 hN_0=>?_)
 refine Sa (sT [pR 1 0] [(0,.var 124 [jI h_.Mane,jI h_.Tail,jI h_.Shade])] 1 0) ?_
 refine Sa (sT [(2,jI h_.Tail)] [] 1 0) ?_
 obtain rfl:=Option.some.inj h
 exact rT hR_0 (.cons (.tmp rfl) .nil)
def g71_5 (b_B:HairBook):Int→Int→(Nat→Int)→Option (Nat→Int):=fun v p out=>(ixN 5 p).bind fun j=>(ixN 2 (v.tmod 2)).bind fun j1=>match j1 with | 0=>(ixL b_B.Horses (wr (v.tdiv 2))).bind fun p1=>(g133 p1).bind fun r0_1=>(ixN 5 p).bind fun j2=>some (aset out j2 (wr ((out j)+r0_1))) | 1=>(ixL b_B.Horses (wr (v.tdiv 2))).bind fun p2=>(g135 p2).bind fun r0_2=>(ixN 5 p).bind fun j3=>some (aset out j3 (wr ((out j)+r0_2))) | _=>none
def g71 (b_B:HairBook) (mf:List (Hair_dye×Span)) (plan:(List Int)):Option (Nat→Int):=(g105).bind fun r0=>(eachS (g71_5 b_B) plan 0 r0).bind fun out=>some out
def y11 (out:(Nat→Int)) (b_B:HairBook) (mf:List (Hair_dye×Span)):List (Nat×Blk):=[(2,.var 92 (cfv out)),(1,.var 92 [jI 0,jI 0,jI 0,jI 0,jI 0]),(0,.var 78 (hbm b_B mf))]
theorem k71 (b_B:HairBook) (mf:List (Hair_dye×Span)) (plan:(List Int)) (r:(Nat→Int)) (h:g71 b_B mf plan=some r):SCall Tryd.prog Gs 71 [.agg (hbm b_B mf),.d (q1 plan)] [] 0 Fr.emp (.agg (cfv r)) [] 0 Fr.emp:=by
 unfold g71 at h
 refine SCall.mkK Tryd.func71 c71 rfl rfl (by kernel_rfl) (fun Q_0 hR_0 hN_0=>?_)
 refine Sa (sT [(1,.d (q1 plan)),pR 2 0,pR 4 1] [(1,.var 92 [jI 0,jI 0,jI 0,jI 0,jI 0]),(0,.var 78 (hbm b_B mf))] 2 0) ?_
 refine AW.srwK (fun Q_1 hQ_1=>?_)
 obtain ⟨r0,hx_2,h⟩:=bsome h
 refine rC (k105 _ hx_2) ?_
 refine Au 2 (sT [(1,.d (q1 plan)),pR 2 0,pR 4 1,pR 5 2] [(2,.var 92 (cfv r0)),(1,.var 92 [jI 0,jI 0,jI 0,jI 0,jI 0]),(0,.var 78 (hbm b_B mf))] 3 0) ?_
 refine RW.nil (hQ_1 _ ?_)
 refine AW.seqK fun K_3 hK_3=>AW.srwK fun Q_4 hQ_4=>?_
 refine Au 1 (sT [pR 2 0,pR 4 1,pR 5 2,(9,.d (q1 plan))] [(2,.var 92 (cfv r0)),(1,.var 92 [jI 0,jI 0,jI 0,jI 0,jI 0]),(0,.var 78 (hbm b_B mf))] 3 0) ?_
 refine rL rfl ?_
 refine Au 1 (sT [pR 2 0,pR 4 1,pR 5 2,(9,.d (q1 plan)),(10,jI (plan.length:Int)),(11,jI 0)] [(2,.var 92 (cfv r0)),(1,.var 92 [jI 0,jI 0,jI 0,jI 0,jI 0]),(0,.var 78 (hbm b_B mf))] 3 0) ?_
 refine RW.nil (hQ_4 _ ?_)
 refine AW.block ?_
 refine AW.sln (t:=9) rfl (fun hN_5=>?_)
 rw [List.length_map] at hN_5
 obtain ⟨out_5,hx_5,h⟩:=bsome h
 refine AW.evSK (fun (v:Int) (out:(Nat→Int))=>(sT [pR 2 0,pR 4 1,pR 5 2,(9,.d (q1 plan)),(10,jI (plan.length:Int)),(11,jI v)] (y11 out b_B mf) 3 0)) (g71_5 b_B) hx_5 (Can.kp (by kernel_rfl)) (fun v p out hi_5 hl_5 hp_5 c_5 h K_5 hK_5=>?_) (fun v out hi_5 hl_5 hout=>?_)
 ·unfold g71_5 at h
  refine Sa (sT [pR 2 0,pR 4 1,pR 5 2,(9,.d (q1 plan)),(10,jI (plan.length:Int)),(11,jI v),(12,.d (.bool (decide (v<(plan.length:Int)))))] (y11 out b_B mf) 3 0) ?_
  refine AW.seqK (fun K_6 hK_6=>?_)
  refine AW.cond rfl (fun hb_7=>?_) (fun hb_7=>False.elim (by have:=of_decide_eq_false hb_7;omega))
  refine AW.skip (hK_6 _ ?_)
  refine AW.seqK (fun K_8 hK_8=>?_)
  refine AW.block ?_
  refine AW.srwK (fun Q_9 hQ_9=>?_)
  refine Au 1 (sT [pR 2 0,pR 4 1,pR 5 2,(9,.d (q1 plan)),(10,jI (plan.length:Int)),(11,jI v),(13,jI v)] (y11 out b_B mf) 3 0) ?_
  refine RW.one fokW (r_iaD trivial rfl rfl hi_5 (row:=e3 p) (mapget hp_5) (r_end ?_))
  refine Au 3 (sT [pR 2 0,pR 4 1,pR 5 2,(6,jI v),(7,jI p),(9,.d (q1 plan)),(10,jI (plan.length:Int)),(11,jI v)] (y11 out b_B mf) 3 0) ?_
  refine RW.nil (hQ_9 _ ?_)
  refine AW.drw fokW ?_
  refine aX 1 (sT [pR 2 0,pR 4 1,pR 5 2,(6,jI v),(9,.d (q1 plan)),(10,jI (plan.length:Int)),(11,jI v),(16,jI p)] (y11 out b_B mf) 3 0) ?_
  obtain ⟨j,hv_11,h⟩:=bsome h
  refine r_iaV trivial rfl rfl rfl (ixN_ok hv_11).1 (ixN_ok hv_11).2.1 ?_
  refine r_loadV trivial rfl rfl (u:=jI (out j)) (agt (f:=fun k=>jI (out k)) hv_11) ?_
  refine aX 2 (sT [pR 2 0,pR 4 1,pR 5 2,(6,jI v),(9,.d (q1 plan)),(10,jI (plan.length:Int)),(11,jI v),(16,jI p),(18,jI (out j)),(20,jI (v.tmod 2))] (y11 out b_B mf) 3 0) ?_
  obtain ⟨j1,hv_12,h⟩:=bsome h
  rcases j1 with _ | _ | j1
  ·refine r_iaF trivial rfl rfl (ixN_ok hv_12).1 (ixN_ok hv_12).2.1 ?_
   refine r_loadF trivial rfl (u:=.fn 133) (by rw [(ixN_ok hv_12).2.2];rfl) ?_
   refine aX 5 (sT [pR 2 0,pR 4 1,pR 5 2,(9,.d (q1 plan)),(10,jI (plan.length:Int)),(11,jI v),(16,jI p),(18,jI (out j)),(22,.d (.fn 133)),(25,.d (.sl 3 (List.map e69 b_B.Horses))),(27,jI (wr (v.tdiv 2)))] (y11 out b_B mf) 3 0) ?_
   obtain ⟨p1,hv_13,h⟩:=bsome h
   refine r_iaD trivial rfl rfl (ixL_ok hv_13).1 (row:=e69 p1) (mapget (ixL_ok hv_13).2) ?_
   refine aX 1 (sT [pR 2 0,pR 4 1,pR 5 2,(9,.d (q1 plan)),(10,jI (plan.length:Int)),(11,jI v),(16,jI p),(18,jI (out j)),(22,.d (.fn 133)),(29,.agg [jI p1.Mane,jI p1.Tail,jI p1.Shade])] (y11 out b_B mf) 3 0) ?_
   obtain ⟨r0_1,hx_14,h⟩:=bsome h
   refine r_callvZ (zr:=[]) trivial rfl (.fn _) (by kernel_rfl) rfl (k133 p1 _ hx_14) trivial ⟨.refl _,trivial⟩ rfl rfl rfl rfl ?_
   refine aX 1 (sT [pR 2 0,pR 4 1,pR 5 2,(9,.d (q1 plan)),(10,jI (plan.length:Int)),(11,jI v),(16,jI p),(31,jI (wr ((out j)+r0_1)))] (y11 out b_B mf) 3 0) ?_
   obtain ⟨j2,hv_15,h⟩:=bsome h
   refine r_iaV trivial rfl rfl rfl (ixN_ok hv_15).1 (ixN_ok hv_15).2.1 ?_
   refine r_stX trivial rfl rfl rfl rfl rfl (aslot hv_15 rfl) (cs':=[jI ((aset out j2 (wr ((out j)+r0_1))) 0),jI ((aset out j2 (wr ((out j)+r0_1))) 1),jI ((aset out j2 (wr ((out j)+r0_1))) 2),jI ((aset out j2 (wr ((out j)+r0_1))) 3),jI ((aset out j2 (wr ((out j)+r0_1))) 4)]) (ast (w:=out) (c:=fun z=>jI z) hv_15) ?_
   refine Fi (sT [pR 2 0,pR 4 1,pR 5 2,(9,.d (q1 plan)),(10,jI (plan.length:Int)),(11,jI v)] [(2,.var 92 [jI ((aset out j2 (wr ((out j)+r0_1))) 0),jI ((aset out j2 (wr ((out j)+r0_1))) 1),jI ((aset out j2 (wr ((out j)+r0_1))) 2),jI ((aset out j2 (wr ((out j)+r0_1))) 3),jI ((aset out j2 (wr ((out j)+r0_1))) 4)]),(1,.var 92 [jI 0,jI 0,jI 0,jI 0,jI 0]),(0,.var 78 (hbm b_B mf))] 3 0) ?_
   refine hK_8 _ ?_
   refine Ra (sT [pR 2 0,pR 4 1,pR 5 2,(9,.d (q1 plan)),(10,jI (plan.length:Int)),(11,jI (wr (v+1)))] [(2,.var 92 [jI ((aset out j2 (wr ((out j)+r0_1))) 0),jI ((aset out j2 (wr ((out j)+r0_1))) 1),jI ((aset out j2 (wr ((out j)+r0_1))) 2),jI ((aset out j2 (wr ((out j)+r0_1))) 3),jI ((aset out j2 (wr ((out j)+r0_1))) 4)]),(1,.var 92 [jI 0,jI 0,jI 0,jI 0,jI 0]),(0,.var 78 (hbm b_B mf))] 3 0) ?_
   obtain rfl:=Option.some.inj h
   have ew:wr (v+1)=v+1:=inext (N:=(plan.length:Int)) (by omega) (by omega) (by omega)
   rw [ew]
   exact hK_5 _ (Can.kp (by kernel_rfl))
  ·refine r_iaF trivial rfl rfl (ixN_ok hv_12).1 (ixN_ok hv_12).2.1 ?_
   refine r_loadF trivial rfl (u:=.fn 135) (by rw [(ixN_ok hv_12).2.2];rfl) ?_
   refine aX 5 (sT [pR 2 0,pR 4 1,pR 5 2,(9,.d (q1 plan)),(10,jI (plan.length:Int)),(11,jI v),(16,jI p),(18,jI (out j)),(22,.d (.fn 135)),(25,.d (.sl 3 (List.map e69 b_B.Horses))),(27,jI (wr (v.tdiv 2)))] (y11 out b_B mf) 3 0) ?_
   obtain ⟨p2,hv_16,h⟩:=bsome h
   refine r_iaD trivial rfl rfl (ixL_ok hv_16).1 (row:=e69 p2) (mapget (ixL_ok hv_16).2) ?_
   refine aX 1 (sT [pR 2 0,pR 4 1,pR 5 2,(9,.d (q1 plan)),(10,jI (plan.length:Int)),(11,jI v),(16,jI p),(18,jI (out j)),(22,.d (.fn 135)),(29,.agg [jI p2.Mane,jI p2.Tail,jI p2.Shade])] (y11 out b_B mf) 3 0) ?_
   obtain ⟨r0_2,hx_17,h⟩:=bsome h
   refine r_callvZ (zr:=[]) trivial rfl (.fn _) (by kernel_rfl) rfl (k135 p2 _ hx_17) trivial ⟨.refl _,trivial⟩ rfl rfl rfl rfl ?_
   refine aX 1 (sT [pR 2 0,pR 4 1,pR 5 2,(9,.d (q1 plan)),(10,jI (plan.length:Int)),(11,jI v),(16,jI p),(31,jI (wr ((out j)+r0_2)))] (y11 out b_B mf) 3 0) ?_
   obtain ⟨j3,hv_18,h⟩:=bsome h
   refine r_iaV trivial rfl rfl rfl (ixN_ok hv_18).1 (ixN_ok hv_18).2.1 ?_
   refine r_stX trivial rfl rfl rfl rfl rfl (aslot hv_18 rfl) (cs':=[jI ((aset out j3 (wr ((out j)+r0_2))) 0),jI ((aset out j3 (wr ((out j)+r0_2))) 1),jI ((aset out j3 (wr ((out j)+r0_2))) 2),jI ((aset out j3 (wr ((out j)+r0_2))) 3),jI ((aset out j3 (wr ((out j)+r0_2))) 4)]) (ast (w:=out) (c:=fun z=>jI z) hv_18) ?_
   refine Fi (sT [pR 2 0,pR 4 1,pR 5 2,(9,.d (q1 plan)),(10,jI (plan.length:Int)),(11,jI v)] [(2,.var 92 [jI ((aset out j3 (wr ((out j)+r0_2))) 0),jI ((aset out j3 (wr ((out j)+r0_2))) 1),jI ((aset out j3 (wr ((out j)+r0_2))) 2),jI ((aset out j3 (wr ((out j)+r0_2))) 3),jI ((aset out j3 (wr ((out j)+r0_2))) 4)]),(1,.var 92 [jI 0,jI 0,jI 0,jI 0,jI 0]),(0,.var 78 (hbm b_B mf))] 3 0) ?_
   refine hK_8 _ ?_
   refine Ra (sT [pR 2 0,pR 4 1,pR 5 2,(9,.d (q1 plan)),(10,jI (plan.length:Int)),(11,jI (wr (v+1)))] [(2,.var 92 [jI ((aset out j3 (wr ((out j)+r0_2))) 0),jI ((aset out j3 (wr ((out j)+r0_2))) 1),jI ((aset out j3 (wr ((out j)+r0_2))) 2),jI ((aset out j3 (wr ((out j)+r0_2))) 3),jI ((aset out j3 (wr ((out j)+r0_2))) 4)]),(1,.var 92 [jI 0,jI 0,jI 0,jI 0,jI 0]),(0,.var 78 (hbm b_B mf))] 3 0) ?_
   obtain rfl:=Option.some.inj h
   have ew:wr (v+1)=v+1:=inext (N:=(plan.length:Int)) (by omega) (by omega) (by omega)
   rw [ew]
   exact hK_5 _ (Can.kp (by kernel_rfl))
  ·cases h
 ·subst hout
  refine Sa (sT [pR 2 0,pR 4 1,pR 5 2,(9,.d (q1 plan)),(10,jI (plan.length:Int)),(11,jI v),(12,.d (.bool (decide (v<(plan.length:Int)))))] (y11 out b_B mf) 3 0) ?_
  refine AW.seqK (fun K_19 hK_19=>?_)
  refine AW.cond rfl (fun hb_20=>False.elim (by have:=of_decide_eq_true hb_20;omega)) (fun hb_20=>?_)
  refine AW.exit ?_
  refine hK_3 _ ?_
  refine Sa (sT [pR 4 1] [(1,.var 92 (cfv out))] 3 0) ?_
  obtain rfl:=Option.some.inj h
  exact rT hR_0 (.cons (.agg rfl rfl (Nat.le_of_ble_eq_true rfl)) .nil)
def g89 (b_B:HairBook) (mf:List (Hair_dye×Span)) (horse:Int) (mane:Int) (tail:Int):Option Bool:=(g59 b_B mf horse mane tail).bind fun (r0_1,r1_1,r2_1)=>some r2_1
theorem k89 (b_B:HairBook) (mf:List (Hair_dye×Span)) (horse:Int) (mane:Int) (tail:Int) (r:Bool) (h:g89 b_B mf horse mane tail=some r):SCall Tryd.prog Gs 89 [.agg (hbm b_B mf),jI horse,jI mane,jI tail] [] 0 Fr.emp (.d (.bool r)) [] 0 Fr.emp:=by
 unfold g89 at h
 refine SCall.mkK Tryd.func89 c89 rfl rfl (by kernel_rfl) (fun Q_0 hR_0 hN_0=>?_)
 refine Sa (sT [(1,jI horse),(2,jI mane),(3,jI tail),pR 4 0] [(0,.var 78 (hbm b_B mf))] 1 0) ?_
 refine AW.srwK (fun Q_1 hQ_1=>?_)
 refine Au 4 (sT [(13,.agg (hbm b_B mf)),(14,jI horse),(15,jI mane),(16,jI tail)] [] 1 0) ?_
 obtain ⟨⟨r0_1,r1_1,r2_1⟩,hx_2,h⟩:=bsome h
 refine rC (k59 b_B mf horse mane tail _ hx_2) ?_
 refine Au 9 (sT [(11,.d (.bool r2_1))] [] 3 0) ?_
 refine RW.nil (hQ_1 _ ?_)
 refine Sa (sT [(8,.d (.bool r2_1))] [] 3 0) ?_
 obtain rfl:=Option.some.inj h
 exact rT hR_0 (.cons (.tmp rfl) .nil)
def g67_17 (b_B:HairBook) (mf:List (Hair_dye×Span)) (plan:(List Int)):Int→HairHorse→Unit→Option (Ctl (Unit) (Bool)):=fun v1 p1 _=>(ixL plan (wr (2*v1))).bind fun p2=>(ixL plan (wr ((wr (2*v1))+1))).bind fun p3=>(g89 b_B mf v1 p2 p3).bind fun r0=>bif (!r0) then (some (.brk false)) else (some (.next ()))
def g67_5 (r0_3:(Nat→Int)):Int→HairHank→Unit→Option (Ctl (Unit) (Bool)):=fun v p _=>(ixN 5 v).bind fun j=>bif (decide (p.Weight.Low<(r0_3 j))) then (some (.brk false)) else (some (.next ()))
def g67 (b_B:HairBook) (mf:List (Hair_dye×Span)) (plan:(List Int)):Option Bool:=(g71 b_B mf plan).bind fun r0_3=>bindC (eachC (g67_5 r0_3) b_B.Hanks 0 ()) fun _=>bindC (eachC (g67_17 b_B mf plan) b_B.Horses 0 ()) fun _=>some true
theorem k67 (b_B:HairBook) (mf:List (Hair_dye×Span)) (plan:(List Int)) (r:Bool) (h:g67 b_B mf plan=some r):SCall Tryd.prog Gs 67 [.agg (hbm b_B mf),.d (q1 plan)] [] 0 Fr.emp (.d (.bool r)) [] 0 Fr.emp:=by
 unfold g67 at h
 refine SCall.mkK Tryd.func67 c67 rfl rfl (by kernel_rfl) (fun Q_0 hR_0 hN_0=>?_)
 refine Sa (sT [(1,.d (q1 plan)),pR 2 0] [(0,.var 78 (hbm b_B mf))] 1 0) ?_
 refine AW.srwK (fun Q_1 hQ_1=>?_)
 refine Au 2 (sT [(1,.d (q1 plan)),pR 2 0,(9,.agg (hbm b_B mf)),(10,.d (q1 plan))] [(0,.var 78 (hbm b_B mf))] 1 0) ?_
 obtain ⟨r0_3,hx_2,h⟩:=bsome h
 refine rC (k71 b_B mf plan _ hx_2) ?_
 refine Au 2 (sT [(1,.d (q1 plan)),pR 2 0,pR 5 1] [(1,.var 92 (cfv r0_3)),(0,.var 78 (hbm b_B mf))] 2 0) ?_
 refine RW.nil (hQ_1 _ ?_)
 refine AW.seqK fun K_3 hK_3=>AW.srwK fun Q_4 hQ_4=>?_
 refine Au 3 (sT [(1,.d (q1 plan)),pR 2 0,pR 5 1,(14,.d (.sl 4 (List.map e58 b_B.Hanks)))] [(1,.var 92 (cfv r0_3)),(0,.var 78 (hbm b_B mf))] 2 0) ?_
 refine rL rfl ?_
 refine Au 1 (sT [(1,.d (q1 plan)),pR 2 0,pR 5 1,(14,.d (.sl 4 (List.map e58 b_B.Hanks))),(15,jI (b_B.Hanks.length:Int)),(16,jI 0)] [(1,.var 92 (cfv r0_3)),(0,.var 78 (hbm b_B mf))] 2 0) ?_
 refine RW.nil (hQ_4 _ ?_)
 refine AW.block ?_
 refine AW.sln (t:=14) rfl (fun hN_5=>?_)
 rw [List.length_map] at hN_5
 obtain ⟨out_5,hx_5,hk_5⟩:=bsomeC h
 refine AW.evCK (fun (v:Int) (_:Unit)=>(sT [(1,.d (q1 plan)),pR 2 0,pR 5 1,(14,.d (.sl 4 (List.map e58 b_B.Hanks))),(15,jI (b_B.Hanks.length:Int)),(16,jI v)] [(1,.var 92 (cfv r0_3)),(0,.var 78 (hbm b_B mf))] 2 0)) (g67_5 r0_3) hx_5 (Can.kp (by kernel_rfl)) (fun v p s_5 hi_5 hl_5 hp_5 c_5 h hb_5 K_5 hK_5=>?_) (fun v s_5 hi_5 hl_5 hout=>?_)
 ·unfold g67_5 at h
  refine Sa (sT [(1,.d (q1 plan)),pR 2 0,pR 5 1,(14,.d (.sl 4 (List.map e58 b_B.Hanks))),(15,jI (b_B.Hanks.length:Int)),(16,jI v),(17,.d (.bool (decide (v<(b_B.Hanks.length:Int)))))] [(1,.var 92 (cfv r0_3)),(0,.var 78 (hbm b_B mf))] 2 0) ?_
  refine AW.seqK (fun K_6 hK_6=>?_)
  refine AW.cond rfl (fun hb_7=>?_) (fun hb_7=>False.elim (by have:=of_decide_eq_false hb_7;omega))
  refine AW.skip (hK_6 _ ?_)
  refine AW.seqK (fun K_8 hK_8=>?_)
  refine AW.block ?_
  refine AW.srwK (fun Q_9 hQ_9=>?_)
  refine Au 1 (sT [(1,.d (q1 plan)),pR 2 0,pR 5 1,(14,.d (.sl 4 (List.map e58 b_B.Hanks))),(15,jI (b_B.Hanks.length:Int)),(16,jI v),(18,jI v)] [(1,.var 92 (cfv r0_3)),(0,.var 78 (hbm b_B mf))] 2 0) ?_
  refine RW.one fokW (r_iaD trivial rfl rfl hi_5 (row:=e58 p) (mapget hp_5) (r_end ?_))
  refine Au 4 (sT [(1,.d (q1 plan)),pR 2 0,pR 5 1,(6,jI v),pR 7 2,(14,.d (.sl 4 (List.map e58 b_B.Hanks))),(15,jI (b_B.Hanks.length:Int)),(16,jI v)] [(2,.var 58 (cv58 p)),(1,.var 92 (cfv r0_3)),(0,.var 78 (hbm b_B mf))] 3 0) ?_
  refine RW.nil (hQ_9 _ ?_)
  refine AW.sdrwK fokW (fun Q_10 hQ_10=>?_)
  refine aX 1 (sT [(1,.d (q1 plan)),pR 2 0,pR 5 1,pR 7 2,(14,.d (.sl 4 (List.map e58 b_B.Hanks))),(15,jI (b_B.Hanks.length:Int)),(16,jI v),(21,jI v)] [(2,.var 58 (cv58 p)),(1,.var 92 (cfv r0_3)),(0,.var 78 (hbm b_B mf))] 3 0) ?_
  obtain ⟨j,hv_11,h⟩:=bsome h
  refine r_iaV trivial rfl rfl rfl (ixN_ok hv_11).1 (ixN_ok hv_11).2.1 ?_
  refine r_loadV trivial rfl rfl (u:=jI (r0_3 j)) (agt (f:=fun k=>jI (r0_3 k)) hv_11) ?_
  refine aX 4 (sT [(1,.d (q1 plan)),pR 2 0,pR 5 1,(14,.d (.sl 4 (List.map e58 b_B.Hanks))),(15,jI (b_B.Hanks.length:Int)),(16,jI v),(27,.d (.bool (decide (p.Weight.Low<(r0_3 j)))))] [(2,.var 58 (cv58 p)),(1,.var 92 (cfv r0_3)),(0,.var 78 (hbm b_B mf))] 3 0) ?_
  refine Fi (sT [(1,.d (q1 plan)),pR 2 0,pR 5 1,(14,.d (.sl 4 (List.map e58 b_B.Hanks))),(15,jI (b_B.Hanks.length:Int)),(16,jI v),(27,.d (.bool (decide (p.Weight.Low<(r0_3 j)))))] [(1,.var 92 (cfv r0_3)),(0,.var 78 (hbm b_B mf))] 3 0) ?_
  refine hQ_10 _ ?_
  refine AW.cond rfl (fun hb_12=>?_) (fun hb_12=>?_)
  ·have h:=ifT hb_12 h
   refine Sa (sT [(4,.d (.bool false))] [] 3 0) ?_
   obtain rfl:=Option.some.inj h
   have e_1:=hb_5 _ rfl
   subst e_1
   obtain rfl:=Aft.bk hk_5
   exact rT hR_0 (.cons (.tmp rfl) .nil)
  ·have h:=ifF hb_12 h
   refine AW.skip (hK_8 _ ?_)
   refine Ra (sT [(1,.d (q1 plan)),pR 2 0,pR 5 1,(14,.d (.sl 4 (List.map e58 b_B.Hanks))),(15,jI (b_B.Hanks.length:Int)),(16,jI (wr (v+1)))] [(1,.var 92 (cfv r0_3)),(0,.var 78 (hbm b_B mf))] 3 0) ?_
   obtain rfl:=Option.some.inj h
   have ew:wr (v+1)=v+1:=inext (N:=(b_B.Hanks.length:Int)) (by omega) (by omega) (by omega)
   rw [ew]
   exact hK_5 _ _ rfl (Can.kp (by kernel_rfl))
 ·subst hout
  have h:=Aft.nx hk_5
  refine Sa (sT [(1,.d (q1 plan)),pR 2 0,pR 5 1,(14,.d (.sl 4 (List.map e58 b_B.Hanks))),(15,jI (b_B.Hanks.length:Int)),(16,jI v),(17,.d (.bool (decide (v<(b_B.Hanks.length:Int)))))] [(1,.var 92 (cfv r0_3)),(0,.var 78 (hbm b_B mf))] 2 0) ?_
  refine AW.seqK (fun K_13 hK_13=>?_)
  refine AW.cond rfl (fun hb_14=>False.elim (by have:=of_decide_eq_true hb_14;omega)) (fun hb_14=>?_)
  refine AW.exit ?_
  refine hK_3 _ ?_
  refine AW.seqK fun K_15 hK_15=>AW.srwK fun Q_16 hQ_16=>?_
  refine Au 3 (sT [(1,.d (q1 plan)),pR 2 0,(31,.d (.sl 3 (List.map e69 b_B.Horses)))] [(0,.var 78 (hbm b_B mf))] 2 0) ?_
  refine rL rfl ?_
  refine Au 1 (sT [(1,.d (q1 plan)),pR 2 0,(32,jI (b_B.Horses.length:Int)),(33,jI 0)] [(0,.var 78 (hbm b_B mf))] 2 0) ?_
  refine RW.nil (hQ_16 _ ?_)
  refine AW.block ?_
  refine AW.slh (r:=0) (off:=1) rfl rfl (fun hN_17=>?_)
  rw [List.length_map] at hN_17
  obtain ⟨out_17,hx_17,hk_17⟩:=bsomeC h
  refine AW.evCK (fun (v1:Int) (_:Unit)=>(sT [(1,.d (q1 plan)),pR 2 0,(32,jI (b_B.Horses.length:Int)),(33,jI v1)] [(0,.var 78 (hbm b_B mf))] 2 0)) (g67_17 b_B mf plan) hx_17 (Can.kp (by kernel_rfl)) (fun v1 p1 s_17 hi_17 hl_17 hp_17 c_17 h hb_17 K_17 hK_17=>?_) (fun v1 s_17 hi_17 hl_17 hout=>?_)
  ·unfold g67_17 at h
   refine Sa (sT [(1,.d (q1 plan)),pR 2 0,(32,jI (b_B.Horses.length:Int)),(33,jI v1),(34,.d (.bool (decide (v1<(b_B.Horses.length:Int)))))] [(0,.var 78 (hbm b_B mf))] 2 0) ?_
   refine AW.seqK (fun K_18 hK_18=>?_)
   refine AW.cond rfl (fun hb_19=>?_) (fun hb_19=>False.elim (by have:=of_decide_eq_false hb_19;omega))
   refine AW.skip (hK_18 _ ?_)
   refine AW.seqK (fun K_20 hK_20=>?_)
   refine AW.block ?_
   refine Sa (sT [(1,.d (q1 plan)),pR 2 0,(8,jI v1),(32,jI (b_B.Horses.length:Int)),(33,jI v1)] [(0,.var 78 (hbm b_B mf))] 2 0) ?_
   refine AW.sdrwK fokW (fun Q_21 hQ_21=>?_)
   refine aX 5 (sT [(1,.d (q1 plan)),pR 2 0,(8,jI v1),(32,jI (b_B.Horses.length:Int)),(33,jI v1),(36,.agg (hbm b_B mf)),(37,jI v1),(38,.d (q1 plan)),(40,jI (wr (2*v1)))] [(0,.var 78 (hbm b_B mf))] 2 0) ?_
   obtain ⟨p2,hv_22,h⟩:=bsome h
   refine r_iaD trivial rfl rfl (ixL_ok hv_22).1 (row:=e3 p2) (mapget (ixL_ok hv_22).2) ?_
   refine aX 5 (sT [(1,.d (q1 plan)),pR 2 0,(32,jI (b_B.Horses.length:Int)),(33,jI v1),(36,.agg (hbm b_B mf)),(37,jI v1),(42,jI p2),(43,.d (q1 plan)),(46,jI (wr ((wr (2*v1))+1)))] [(0,.var 78 (hbm b_B mf))] 2 0) ?_
   obtain ⟨p3,hv_23,h⟩:=bsome h
   refine r_iaD trivial rfl rfl (ixL_ok hv_23).1 (row:=e3 p3) (mapget (ixL_ok hv_23).2) ?_
   refine aX 1 (sT [(1,.d (q1 plan)),pR 2 0,(32,jI (b_B.Horses.length:Int)),(33,jI v1),(36,.agg (hbm b_B mf)),(37,jI v1),(42,jI p2),(48,jI p3)] [(0,.var 78 (hbm b_B mf))] 2 0) ?_
   obtain ⟨r0,hx_24,h⟩:=bsome h
   refine r_call trivial rfl (k89 b_B mf v1 p2 p3 _ hx_24) rfl rfl ?_
   refine aX 1 (sT [(1,.d (q1 plan)),pR 2 0,(32,jI (b_B.Horses.length:Int)),(33,jI v1),(50,.d (.bool (!r0)))] [(0,.var 78 (hbm b_B mf))] 2 0) ?_
   refine Fi (sT [(1,.d (q1 plan)),pR 2 0,(32,jI (b_B.Horses.length:Int)),(33,jI v1),(50,.d (.bool (!r0)))] [(0,.var 78 (hbm b_B mf))] 2 0) ?_
   refine hQ_21 _ ?_
   refine AW.cond rfl (fun hb_25=>?_) (fun hb_25=>?_)
   ·have h:=ifT hb_25 h
    refine Sa (sT [(4,.d (.bool false))] [] 2 0) ?_
    obtain rfl:=Option.some.inj h
    have e_1:=hb_17 _ rfl
    subst e_1
    obtain rfl:=Aft.bk hk_17
    exact rT hR_0 (.cons (.tmp rfl) .nil)
   ·have h:=ifF hb_25 h
    refine AW.skip (hK_20 _ ?_)
    refine Ra (sT [(1,.d (q1 plan)),pR 2 0,(32,jI (b_B.Horses.length:Int)),(33,jI (wr (v1+1)))] [(0,.var 78 (hbm b_B mf))] 2 0) ?_
    obtain rfl:=Option.some.inj h
    have ew:wr (v1+1)=v1+1:=inext (N:=(b_B.Horses.length:Int)) (by omega) (by omega) (by omega)
    rw [ew]
    exact hK_17 _ _ rfl (Can.kp (by kernel_rfl))
  ·subst hout
   have h:=Aft.nx hk_17
   refine Sa (sT [(1,.d (q1 plan)),pR 2 0,(32,jI (b_B.Horses.length:Int)),(33,jI v1),(34,.d (.bool (decide (v1<(b_B.Horses.length:Int)))))] [(0,.var 78 (hbm b_B mf))] 2 0) ?_
   refine AW.seqK (fun K_26 hK_26=>?_)
   refine AW.cond rfl (fun hb_27=>False.elim (by have:=of_decide_eq_true hb_27;omega)) (fun hb_27=>?_)
   refine AW.exit ?_
   refine hK_15 _ ?_
   refine Sa (sT [(4,.d (.bool true))] [] 2 0) ?_
   obtain rfl:=Option.some.inj h
   exact rT hR_0 (.cons (.tmp rfl) .nil)
def g19 (x:HairBook) (plan:(List Int)):Option (Bool×Int):=(g55a x plan).bind fun r_10=>match r_10 with | .next (r0_B4,r1_1)=>(must (decide (r1_1≠0))).bind fun _=>some (false,r1_1) | .brk (r0_B5,mf2,r1_2)=>bif (decide (r1_2≠0)) then (some (false,r1_2)) else ((g67 r0_B5 mf2 plan).bind fun r0_4=>some (r0_4,0))
theorem k19 (x:HairBook) (plan:(List Int)) (r:Bool×Int) (h:g19 x plan=some r):SCall Tryd.prog Gs 19 [.agg (cv25 x),.d (q1 plan)] [] 0 Fr.emp (match r with | (r0_2,r1_4)=>.tup [.d (.bool r0_2),jI r1_4]) [] 0 Fr.emp:=by
 unfold g19 at h
 refine SCall.mkK Tryd.func19 c19 rfl rfl (by kernel_rfl) (fun Q_0 hR_0 hN_0=>?_)
 refine Sa (sT [pR 2 0,pR 3 1] [(1,.var 26 [.d (q1 plan)]),(0,.var 25 (cv25 x))] 2 0) ?_
 refine AW.srwK (fun Q_1 hQ_1=>?_)
 refine Au 2 (sT [pR 3 1,(9,.agg (cv25 x)),(10,.clo 65 [] [.ptr 1 0])] [(1,.var 26 [.d (q1 plan)])] 2 0) ?_
 obtain ⟨r_10,hx_2,h⟩:=bsome h
 rcases r_10 with (⟨r0_B4,r1_1⟩ | (⟨r0_B5,mf2,r1_2⟩))
 ·refine RW.one fokW (r_callS (zr:=[]) [1] trivial rfl (k55a x plan _ hx_2) ⟨rfl,trivial⟩ rfl rfl ⟨.refl _,.refl _,trivial⟩ rfl rfl rfl (r_end ?_))
  obtain ⟨_,hv_3,h⟩:=bsome h
  have hf_4:=must_ok hv_3
  refine Au 6 (sT [pR 3 1,pR 6 2,(7,jI r1_1)] [(2,.var 78 (catV (cv25 r0_B4) [.d (.nilMap)])),(1,.var 26 [.d (q1 plan)])] 3 0) ?_
  refine RW.nil (hQ_1 _ ?_)
  refine AW.seqK (fun K_5 hK_5=>?_)
  refine Sa (sT [pR 3 1,pR 6 2,(7,jI r1_1),(15,.d (.bool (decide (r1_1≠0))))] [(2,.var 78 (catV (cv25 r0_B4) [.d (.nilMap)])),(1,.var 26 [.d (q1 plan)])] 3 0) ?_
  refine AW.cond rfl (fun hb_6=>?_) (fun hb_6=>False.elim (by rw [hf_4] at hb_6;cases hb_6))
  refine Sa (sT [(4,.d (.bool false)),(5,jI r1_1)] [] 3 0) ?_
  obtain rfl:=Option.some.inj h
  exact rT hR_0 (.cons (.tmp rfl) (.cons (.tmp rfl) .nil))
 ·refine RW.one fokW (r_callS (zr:=[]) [1] trivial rfl (k55a x plan _ hx_2) ⟨rfl,trivial⟩ rfl rfl ⟨.refl _,.refl _,trivial⟩ rfl rfl rfl (r_end ?_))
  refine Au 6 (sT [pR 3 1,pR 6 2,(7,jI r1_2)] [(2,.var 78 (hbm r0_B5 mf2)),(1,.var 26 [.d (q1 plan)])] 3 0) ?_
  refine RW.nil (hQ_1 _ ?_)
  refine AW.seqK (fun K_7 hK_7=>?_)
  refine Sa (sT [pR 3 1,pR 6 2,(7,jI r1_2),(15,.d (.bool (decide (r1_2≠0))))] [(2,.var 78 (hbm r0_B5 mf2)),(1,.var 26 [.d (q1 plan)])] 3 0) ?_
  refine AW.cond rfl (fun hb_8=>?_) (fun hb_8=>?_)
  ·have h:=ifT hb_8 h
   refine Sa (sT [(4,.d (.bool false)),(5,jI r1_2)] [] 3 0) ?_
   obtain rfl:=Option.some.inj h
   exact rT hR_0 (.cons (.tmp rfl) (.cons (.tmp rfl) .nil))
  ·have h:=ifF hb_8 h
   refine AW.skip (hK_7 _ ?_)
   refine AW.srwK (fun Q_9 hQ_9=>?_)
   refine Au 2 (sT [(17,.agg (hbm r0_B5 mf2)),(18,.d (q1 plan))] [] 3 0) ?_
   obtain ⟨r0_4,hx_10,h⟩:=bsome h
   refine rC (k67 r0_B5 mf2 plan _ hx_10) ?_
   refine Au 2 (sT [(4,.d (.bool r0_4)),(5,jI 0)] [] 3 0) ?_
   refine RW.nil (hQ_9 _ ?_)
   obtain rfl:=Option.some.inj h
   exact rT hR_0 (.cons (.tmp rfl) (.cons (.tmp rfl) .nil))
def g106_2 (b:HairBook) (hank:Int):Int→Int→Int→Option Int:=fun i p n=>(ixL b.Horses (wr (i.tdiv 2))).bind fun p1=>(bif ((decide (p=hank))&&(decide ((i.tmod 2)=0))) then (some (wr (n+p1.Mane))) else (some n)).bind fun n1=>bif ((decide (p=hank))&&(decide ((i.tmod 2)=1))) then (some (wr (n1+p1.Tail))) else (some n1)
def g106 (b:HairBook) (plan:(List Int)) (hank:Int):Option Int:=(eachS (g106_2 b hank) plan 0 0).bind fun n=>some n
theorem k106 (b:HairBook) (plan:(List Int)) (hank:Int) (r:Int) (h:g106 b plan hank=some r):SCall Tryd.prog Gs 106 [.agg (cv25 b),.d (q1 plan),jI hank] [] 0 Fr.emp (jI r) [] 0 Fr.emp:=by
 unfold g106 at h
 refine SCall.mkK Tryd.func106 c106 rfl rfl (by kernel_rfl) (fun Q_0 hR_0 hN_0=>?_)
 refine Sa (sT [(1,.d (q1 plan)),(2,jI hank),pR 3 0] [(0,.var 25 (cv25 b))] 1 0) ?_
 refine Sa (sT [(1,.d (q1 plan)),(2,jI hank),pR 3 0,(7,jI 0)] [(0,.var 25 (cv25 b))] 1 0) ?_
 refine AW.seqK (fun K_1 hK_1=>?_)
 refine Sa (sT [(1,.d (q1 plan)),(2,jI hank),pR 3 0,(7,jI 0),(8,jI 0)] [(0,.var 25 (cv25 b))] 1 0) ?_
 refine AW.block ?_
 refine AW.sln (t:=1) rfl (fun hN_2=>?_)
 rw [List.length_map] at hN_2
 obtain ⟨out_2,hx_2,h⟩:=bsome h
 refine AW.evSK (fun (i:Int) (n:Int)=>(sT [(1,.d (q1 plan)),(2,jI hank),pR 3 0,(7,jI n),(8,jI i)] [(0,.var 25 (cv25 b))] 1 0)) (g106_2 b hank) hx_2 (Can.kp (by kernel_rfl)) (fun i p n hi_2 hl_2 hp_2 c_2 h K_2 hK_2=>?_) (fun i n hi_2 hl_2 hout=>?_)
 ·unfold g106_2 at h
  refine AW.seqK fun K_3 hK_3=>AW.srwK fun Q_4 hQ_4=>?_
  refine Au 2 (sT [(1,.d (q1 plan)),(2,jI hank),pR 3 0,(7,jI n),(8,jI i),(10,jI i),(11,.d (q1 plan))] [(0,.var 25 (cv25 b))] 1 0) ?_
  refine rL rfl ?_
  refine Au 1 (sT [(1,.d (q1 plan)),(2,jI hank),pR 3 0,(7,jI n),(8,jI i),(13,.d (.bool (decide (i<(plan.length:Int)))))] [(0,.var 25 (cv25 b))] 1 0) ?_
  refine RW.nil (hQ_4 _ ?_)
  refine AW.cond rfl (fun hb_5=>?_) (fun hb_5=>False.elim (by have:=of_decide_eq_false hb_5;omega))
  refine AW.skip (hK_3 _ ?_)
  refine AW.seqK (fun K_6 hK_6=>?_)
  refine AW.block ?_
  refine AW.srwK (fun Q_7 hQ_7=>?_)
  refine Au 4 (sT [(1,.d (q1 plan)),(2,jI hank),pR 3 0,(7,jI n),(8,jI i),(17,.d (.sl 3 (List.map e69 b.Horses))),(19,jI (wr (i.tdiv 2)))] [(0,.var 25 (cv25 b))] 1 0) ?_
  obtain ⟨p1,hv_8,h⟩:=bsome h
  refine RW.one fokW (r_iaD trivial rfl rfl (ixL_ok hv_8).1 (row:=e69 p1) (mapget (ixL_ok hv_8).2) (r_end ?_))
  refine Au 3 (sT [(1,.d (q1 plan)),(2,jI hank),pR 3 0,(7,jI n),(8,jI i),pR 9 1] [(1,.var 69 [jI p1.Mane,jI p1.Tail,jI p1.Shade]),(0,.var 25 (cv25 b))] 2 0) ?_
  refine RW.nil (hQ_7 _ ?_)
  obtain ⟨n1,hx_9,h⟩:=bsome h
  refine AW.jnSK (fun (n1:Int)=>(sT [(1,.d (q1 plan)),(2,jI hank),pR 3 0,(7,jI n1),(8,jI i),pR 9 1] [(1,.var 69 [jI p1.Mane,jI p1.Tail,jI p1.Shade]),(0,.var 25 (cv25 b))] 2 0)) (c:=n1) (fun K_9 hK_9=>?_) ?_
  ·have h:=hx_9
   refine AW.srwK (fun Q_10 hQ_10=>?_)
   refine Au 2 (sT [(1,.d (q1 plan)),(2,jI hank),pR 3 0,(7,jI n),(8,jI i),pR 9 1,(22,.d (q1 plan)),(23,jI i)] [(1,.var 69 [jI p1.Mane,jI p1.Tail,jI p1.Shade]),(0,.var 25 (cv25 b))] 2 0) ?_
   refine RW.one fokW (r_iaD trivial rfl rfl hi_2 (row:=e3 p) (mapget hp_2) (r_end ?_))
   refine RW.au fokW 8 [28] (sT [(1,.d (q1 plan)),(2,jI hank),pR 3 0,(7,jI n),(8,jI i),pR 9 1,(32,.d (.bool ((decide (p=hank))&&(decide ((i.tmod 2)=0)))))] [(1,.var 69 [jI p1.Mane,jI p1.Tail,jI p1.Shade]),(0,.var 25 (cv25 b))] 2 0) (by kernel_rfl) ?_
   refine RW.nil (hQ_10 _ ?_)
   refine AW.cond rfl (fun hb_11=>?_) (fun hb_11=>?_)
   ·have h:=ifT hb_11 h
    refine Ra (sT [(1,.d (q1 plan)),(2,jI hank),pR 3 0,(7,jI (wr (n+p1.Mane))),(8,jI i),pR 9 1] [(1,.var 69 [jI p1.Mane,jI p1.Tail,jI p1.Shade]),(0,.var 25 (cv25 b))] 2 0) ?_
    obtain rfl:=Option.some.inj h
    exact hK_9 _ (Can.kp (by kernel_rfl))
   ·have h:=ifF hb_11 h
    refine AW.skip ?_
    obtain rfl:=Option.some.inj h
    exact hK_9 _ (Can.kp (by kernel_rfl))
  ·refine AW.srwK (fun Q_12 hQ_12=>?_)
   refine Au 2 (sT [(1,.d (q1 plan)),(2,jI hank),pR 3 0,(7,jI n1),(8,jI i),pR 9 1,(37,.d (q1 plan)),(38,jI i)] [(1,.var 69 [jI p1.Mane,jI p1.Tail,jI p1.Shade]),(0,.var 25 (cv25 b))] 2 0) ?_
   refine RW.one fokW (r_iaD trivial rfl rfl hi_2 (row:=e3 p) (mapget hp_2) (r_end ?_))
   refine RW.au fokW 8 [43] (sT [(1,.d (q1 plan)),(2,jI hank),pR 3 0,(7,jI n1),(8,jI i),pR 9 1,(47,.d (.bool ((decide (p=hank))&&(decide ((i.tmod 2)=1)))))] [(1,.var 69 [jI p1.Mane,jI p1.Tail,jI p1.Shade]),(0,.var 25 (cv25 b))] 2 0) (by kernel_rfl) ?_
   refine RW.nil (hQ_12 _ ?_)
   refine AW.cond rfl (fun hb_13=>?_) (fun hb_13=>?_)
   ·have h:=ifT hb_13 h
    refine Ra (sT [(1,.d (q1 plan)),(2,jI hank),pR 3 0,(7,jI (wr (n1+p1.Tail))),(8,jI i)] [(0,.var 25 (cv25 b))] 2 0) ?_
    refine hK_6 _ ?_
    refine Ra (sT [(1,.d (q1 plan)),(2,jI hank),pR 3 0,(7,jI (wr (n1+p1.Tail))),(8,jI (wr (i+1)))] [(0,.var 25 (cv25 b))] 2 0) ?_
    obtain rfl:=Option.some.inj h
    have ew:wr (i+1)=i+1:=inext (N:=(plan.length:Int)) (by omega) (by omega) (by omega)
    rw [ew]
    exact hK_2 _ (Can.kp (by kernel_rfl))
   ·have h:=ifF hb_13 h
    refine AW.skip (hK_6 _ ?_)
    refine Ra (sT [(1,.d (q1 plan)),(2,jI hank),pR 3 0,(7,jI n1),(8,jI (wr (i+1)))] [(0,.var 25 (cv25 b))] 2 0) ?_
    obtain rfl:=Option.some.inj h
    have ew:wr (i+1)=i+1:=inext (N:=(plan.length:Int)) (by omega) (by omega) (by omega)
    rw [ew]
    exact hK_2 _ (Can.kp (by kernel_rfl))
 ·subst hout
  refine AW.seqK fun K_14 hK_14=>AW.srwK fun Q_15 hQ_15=>?_
  refine Au 2 (sT [(1,.d (q1 plan)),(2,jI hank),pR 3 0,(7,jI n),(8,jI i),(10,jI i),(11,.d (q1 plan))] [(0,.var 25 (cv25 b))] 1 0) ?_
  refine rL rfl ?_
  refine Au 1 (sT [(1,.d (q1 plan)),(2,jI hank),pR 3 0,(7,jI n),(8,jI i),(13,.d (.bool (decide (i<(plan.length:Int)))))] [(0,.var 25 (cv25 b))] 1 0) ?_
  refine RW.nil (hQ_15 _ ?_)
  refine AW.cond rfl (fun hb_16=>False.elim (by have:=of_decide_eq_true hb_16;omega)) (fun hb_16=>?_)
  refine AW.exit ?_
  refine hK_1 _ ?_
  refine Sa (sT [(6,jI n)] [] 1 0) ?_
  obtain rfl:=Option.some.inj h
  exact rT hR_0 (.cons (.tmp rfl) .nil)
def g104_2 (b:HairBook) (plan:(List Int)) (most:Bool):Int→HairHank→Unit→Option (Ctl (Unit) (Bool)):=fun h_ p _=>(bif most then (some p.Weight.High) else (some p.Weight.Low)).bind fun n=>(g106 b plan h_).bind fun r0=>bif (decide (n<r0)) then (some (.brk false)) else (some (.next ()))
def g104 (b:HairBook) (plan:(List Int)) (most:Bool):Option Bool:=bindC (eachC (g104_2 b plan most) b.Hanks 0 ()) fun _=>some true
theorem k104 (b:HairBook) (plan:(List Int)) (most:Bool) (r:Bool) (h:g104 b plan most=some r):SCall Tryd.prog Gs 104 [.agg (cv25 b),.d (q1 plan),.d (.bool most)] [] 0 Fr.emp (.d (.bool r)) [] 0 Fr.emp:=by
 unfold g104 at h
 refine SCall.mkK Tryd.func104 c104 rfl rfl (by kernel_rfl) (fun Q_0 hR_0 hN_0=>?_)
 refine Sa (sT [(1,.d (q1 plan)),(2,.d (.bool most)),pR 3 0] [(0,.var 25 (cv25 b))] 1 0) ?_
 refine AW.seqK (fun K_1 hK_1=>?_)
 refine Sa (sT [(1,.d (q1 plan)),(2,.d (.bool most)),pR 3 0,(7,jI 0)] [(0,.var 25 (cv25 b))] 1 0) ?_
 refine AW.block ?_
 refine AW.slh (r:=0) (off:=0) rfl rfl (fun hN_2=>?_)
 rw [List.length_map] at hN_2
 obtain ⟨out_2,hx_2,hk_2⟩:=bsomeC h
 refine AW.evCK (fun (h_:Int) (_:Unit)=>(sT [(1,.d (q1 plan)),(2,.d (.bool most)),pR 3 0,(7,jI h_)] [(0,.var 25 (cv25 b))] 1 0)) (g104_2 b plan most) hx_2 (Can.kp (by kernel_rfl)) (fun h_ p s_2 hi_2 hl_2 hp_2 c_2 h hb_2 K_2 hK_2=>?_) (fun h_ s_2 hi_2 hl_2 hout=>?_)
 ·unfold g104_2 at h
  refine AW.seqK fun K_3 hK_3=>AW.srwK fun Q_4 hQ_4=>?_
  refine Au 3 (sT [(1,.d (q1 plan)),(2,.d (.bool most)),pR 3 0,(7,jI h_),(9,jI h_),(11,.d (.sl 4 (List.map e58 b.Hanks)))] [(0,.var 25 (cv25 b))] 1 0) ?_
  refine rL rfl ?_
  refine Au 1 (sT [(1,.d (q1 plan)),(2,.d (.bool most)),pR 3 0,(7,jI h_),(13,.d (.bool (decide (h_<(b.Hanks.length:Int)))))] [(0,.var 25 (cv25 b))] 1 0) ?_
  refine RW.nil (hQ_4 _ ?_)
  refine AW.cond rfl (fun hb_5=>?_) (fun hb_5=>False.elim (by have:=of_decide_eq_false hb_5;omega))
  refine AW.skip (hK_3 _ ?_)
  refine AW.seqK (fun K_6 hK_6=>?_)
  refine AW.block ?_
  refine AW.srwK (fun Q_7 hQ_7=>?_)
  refine Au 3 (sT [(1,.d (q1 plan)),(2,.d (.bool most)),pR 3 0,(7,jI h_),(17,.d (.sl 4 (List.map e58 b.Hanks))),(18,jI h_)] [(0,.var 25 (cv25 b))] 1 0) ?_
  refine RW.one fokW (r_iaD trivial rfl rfl hi_2 (row:=e58 p) (mapget hp_2) (r_end ?_))
  refine Au 4 (sT [(1,.d (q1 plan)),(2,.d (.bool most)),pR 3 0,(7,jI h_),(8,jI p.Weight.Low)] [(0,.var 25 (cv25 b))] 1 0) ?_
  refine RW.nil (hQ_7 _ ?_)
  obtain ⟨n,hx_8,h⟩:=bsome h
  refine AW.jnSK (fun (n:Int)=>(sT [(1,.d (q1 plan)),(2,.d (.bool most)),pR 3 0,(7,jI h_),(8,jI n)] [(0,.var 25 (cv25 b))] 1 0)) (c:=n) (fun K_8 hK_8=>?_) ?_
  ·have h:=hx_8
   refine Sa (sT [(1,.d (q1 plan)),(2,.d (.bool most)),pR 3 0,(7,jI h_),(8,jI p.Weight.Low),(23,.d (.bool most))] [(0,.var 25 (cv25 b))] 1 0) ?_
   refine AW.cond rfl (fun hb_9=>?_) (fun hb_9=>?_)
   ·have h:=ifT hb_9 h
    refine AW.rw ?_
    refine Au 3 (sT [(1,.d (q1 plan)),(2,.d (.bool most)),pR 3 0,(7,jI h_),(25,.d (.sl 4 (List.map e58 b.Hanks))),(26,jI h_)] [(0,.var 25 (cv25 b))] 1 0) ?_
    refine RW.one fokW (r_iaD trivial rfl rfl hi_2 (row:=e58 p) (mapget hp_2) (r_end ?_))
    refine Au 4 (sT [(1,.d (q1 plan)),(2,.d (.bool most)),pR 3 0,(7,jI h_),(8,jI p.Weight.High)] [(0,.var 25 (cv25 b))] 1 0) ?_
    refine RW.nil ?_
    obtain rfl:=Option.some.inj h
    exact hK_8 _ (Can.kp (by kernel_rfl))
   ·have h:=ifF hb_9 h
    refine AW.skip ?_
    obtain rfl:=Option.some.inj h
    exact hK_8 _ (Can.kp (by kernel_rfl))
  ·refine AW.srwK (fun Q_11 hQ_11=>?_)
   refine Au 3 (sT [(1,.d (q1 plan)),(2,.d (.bool most)),pR 3 0,(7,jI h_),(8,jI n),(31,.agg (cv25 b)),(32,.d (q1 plan)),(33,jI h_)] [(0,.var 25 (cv25 b))] 1 0) ?_
   obtain ⟨r0,hx_12,h⟩:=bsome h
   refine rC (k106 b plan h_ _ hx_12) ?_
   refine Au 2 (sT [(1,.d (q1 plan)),(2,.d (.bool most)),pR 3 0,(7,jI h_),(36,.d (.bool (decide (n<r0))))] [(0,.var 25 (cv25 b))] 1 0) ?_
   refine RW.nil (hQ_11 _ ?_)
   refine AW.cond rfl (fun hb_13=>?_) (fun hb_13=>?_)
   ·have h:=ifT hb_13 h
    refine Sa (sT [(6,.d (.bool false))] [] 1 0) ?_
    obtain rfl:=Option.some.inj h
    have e_1:=hb_2 _ rfl
    subst e_1
    obtain rfl:=Aft.bk hk_2
    exact rT hR_0 (.cons (.tmp rfl) .nil)
   ·have h:=ifF hb_13 h
    refine AW.skip (hK_6 _ ?_)
    refine Ra (sT [(1,.d (q1 plan)),(2,.d (.bool most)),pR 3 0,(7,jI (wr (h_+1)))] [(0,.var 25 (cv25 b))] 1 0) ?_
    obtain rfl:=Option.some.inj h
    have ew:wr (h_+1)=h_+1:=inext (N:=(b.Hanks.length:Int)) (by omega) (by omega) (by omega)
    rw [ew]
    exact hK_2 _ _ rfl (Can.kp (by kernel_rfl))
 ·subst hout
  have h:=Aft.nx hk_2
  refine AW.seqK fun K_14 hK_14=>AW.srwK fun Q_15 hQ_15=>?_
  refine Au 3 (sT [(1,.d (q1 plan)),(2,.d (.bool most)),pR 3 0,(7,jI h_),(9,jI h_),(11,.d (.sl 4 (List.map e58 b.Hanks)))] [(0,.var 25 (cv25 b))] 1 0) ?_
  refine rL rfl ?_
  refine Au 1 (sT [(1,.d (q1 plan)),(2,.d (.bool most)),pR 3 0,(7,jI h_),(13,.d (.bool (decide (h_<(b.Hanks.length:Int)))))] [(0,.var 25 (cv25 b))] 1 0) ?_
  refine RW.nil (hQ_15 _ ?_)
  refine AW.cond rfl (fun hb_16=>False.elim (by have:=of_decide_eq_true hb_16;omega)) (fun hb_16=>?_)
  refine AW.exit ?_
  refine hK_1 _ ?_
  refine Sa (sT [(6,.d (.bool true))] [] 1 0) ?_
  obtain rfl:=Option.some.inj h
  exact rT hR_0 (.cons (.tmp rfl) .nil)
def g69_2 (b:HairBook) (plan:(List Int)):Int→HairHorse→Unit→Option (Ctl (Unit) (Bool)):=fun i p _=>(ixL plan (wr (2*i))).bind fun p1=>(ixL plan (wr ((wr (2*i))+1))).bind fun p2=>(g62 b i p1 p2).bind fun (r0_2,r1_1)=>bif (!r1_1) then (some (.brk false)) else (some (.next ()))
def g69 (b:HairBook) (plan:(List Int)):Option Bool:=bindC (eachC (g69_2 b plan) b.Horses 0 ()) fun _=>(g104 b plan false).bind fun r0_2_1=>some r0_2_1
theorem k69 (b:HairBook) (plan:(List Int)) (r:Bool) (h:g69 b plan=some r):SCall Tryd.prog Gs 69 [.agg (cv25 b),.d (q1 plan)] [] 0 Fr.emp (.d (.bool r)) [] 0 Fr.emp:=by
 unfold g69 at h
 refine SCall.mkK Tryd.func69 c69 rfl rfl (by kernel_rfl) (fun Q_0 hR_0 hN_0=>?_)
 refine Sa (sT [(1,.d (q1 plan)),pR 2 0] [(0,.var 25 (cv25 b))] 1 0) ?_
 refine AW.seqK (fun K_1 hK_1=>?_)
 refine Sa (sT [(1,.d (q1 plan)),pR 2 0,(5,jI 0)] [(0,.var 25 (cv25 b))] 1 0) ?_
 refine AW.block ?_
 refine AW.slh (r:=0) (off:=1) rfl rfl (fun hN_2=>?_)
 rw [List.length_map] at hN_2
 obtain ⟨out_2,hx_2,hk_2⟩:=bsomeC h
 refine AW.evCK (fun (i:Int) (_:Unit)=>(sT [(1,.d (q1 plan)),pR 2 0,(5,jI i)] [(0,.var 25 (cv25 b))] 1 0)) (g69_2 b plan) hx_2 (Can.kp (by kernel_rfl)) (fun i p s_2 hi_2 hl_2 hp_2 c_2 h hb_2 K_2 hK_2=>?_) (fun i s_2 hi_2 hl_2 hout=>?_)
 ·unfold g69_2 at h
  refine AW.seqK fun K_3 hK_3=>AW.srwK fun Q_4 hQ_4=>?_
  refine Au 3 (sT [(1,.d (q1 plan)),pR 2 0,(5,jI i),(8,jI i),(10,.d (.sl 3 (List.map e69 b.Horses)))] [(0,.var 25 (cv25 b))] 1 0) ?_
  refine rL rfl ?_
  refine Au 1 (sT [(1,.d (q1 plan)),pR 2 0,(5,jI i),(12,.d (.bool (decide (i<(b.Horses.length:Int)))))] [(0,.var 25 (cv25 b))] 1 0) ?_
  refine RW.nil (hQ_4 _ ?_)
  refine AW.cond rfl (fun hb_5=>?_) (fun hb_5=>False.elim (by have:=of_decide_eq_false hb_5;omega))
  refine AW.skip (hK_3 _ ?_)
  refine AW.seqK (fun K_6 hK_6=>?_)
  refine AW.block ?_
  refine AW.sdrwK fokW (fun Q_7 hQ_7=>?_)
  refine aX 5 (sT [(1,.d (q1 plan)),pR 2 0,(5,jI i),(16,.agg (cv25 b)),(17,jI i),(18,.d (q1 plan)),(20,jI (wr (2*i)))] [(0,.var 25 (cv25 b))] 1 0) ?_
  obtain ⟨p1,hv_8,h⟩:=bsome h
  refine r_iaD trivial rfl rfl (ixL_ok hv_8).1 (row:=e3 p1) (mapget (ixL_ok hv_8).2) ?_
  refine aX 5 (sT [(1,.d (q1 plan)),pR 2 0,(5,jI i),(16,.agg (cv25 b)),(17,jI i),(22,jI p1),(23,.d (q1 plan)),(26,jI (wr ((wr (2*i))+1)))] [(0,.var 25 (cv25 b))] 1 0) ?_
  obtain ⟨p2,hv_9,h⟩:=bsome h
  refine r_iaD trivial rfl rfl (ixL_ok hv_9).1 (row:=e3 p2) (mapget (ixL_ok hv_9).2) ?_
  refine aX 1 (sT [(1,.d (q1 plan)),pR 2 0,(5,jI i),(16,.agg (cv25 b)),(17,jI i),(22,jI p1),(28,jI p2)] [(0,.var 25 (cv25 b))] 1 0) ?_
  obtain ⟨⟨r0_2,r1_1⟩,hx_10,h⟩:=bsome h
  refine r_call trivial rfl (k62 b i p1 p2 _ hx_10) rfl rfl ?_
  refine aX 6 (sT [(1,.d (q1 plan)),pR 2 0,(5,jI i),(7,.d (.bool r1_1))] [(1,.var 49 [jI (r0_2 0),jI (r0_2 1)]),(0,.var 25 (cv25 b))] 2 0) ?_
  refine Fi (sT [(1,.d (q1 plan)),pR 2 0,(5,jI i),(7,.d (.bool r1_1))] [(0,.var 25 (cv25 b))] 2 0) ?_
  refine hQ_7 _ ?_
  refine Sa (sT [(1,.d (q1 plan)),pR 2 0,(5,jI i),(33,.d (.bool (!r1_1)))] [(0,.var 25 (cv25 b))] 2 0) ?_
  refine AW.cond rfl (fun hb_11=>?_) (fun hb_11=>?_)
  ·have h:=ifT hb_11 h
   refine Sa (sT [(4,.d (.bool false))] [] 2 0) ?_
   obtain rfl:=Option.some.inj h
   have e_1:=hb_2 _ rfl
   subst e_1
   obtain rfl:=Aft.bk hk_2
   exact rT hR_0 (.cons (.tmp rfl) .nil)
  ·have h:=ifF hb_11 h
   refine AW.skip (hK_6 _ ?_)
   refine Ra (sT [(1,.d (q1 plan)),pR 2 0,(5,jI (wr (i+1)))] [(0,.var 25 (cv25 b))] 2 0) ?_
   obtain rfl:=Option.some.inj h
   have ew:wr (i+1)=i+1:=inext (N:=(b.Horses.length:Int)) (by omega) (by omega) (by omega)
   rw [ew]
   exact hK_2 _ _ rfl (Can.kp (by kernel_rfl))
 ·subst hout
  have h:=Aft.nx hk_2
  refine AW.seqK fun K_12 hK_12=>AW.srwK fun Q_13 hQ_13=>?_
  refine Au 3 (sT [(1,.d (q1 plan)),pR 2 0,(5,jI i),(8,jI i),(10,.d (.sl 3 (List.map e69 b.Horses)))] [(0,.var 25 (cv25 b))] 1 0) ?_
  refine rL rfl ?_
  refine Au 1 (sT [(1,.d (q1 plan)),pR 2 0,(5,jI i),(12,.d (.bool (decide (i<(b.Horses.length:Int)))))] [(0,.var 25 (cv25 b))] 1 0) ?_
  refine RW.nil (hQ_13 _ ?_)
  refine AW.cond rfl (fun hb_14=>False.elim (by have:=of_decide_eq_true hb_14;omega)) (fun hb_14=>?_)
  refine AW.exit ?_
  refine hK_1 _ ?_
  refine AW.srwK (fun Q_15 hQ_15=>?_)
  refine Au 2 (sT [(34,.agg (cv25 b)),(35,.d (q1 plan))] [] 1 0) ?_
  obtain ⟨r0_2_1,hx_16,h⟩:=bsome h
  refine rC (k104 b plan false _ hx_16) ?_
  refine Au 1 (sT [(4,.d (.bool r0_2_1))] [] 1 0) ?_
  refine RW.nil (hQ_15 _ ?_)
  obtain rfl:=Option.some.inj h
  exact rT hR_0 (.cons (.tmp rfl) .nil)
def g70 (b_B:HairBook) (mf:List (Hair_dye×Span)) (o0:(List Int)) (o1:Int):Option Bool:=(g66 b_B mf o0).bind fun r0_1=>(bif r0_1 then ((g67 b_B mf o0).bind fun r0_4=>some r0_4) else (some false)).bind fun v=>(bif v then ((g58 b_B mf o1).bind fun r0_1_1=>some r0_1_1) else (some false)).bind fun v1=>some v1
def y12 (b_B:HairBook) (mf:List (Hair_dye×Span)) (o0:(List Int)) (o1:Int):List (Nat×Blk):=[(2,.var 78 (hbm b_B mf)),(0,.var 26 [.d (q1 o0)]),(1,.var 3 [jI o1])]
theorem k70 (b_B:HairBook) (mf:List (Hair_dye×Span)) (o0:(List Int)) (o1:Int) (r:Bool) (h:g70 b_B mf o0 o1=some r):SCall Tryd.prog Gs 70 [.agg (hbm b_B mf),.ptr 0 0,.ptr 1 0] [(0,.var 26 [.d (q1 o0)]),(1,.var 3 [jI o1])] 2 Fr.emp (.d (.bool r)) [(0,.var 26 [.d (q1 o0)]),(1,.var 3 [jI o1])] 2 Fr.emp:=by
 unfold g70 at h
 refine SCall.mkK Tryd.func70 c70 rfl rfl (by kernel_rfl) (fun Q_0 hR_0 hN_0=>?_)
 refine Sa (sT [pR 1 0,pR 2 1,pR 3 2] (y12 b_B mf o0 o1) 3 2) ?_
 refine AW.srwK (fun Q_1 hQ_1=>?_)
 refine Au 2 (sT [pR 1 0,pR 2 1,pR 3 2,(5,.agg (hbm b_B mf)),(6,.d (q1 o0))] (y12 b_B mf o0 o1) 3 2) ?_
 obtain ⟨r0_1,hx_2,h⟩:=bsome h
 refine rC (k66 b_B mf o0 _ hx_2) ?_
 refine Au 1 (sT [pR 1 0,pR 2 1,pR 3 2,(8,.d (.bool r0_1))] (y12 b_B mf o0 o1) 3 2) ?_
 obtain ⟨v,hx_3,h⟩:=bsome h
 refine RW.cut fokW 4 ((sT [pR 2 1,pR 3 2,(12,.d (.bool v))] (y12 b_B mf o0 o1) 3 2)) ?_ ?_
 ·refine r_split 8 rfl (fun hb_5=>?_) (fun hb_5=>?_)
  ·have h:=ifT hb_5 hx_3
   refine aX 2 (sT [pR 2 1,pR 3 2,(8,.d (.bool true)),(9,.agg (hbm b_B mf)),(10,.d (q1 o0))] (y12 b_B mf o0 o1) 3 2) ?_
   obtain ⟨r0_4,hx_4,h⟩:=bsome h
   refine r_call rfl rfl (k67 b_B mf o0 _ hx_4) rfl rfl ?_
   refine aX 1 (sT [pR 2 1,pR 3 2,(12,.d (.bool r0_4))] (y12 b_B mf o0 o1) 3 2) ?_
   obtain rfl:=Option.some.inj h
   refine RunC.finJ (Can.kp (by kernel_rfl))
  ·have h:=ifF hb_5 hx_3
   refine aX 4 (sT [pR 2 1,pR 3 2,(12,.d (.bool false))] (y12 b_B mf o0 o1) 3 2) ?_
   obtain rfl:=Option.some.inj h
   refine RunC.finJ (Can.kp (by kernel_rfl))
 ·refine Au 1 (sT [pR 2 1,pR 3 2,(13,.d (.bool v))] (y12 b_B mf o0 o1) 3 2) ?_
  obtain ⟨v1,hx_6,h⟩:=bsome h
  refine RW.cut fokW 4 ((sT [(17,.d (.bool v1))] [(0,.var 26 [.d (q1 o0)]),(1,.var 3 [jI o1])] 3 2)) ?_ ?_
  ·refine r_split 13 rfl (fun hb_8=>?_) (fun hb_8=>?_)
   ·have h:=ifT hb_8 hx_6
    refine aX 2 (sT [(13,.d (.bool true)),(14,.agg (hbm b_B mf)),(15,jI o1)] (y12 b_B mf o0 o1) 3 2) ?_
    obtain ⟨r0_1_1,hx_7,h⟩:=bsome h
    refine r_call rfl rfl (k58 b_B mf o1 _ hx_7) rfl rfl ?_
    refine aX 1 (sT [(17,.d (.bool r0_1_1))] (y12 b_B mf o0 o1) 3 2) ?_
    obtain rfl:=Option.some.inj h
    refine RunC.finJ (Can.kp (by kernel_rfl))
   ·have h:=ifF hb_8 hx_6
    refine aX 4 (sT [(17,.d (.bool false))] (y12 b_B mf o0 o1) 3 2) ?_
    obtain rfl:=Option.some.inj h
    refine RunC.finJ (Can.kp (by kernel_rfl))
  ·refine Au 1 (sT [(4,.d (.bool v1))] [(0,.var 26 [.d (q1 o0)]),(1,.var 3 [jI o1])] 3 2) ?_
   refine RW.nil (hQ_1 _ ?_)
   obtain rfl:=Option.some.inj h
   exact rT hR_0 (.cons (.tmp rfl) .nil)
end Go.Proofs.Th
namespace Go.Proofs.Th
open Go Go.Abs Go.Proofs
def g55b (x:HairBook) (o0:(List Int)) (o1:Int):Option (Ctl (HairBook×Int) (HairBook×(List (Hair_dye×Span))×Int)):=(g17 x).bind fun r0_9=>bif (decide (r0_9≠0)) then (some (.next ((HairBook.mk [] [] 0 0 0),r0_9))) else ((g80 x).bind fun (r0_B,mf)=>(g70 r0_B mf o0 o1).bind fun r0=>bif (!r0) then (some (.brk (r0_B,mf,61))) else (some (.brk (r0_B,mf,0))))
def y13 (x:HairBook) (o0:(List Int)) (o1:Int):List (Nat×Blk):=[(3,.var 78 [.d (.nilSl),.d (.nilSl),jI 0,jI 0,jI 0,.d (.nilMap)]),(2,.var 25 (cv25 x)),(0,.var 26 [.d (q1 o0)]),(1,.var 3 [jI o1])]
def y14 (o0:(List Int)) (o1:Int):List (Nat×Blk):=[(3,.var 78 [.d (.nilSl),.d (.nilSl),jI 0,jI 0,jI 0,.d (.nilMap)]),(0,.var 26 [.d (q1 o0)]),(1,.var 3 [jI o1])]
theorem k55b (x:HairBook) (o0:(List Int)) (o1:Int) (r:Ctl (HairBook×Int) (HairBook×(List (Hair_dye×Span))×Int)) (h:g55b x o0 o1=some r):SCall Tryd.prog Gs 55 [.agg (cv25 x),.clo 70 [] [.ptr 0 0,.ptr 1 0]] [(0,.var 26 [.d (q1 o0)]),(1,.var 3 [jI o1])] 2 Fr.emp (match r with | .next (r0_B4,r1_1)=>.tup [.agg [.d (.sl 4 (List.map e58 r0_B4.Hanks)),.d (.sl 3 (List.map e69 r0_B4.Horses)),jI r0_B4.Dark,jI r0_B4.Near,jI r0_B4.Match,.d (.nilMap)],jI r1_1] | .brk (r0_B5,mf2,r1_2)=>.tup [.agg (hbm r0_B5 mf2),jI r1_2]) (match r with | .next (r0_B4,r1_1)=>[(0,.var 26 [.d (q1 o0)]),(1,.var 3 [jI o1])] | .brk (r0_B5,mf2,r1_2)=>[(0,.var 26 [.d (q1 o0)]),(1,.var 3 [jI o1])]) 2 Fr.emp:=by
 unfold g55b at h
 refine SCall.mkK Tryd.func55 c55 rfl (by rcases r with _ | _<;>rfl) (by rcases r with _ | _<;>kernel_rfl) (fun Q_0 hR_0 hN_0=>?_)
 refine Sa (sT [(1,.clo 70 [] [.ptr 0 0,.ptr 1 0]),pR 2 2,pR 4 3] (y13 x o0 o1) 4 2) ?_
 refine AW.seqK fun K_1 hK_1=>AW.srwK fun Q_2 hQ_2=>?_
 refine Au 1 (sT [(1,.clo 70 [] [.ptr 0 0,.ptr 1 0]),pR 2 2,pR 4 3,(8,.agg (cv25 x))] (y13 x o0 o1) 4 2) ?_
 obtain ⟨r0_9,hx_3,h⟩:=bsome h
 refine rC (k17 x _ hx_3) ?_
 refine Au 1 (sT [(1,.clo 70 [] [.ptr 0 0,.ptr 1 0]),pR 2 2,pR 4 3,(6,jI r0_9)] (y13 x o0 o1) 4 2) ?_
 refine RW.nil (hQ_2 _ ?_)
 refine Sa (sT [(1,.clo 70 [] [.ptr 0 0,.ptr 1 0]),pR 2 2,pR 4 3,(6,jI r0_9),(11,.d (.bool (decide (r0_9≠0))))] (y13 x o0 o1) 4 2) ?_
 refine AW.cond rfl (fun hb_4=>?_) (fun hb_4=>?_)
 ·have h:=ifT hb_4 h
  refine Sa (sT [pR 4 3,(5,jI r0_9)] (y14 o0 o1) 4 2) ?_
  obtain rfl:=Option.some.inj h
  exact AW.ret (hR_0 _ (retX (.cons (.agg rfl rfl (Nat.le_of_ble_eq_true rfl)) (.cons (.tmp rfl) .nil)) (Frz.tup_of ⟨Frz.agg_of ⟨(.nil 4),(.nil 3),.refl _,.refl _,.refl _,.refl _,trivial⟩,.refl _,trivial⟩) rfl (by kernel_rfl) (by kernel_rfl)))
 ·have h:=ifF hb_4 h
  refine AW.skip (hK_1 _ ?_)
  refine AW.srwK (fun Q_5 hQ_5=>?_)
  refine Au 1 (sT [(1,.clo 70 [] [.ptr 0 0,.ptr 1 0]),pR 4 3,(14,.agg (cv25 x))] (y14 o0 o1) 4 2) ?_
  obtain ⟨⟨r0_B,mf⟩,hx_6,h⟩:=bsome h
  refine rC (k80 x _ hx_6) ?_
  refine Au 2 (sT [(1,.clo 70 [] [.ptr 0 0,.ptr 1 0]),pR 4 3,pR 7 4] [(4,.var 78 (hbm r0_B mf)),(3,.var 78 [.d (.nilSl),.d (.nilSl),jI 0,jI 0,jI 0,.d (.nilMap)]),(0,.var 26 [.d (q1 o0)]),(1,.var 3 [jI o1])] 5 2) ?_
  refine RW.nil (hQ_5 _ ?_)
  refine AW.seqK fun K_7 hK_7=>AW.srwK fun Q_8 hQ_8=>?_
  refine Au 2 (sT [pR 4 3,pR 7 4,(16,.clo 70 [] [.ptr 0 0,.ptr 1 0]),(17,.agg (hbm r0_B mf))] [(4,.var 78 (hbm r0_B mf)),(3,.var 78 [.d (.nilSl),.d (.nilSl),jI 0,jI 0,jI 0,.d (.nilMap)]),(0,.var 26 [.d (q1 o0)]),(1,.var 3 [jI o1])] 5 2) ?_
  obtain ⟨r0,hx_9,h⟩:=bsome h
  refine RW.one fokW (r_callvE (zr:=[]) [0,1] trivial rfl (.clo _ _ _) (by kernel_rfl) rfl (k70 r0_B mf o0 o1 _ hx_9) ⟨rfl,rfl,trivial⟩ rfl rfl ⟨.refl _,.refl _,.refl _,trivial⟩ rfl rfl rfl (r_end ?_))
  refine Au 1 (sT [pR 4 3,pR 7 4,(19,.d (.bool (!r0)))] [(0,.var 26 [.d (q1 o0)]),(1,.var 3 [jI o1]),(4,.var 78 (hbm r0_B mf)),(3,.var 78 [.d (.nilSl),.d (.nilSl),jI 0,jI 0,jI 0,.d (.nilMap)])] 5 2) ?_
  refine RW.nil (hQ_8 _ ?_)
  refine AW.cond rfl (fun hb_10=>?_) (fun hb_10=>?_)
  ·have h:=ifT hb_10 h
   refine Sa (sT [pR 4 3,(5,jI 61)] [(3,.var 78 (hbm r0_B mf)),(0,.var 26 [.d (q1 o0)]),(1,.var 3 [jI o1])] 5 2) ?_
   obtain rfl:=Option.some.inj h
   exact rT hR_0 (.cons (.agg rfl rfl (Nat.le_of_ble_eq_true rfl)) (.cons (.tmp rfl) .nil))
  ·have h:=ifF hb_10 h
   refine AW.skip (hK_7 _ ?_)
   refine Sa (sT [pR 4 3,(5,jI 0)] [(3,.var 78 (hbm r0_B mf)),(0,.var 26 [.d (q1 o0)]),(1,.var 3 [jI o1])] 5 2) ?_
   obtain rfl:=Option.some.inj h
   exact rT hR_0 (.cons (.agg rfl rfl (Nat.le_of_ble_eq_true rfl)) (.cons (.tmp rfl) .nil))
def g21 (x:HairBook) (plan:(List Int)) (hank:Int):Option (Span×Int):=(g55b x plan hank).bind fun r_12=>match r_12 with | .next (r0_B4,r1_1)=>(must (decide (r1_1≠0))).bind fun _=>some ((Span.mk 0 0),r1_1) | .brk (r0_B5,mf2,r1_2)=>bif (decide (r1_2≠0)) then (some ((Span.mk 0 0),r1_2)) else ((ixL x.Hanks hank).bind fun p=>(g71 r0_B5 mf2 plan).bind fun r0_3=>(ixN 5 hank).bind fun j=>some ((Span.mk (wr (p.Weight.Low - (r0_3 j))) (wr (p.Weight.High - (r0_3 j)))),0))
theorem k21 (x:HairBook) (plan:(List Int)) (hank:Int) (r:Span×Int) (h:g21 x plan hank=some r):SCall Tryd.prog Gs 21 [.agg (cv25 x),.d (q1 plan),jI hank] [] 0 Fr.emp (match r with | (r0_2,r1_4)=>.tup [.agg [jI r0_2.Low,jI r0_2.High],jI r1_4]) [] 0 Fr.emp:=by
 unfold g21 at h
 refine SCall.mkK Tryd.func21 c21 rfl rfl (by kernel_rfl) (fun Q_0 hR_0 hN_0=>?_)
 refine Sa (sT [pR 3 0,pR 4 1,pR 5 2,pR 6 3] [(3,.var 35 [jI 0,jI 0]),(2,.var 3 [jI hank]),(1,.var 26 [.d (q1 plan)]),(0,.var 25 (cv25 x))] 4 0) ?_
 refine AW.srwK (fun Q_1 hQ_1=>?_)
 refine Au 2 (sT [pR 3 0,pR 4 1,pR 5 2,pR 6 3,(13,.agg (cv25 x)),(14,.clo 70 [] [.ptr 1 0,.ptr 2 0])] [(3,.var 35 [jI 0,jI 0]),(2,.var 3 [jI hank]),(1,.var 26 [.d (q1 plan)]),(0,.var 25 (cv25 x))] 4 0) ?_
 obtain ⟨r_12,hx_2,h⟩:=bsome h
 rcases r_12 with (⟨r0_B4,r1_1⟩ | (⟨r0_B5,mf2,r1_2⟩))
 ·refine RW.one fokW (r_callS (zr:=[]) [1,2] trivial rfl (k55b x plan hank _ hx_2) ⟨rfl,rfl,trivial⟩ rfl rfl ⟨.refl _,.refl _,trivial⟩ rfl rfl rfl (r_end ?_))
  obtain ⟨_,hv_3,h⟩:=bsome h
  have hf_4:=must_ok hv_3
  refine Au 6 (sT [pR 3 0,pR 4 1,pR 5 2,pR 6 3,pR 8 4,(9,jI r1_1)] [(4,.var 78 (catV (cv25 r0_B4) [.d (.nilMap)])),(1,.var 26 [.d (q1 plan)]),(2,.var 3 [jI hank]),(3,.var 35 [jI 0,jI 0]),(0,.var 25 (cv25 x))] 5 0) ?_
  refine RW.nil (hQ_1 _ ?_)
  refine AW.seqK (fun K_5 hK_5=>?_)
  refine Sa (sT [pR 3 0,pR 4 1,pR 5 2,pR 6 3,pR 8 4,(9,jI r1_1),(19,.d (.bool (decide (r1_1≠0))))] [(4,.var 78 (catV (cv25 r0_B4) [.d (.nilMap)])),(1,.var 26 [.d (q1 plan)]),(2,.var 3 [jI hank]),(3,.var 35 [jI 0,jI 0]),(0,.var 25 (cv25 x))] 5 0) ?_
  refine AW.cond rfl (fun hb_6=>?_) (fun hb_6=>False.elim (by rw [hf_4] at hb_6;cases hb_6))
  refine Sa (sT [pR 6 3,(7,jI r1_1)] [(3,.var 35 [jI 0,jI 0])] 5 0) ?_
  obtain rfl:=Option.some.inj h
  exact rT hR_0 (.cons (.agg rfl rfl (Nat.le_of_ble_eq_true rfl)) (.cons (.tmp rfl) .nil))
 ·refine RW.one fokW (r_callS (zr:=[]) [1,2] trivial rfl (k55b x plan hank _ hx_2) ⟨rfl,rfl,trivial⟩ rfl rfl ⟨.refl _,.refl _,trivial⟩ rfl rfl rfl (r_end ?_))
  refine Au 6 (sT [pR 3 0,pR 4 1,pR 5 2,pR 6 3,pR 8 4,(9,jI r1_2)] [(4,.var 78 (hbm r0_B5 mf2)),(1,.var 26 [.d (q1 plan)]),(2,.var 3 [jI hank]),(3,.var 35 [jI 0,jI 0]),(0,.var 25 (cv25 x))] 5 0) ?_
  refine RW.nil (hQ_1 _ ?_)
  refine AW.seqK (fun K_7 hK_7=>?_)
  refine Sa (sT [pR 3 0,pR 4 1,pR 5 2,pR 6 3,pR 8 4,(9,jI r1_2),(19,.d (.bool (decide (r1_2≠0))))] [(4,.var 78 (hbm r0_B5 mf2)),(1,.var 26 [.d (q1 plan)]),(2,.var 3 [jI hank]),(3,.var 35 [jI 0,jI 0]),(0,.var 25 (cv25 x))] 5 0) ?_
  refine AW.cond rfl (fun hb_8=>?_) (fun hb_8=>?_)
  ·have h:=ifT hb_8 h
   refine Sa (sT [pR 6 3,(7,jI r1_2)] [(3,.var 35 [jI 0,jI 0])] 5 0) ?_
   obtain rfl:=Option.some.inj h
   exact rT hR_0 (.cons (.agg rfl rfl (Nat.le_of_ble_eq_true rfl)) (.cons (.tmp rfl) .nil))
  ·have h:=ifF hb_8 h
   refine AW.skip (hK_7 _ ?_)
   refine AW.sdrwK fokW (fun Q_9 hQ_9=>?_)
   refine aX 3 (sT [pR 4 1,pR 5 2,pR 6 3,pR 8 4,(23,.d (.sl 4 (List.map e58 x.Hanks))),(24,jI hank)] [(4,.var 78 (hbm r0_B5 mf2)),(1,.var 26 [.d (q1 plan)]),(2,.var 3 [jI hank]),(3,.var 35 [jI 0,jI 0]),(0,.var 25 (cv25 x))] 5 0) ?_
   obtain ⟨p,hv_10,h⟩:=bsome h
   refine r_iaD trivial rfl rfl (ixL_ok hv_10).1 (row:=e58 p) (mapget (ixL_ok hv_10).2) ?_
   refine aX 4 (sT [pR 5 2,pR 6 3,(27,.agg [jI p.Weight.Low,jI p.Weight.High]),(28,.agg (hbm r0_B5 mf2)),(29,.d (q1 plan))] [(4,.var 78 (hbm r0_B5 mf2)),(1,.var 26 [.d (q1 plan)]),(2,.var 3 [jI hank]),(3,.var 35 [jI 0,jI 0]),(0,.var 25 (cv25 x))] 5 0) ?_
   obtain ⟨r0_3,hx_11,h⟩:=bsome h
   refine r_call trivial rfl (k71 r0_B5 mf2 plan _ hx_11) rfl rfl ?_
   refine aX 1 (sT [pR 6 3,(27,.agg [jI p.Weight.Low,jI p.Weight.High]),(30,.agg (cfv r0_3)),(31,jI hank)] [(4,.var 78 (hbm r0_B5 mf2)),(1,.var 26 [.d (q1 plan)]),(2,.var 3 [jI hank]),(3,.var 35 [jI 0,jI 0]),(0,.var 25 (cv25 x))] 5 0) ?_
   obtain ⟨j,hv_12,h⟩:=bsome h
   refine r_idx trivial rfl rfl (ixN_ok hv_12).1 (ixN_ok hv_12).2.1 (u:=jI (r0_3 j)) (agt (f:=fun k=>jI (r0_3 k)) hv_12) ?_
   refine aX 3 (sT [pR 6 3,pR 10 5,(11,jI (r0_3 j))] [(5,.var 35 [jI p.Weight.Low,jI p.Weight.High]),(4,.var 78 (hbm r0_B5 mf2)),(1,.var 26 [.d (q1 plan)]),(2,.var 3 [jI hank]),(3,.var 35 [jI 0,jI 0]),(0,.var 25 (cv25 x))] 6 0) ?_
   refine Fi (sT [pR 6 3,pR 10 5,(11,jI (r0_3 j))] [(5,.var 35 [jI p.Weight.Low,jI p.Weight.High]),(3,.var 35 [jI 0,jI 0])] 6 0) ?_
   refine hQ_9 _ ?_
   refine Sa (sT [pR 6 3,(7,jI 0)] [(3,.var 35 [jI (wr (p.Weight.Low - (r0_3 j))),jI (wr (p.Weight.High - (r0_3 j)))])] 6 0) ?_
   obtain rfl:=Option.some.inj h
   exact rT hR_0 (.cons (.agg rfl rfl (Nat.le_of_ble_eq_true rfl)) (.cons (.tmp rfl) .nil))
def g44 (low:Int) (high:Int):Option Span:=some (Span.mk low high)
theorem k44 (low:Int) (high:Int) (r:Span) (h:g44 low high=some r):SCall Tryd.prog Gs 44 [jI low,jI high] [] 0 Fr.emp (.agg [jI r.Low,jI r.High]) [] 0 Fr.emp:=by
 unfold g44 at h
 refine SCall.mkK Tryd.func44 c44 rfl rfl (by kernel_rfl) (fun Q_0 hR_0 hN_0=>?_)
 refine Sa (sT [(0,jI low),(1,jI high),pR 4 0] [(0,.var 35 [jI 0,jI 0])] 1 0) ?_
 refine Sa (sT [pR 4 0] [(0,.var 35 [jI low,jI high])] 1 0) ?_
 obtain rfl:=Option.some.inj h
 exact rT hR_0 (.cons (.agg rfl rfl (Nat.le_of_ble_eq_true rfl)) .nil)
def g74 (b_B:HairBook) (mf:List (Hair_dye×Span)) (o0:(List Int)):Option Bool:=(g66 b_B mf o0).bind fun r0_1=>(bif r0_1 then ((g67 b_B mf o0).bind fun r0_4=>some r0_4) else (some false)).bind fun v=>some v
theorem k74 (b_B:HairBook) (mf:List (Hair_dye×Span)) (o0:(List Int)) (r:Bool) (h:g74 b_B mf o0=some r):SCall Tryd.prog Gs 74 [.agg (hbm b_B mf),.ptr 0 0] [(0,.var 26 [.d (q1 o0)])] 1 Fr.emp (.d (.bool r)) [(0,.var 26 [.d (q1 o0)])] 1 Fr.emp:=by
 unfold g74 at h
 refine SCall.mkK Tryd.func74 c74 rfl rfl (by kernel_rfl) (fun Q_0 hR_0 hN_0=>?_)
 refine Sa (sT [pR 1 0,pR 2 1] [(1,.var 78 (hbm b_B mf)),(0,.var 26 [.d (q1 o0)])] 2 1) ?_
 refine AW.srwK (fun Q_1 hQ_1=>?_)
 refine Au 2 (sT [pR 1 0,pR 2 1,(4,.agg (hbm b_B mf)),(5,.d (q1 o0))] [(1,.var 78 (hbm b_B mf)),(0,.var 26 [.d (q1 o0)])] 2 1) ?_
 obtain ⟨r0_1,hx_2,h⟩:=bsome h
 refine rC (k66 b_B mf o0 _ hx_2) ?_
 refine Au 1 (sT [pR 1 0,pR 2 1,(7,.d (.bool r0_1))] [(1,.var 78 (hbm b_B mf)),(0,.var 26 [.d (q1 o0)])] 2 1) ?_
 obtain ⟨v,hx_3,h⟩:=bsome h
 refine RW.cut fokW 4 ((sT [(11,.d (.bool v))] [(0,.var 26 [.d (q1 o0)])] 2 1)) ?_ ?_
 ·refine r_split 7 rfl (fun hb_5=>?_) (fun hb_5=>?_)
  ·have h:=ifT hb_5 hx_3
   refine aX 2 (sT [(7,.d (.bool true)),(8,.agg (hbm b_B mf)),(9,.d (q1 o0))] [(1,.var 78 (hbm b_B mf)),(0,.var 26 [.d (q1 o0)])] 2 1) ?_
   obtain ⟨r0_4,hx_4,h⟩:=bsome h
   refine r_call rfl rfl (k67 b_B mf o0 _ hx_4) rfl rfl ?_
   refine aX 1 (sT [(11,.d (.bool r0_4))] [(1,.var 78 (hbm b_B mf)),(0,.var 26 [.d (q1 o0)])] 2 1) ?_
   obtain rfl:=Option.some.inj h
   refine RunC.finJ (Can.kp (by kernel_rfl))
  ·have h:=ifF hb_5 hx_3
   refine aX 4 (sT [(11,.d (.bool false))] [(1,.var 78 (hbm b_B mf)),(0,.var 26 [.d (q1 o0)])] 2 1) ?_
   obtain rfl:=Option.some.inj h
   refine RunC.finJ (Can.kp (by kernel_rfl))
 ·refine Au 1 (sT [(3,.d (.bool v))] [(0,.var 26 [.d (q1 o0)])] 2 1) ?_
  refine RW.nil (hQ_1 _ ?_)
  obtain rfl:=Option.some.inj h
  exact rT hR_0 (.cons (.tmp rfl) .nil)
def g55c (x:HairBook) (o0:(List Int)):Option (Ctl (HairBook×Int) (HairBook×(List (Hair_dye×Span))×Int)):=(g17 x).bind fun r0_9=>bif (decide (r0_9≠0)) then (some (.next ((HairBook.mk [] [] 0 0 0),r0_9))) else ((g80 x).bind fun (r0_B,mf)=>(g74 r0_B mf o0).bind fun r0=>bif (!r0) then (some (.brk (r0_B,mf,61))) else (some (.brk (r0_B,mf,0))))
def y15 (x:HairBook) (o0:(List Int)):List (Nat×Blk):=[(2,.var 78 [.d (.nilSl),.d (.nilSl),jI 0,jI 0,jI 0,.d (.nilMap)]),(1,.var 25 (cv25 x)),(0,.var 26 [.d (q1 o0)])]
def y16 (o0:(List Int)):List (Nat×Blk):=[(2,.var 78 [.d (.nilSl),.d (.nilSl),jI 0,jI 0,jI 0,.d (.nilMap)]),(0,.var 26 [.d (q1 o0)])]
theorem k55c (x:HairBook) (o0:(List Int)) (r:Ctl (HairBook×Int) (HairBook×(List (Hair_dye×Span))×Int)) (h:g55c x o0=some r):SCall Tryd.prog Gs 55 [.agg (cv25 x),.clo 74 [] [.ptr 0 0]] [(0,.var 26 [.d (q1 o0)])] 1 Fr.emp (match r with | .next (r0_B4,r1_1)=>.tup [.agg [.d (.sl 4 (List.map e58 r0_B4.Hanks)),.d (.sl 3 (List.map e69 r0_B4.Horses)),jI r0_B4.Dark,jI r0_B4.Near,jI r0_B4.Match,.d (.nilMap)],jI r1_1] | .brk (r0_B5,mf2,r1_2)=>.tup [.agg (hbm r0_B5 mf2),jI r1_2]) (match r with | .next (r0_B4,r1_1)=>[(0,.var 26 [.d (q1 o0)])] | .brk (r0_B5,mf2,r1_2)=>[(0,.var 26 [.d (q1 o0)])]) 1 Fr.emp:=by
 unfold g55c at h
 refine SCall.mkK Tryd.func55 c55 rfl (by rcases r with _ | _<;>rfl) (by rcases r with _ | _<;>kernel_rfl) (fun Q_0 hR_0 hN_0=>?_)
 refine Sa (sT [(1,.clo 74 [] [.ptr 0 0]),pR 2 1,pR 4 2] (y15 x o0) 3 1) ?_
 refine AW.seqK fun K_1 hK_1=>AW.srwK fun Q_2 hQ_2=>?_
 refine Au 1 (sT [(1,.clo 74 [] [.ptr 0 0]),pR 2 1,pR 4 2,(8,.agg (cv25 x))] (y15 x o0) 3 1) ?_
 obtain ⟨r0_9,hx_3,h⟩:=bsome h
 refine rC (k17 x _ hx_3) ?_
 refine Au 1 (sT [(1,.clo 74 [] [.ptr 0 0]),pR 2 1,pR 4 2,(6,jI r0_9)] (y15 x o0) 3 1) ?_
 refine RW.nil (hQ_2 _ ?_)
 refine Sa (sT [(1,.clo 74 [] [.ptr 0 0]),pR 2 1,pR 4 2,(6,jI r0_9),(11,.d (.bool (decide (r0_9≠0))))] (y15 x o0) 3 1) ?_
 refine AW.cond rfl (fun hb_4=>?_) (fun hb_4=>?_)
 ·have h:=ifT hb_4 h
  refine Sa (sT [pR 4 2,(5,jI r0_9)] (y16 o0) 3 1) ?_
  obtain rfl:=Option.some.inj h
  exact AW.ret (hR_0 _ (retX (.cons (.agg rfl rfl (Nat.le_of_ble_eq_true rfl)) (.cons (.tmp rfl) .nil)) (Frz.tup_of ⟨Frz.agg_of ⟨(.nil 4),(.nil 3),.refl _,.refl _,.refl _,.refl _,trivial⟩,.refl _,trivial⟩) rfl (by kernel_rfl) (by kernel_rfl)))
 ·have h:=ifF hb_4 h
  refine AW.skip (hK_1 _ ?_)
  refine AW.srwK (fun Q_5 hQ_5=>?_)
  refine Au 1 (sT [(1,.clo 74 [] [.ptr 0 0]),pR 4 2,(14,.agg (cv25 x))] (y16 o0) 3 1) ?_
  obtain ⟨⟨r0_B,mf⟩,hx_6,h⟩:=bsome h
  refine rC (k80 x _ hx_6) ?_
  refine Au 2 (sT [(1,.clo 74 [] [.ptr 0 0]),pR 4 2,pR 7 3] [(3,.var 78 (hbm r0_B mf)),(2,.var 78 [.d (.nilSl),.d (.nilSl),jI 0,jI 0,jI 0,.d (.nilMap)]),(0,.var 26 [.d (q1 o0)])] 4 1) ?_
  refine RW.nil (hQ_5 _ ?_)
  refine AW.seqK fun K_7 hK_7=>AW.srwK fun Q_8 hQ_8=>?_
  refine Au 2 (sT [pR 4 2,pR 7 3,(16,.clo 74 [] [.ptr 0 0]),(17,.agg (hbm r0_B mf))] [(3,.var 78 (hbm r0_B mf)),(2,.var 78 [.d (.nilSl),.d (.nilSl),jI 0,jI 0,jI 0,.d (.nilMap)]),(0,.var 26 [.d (q1 o0)])] 4 1) ?_
  obtain ⟨r0,hx_9,h⟩:=bsome h
  refine RW.one fokW (r_callvE (zr:=[]) [0] trivial rfl (.clo _ _ _) (by kernel_rfl) rfl (k74 r0_B mf o0 _ hx_9) ⟨rfl,trivial⟩ rfl rfl ⟨.refl _,.refl _,trivial⟩ rfl rfl rfl (r_end ?_))
  refine Au 1 (sT [pR 4 2,pR 7 3,(19,.d (.bool (!r0)))] [(0,.var 26 [.d (q1 o0)]),(3,.var 78 (hbm r0_B mf)),(2,.var 78 [.d (.nilSl),.d (.nilSl),jI 0,jI 0,jI 0,.d (.nilMap)])] 4 1) ?_
  refine RW.nil (hQ_8 _ ?_)
  refine AW.cond rfl (fun hb_10=>?_) (fun hb_10=>?_)
  ·have h:=ifT hb_10 h
   refine Sa (sT [pR 4 2,(5,jI 61)] [(2,.var 78 (hbm r0_B mf)),(0,.var 26 [.d (q1 o0)])] 4 1) ?_
   obtain rfl:=Option.some.inj h
   exact rT hR_0 (.cons (.agg rfl rfl (Nat.le_of_ble_eq_true rfl)) (.cons (.tmp rfl) .nil))
  ·have h:=ifF hb_10 h
   refine AW.skip (hK_7 _ ?_)
   refine Sa (sT [pR 4 2,(5,jI 0)] [(2,.var 78 (hbm r0_B mf)),(0,.var 26 [.d (q1 o0)])] 4 1) ?_
   obtain rfl:=Option.some.inj h
   exact rT hR_0 (.cons (.agg rfl rfl (Nat.le_of_ble_eq_true rfl)) (.cons (.tmp rfl) .nil))
def g76 :Option Unit:=some ()
theorem k76  (r:Unit) (h:g76=some r):SCall Tryd.prog Gs 76 [] [] 0 Fr.emp (.agg [.d (.fn 107)]) [] 0 Fr.emp:=by
 unfold g76 at h
 refine SCall.mkK Tryd.func76 c76 rfl rfl (by kernel_rfl) (fun Q_0 hR_0 hN_0=>?_)
 refine Sa (sT [pR 0 0] [(0,.var 99 [.d (.nilFn)])] 1 0) ?_
 refine Sa (sT [pR 0 0] [(0,.var 99 [.d (.fn 107)])] 1 0) ?_
 obtain rfl:=Option.some.inj h
 exact rT hR_0 (.cons (.agg rfl rfl (Nat.le_of_ble_eq_true rfl)) .nil)
def g107 (s:Span):Option Int:=some s.Low
theorem k107 (s:Span) (r:Int) (h:g107 s=some r):SCall Tryd.prog Gs 107 [.agg [jI s.Low,jI s.High]] [] 0 Fr.emp (jI r) [] 0 Fr.emp:=by
 unfold g107 at h
 refine SCall.mkK Tryd.func107 c107 rfl rfl (by kernel_rfl) (fun Q_0 hR_0 hN_0=>?_)
 refine Sa (sT [pR 1 0] [(0,.var 35 [jI s.Low,jI s.High])] 1 0) ?_
 refine Sa (sT [(2,jI s.Low)] [] 1 0) ?_
 obtain rfl:=Option.some.inj h
 exact rT hR_0 (.cons (.tmp rfl) .nil)
def g75_7 (cut:(Nat→Int)):Int→HairHank→Int→Option Int:=fun v p n=>(ixN 5 v).bind fun j=>bif (decide (0<(cut j))) then ((g107 p.Weight).bind fun r0_1=>(ixN 5 v).bind fun j1=>some (wr (n+(wr (r0_1 - (cut j1)))))) else (some n)
def g75 (b_B:HairBook) (mf:List (Hair_dye×Span)) (cut:(Nat→Int)):Option Int:=(g105).bind fun r0=>bif (false != (((cut 0)==(r0 0))&&(((cut 1)==(r0 1))&&(((cut 2)==(r0 2))&&(((cut 3)==(r0 3))&&(((cut 4)==(r0 4))&&true)))))) then (some 0) else ((eachS (g75_7 cut) b_B.Hanks 0 0).bind fun n=>some n)
def y17 (cut:(Nat→Int)) (b_B:HairBook) (mf:List (Hair_dye×Span)):List (Nat×Blk):=[(2,.var 99 [.d (.fn 107)]),(1,.var 92 (cfv cut)),(0,.var 78 (hbm b_B mf))]
theorem k75 (b_B:HairBook) (mf:List (Hair_dye×Span)) (cut:(Nat→Int)) (r:Int) (h:g75 b_B mf cut=some r):SCall Tryd.prog Gs 75 [.agg (hbm b_B mf),.agg (cfv cut),.agg [.d (.fn 107)]] [] 0 Fr.emp (jI r) [] 0 Fr.emp:=by
 unfold g75 at h
 refine SCall.mkK Tryd.func75 c75 rfl rfl (by kernel_rfl) (fun Q_0 hR_0 hN_0=>?_)
 refine Sa (sT [pR 3 0,pR 4 1,pR 5 2] (y17 cut b_B mf) 3 0) ?_
 refine Sa (sT [pR 3 0,pR 4 1,pR 5 2,(7,jI 0)] (y17 cut b_B mf) 3 0) ?_
 refine AW.seqK (fun K_1 hK_1=>?_)
 refine AW.sdrwK fokW (fun Q_2 hQ_2=>?_)
 refine aX 1 (sT [pR 3 0,pR 4 1,pR 5 2,(7,jI 0),(10,.agg (cfv cut))] (y17 cut b_B mf) 3 0) ?_
 obtain ⟨r0,hx_3,h⟩:=bsome h
 refine r_call trivial rfl (k105 _ hx_3) rfl rfl ?_
 refine r_aeq trivial rfl rfl rfl rfl ft92 rfl rfl rfl ?_
 refine Fi (sT [pR 3 0,pR 4 1,pR 5 2,(7,jI 0),(12,.d (.bool (false != (((cut 0)==(r0 0))&&(((cut 1)==(r0 1))&&(((cut 2)==(r0 2))&&(((cut 3)==(r0 3))&&(((cut 4)==(r0 4))&&true))))))))] (y17 cut b_B mf) 3 0) ?_
 refine hQ_2 _ ?_
 refine AW.cond rfl (fun hb_4=>?_) (fun hb_4=>?_)
 ·have h:=ifT hb_4 h
  refine Sa (sT [(6,jI 0)] [] 3 0) ?_
  obtain rfl:=Option.some.inj h
  exact rT hR_0 (.cons (.tmp rfl) .nil)
 ·have h:=ifF hb_4 h
  refine AW.skip (hK_1 _ ?_)
  refine AW.seqK fun K_5 hK_5=>AW.srwK fun Q_6 hQ_6=>?_
  refine Au 3 (sT [pR 4 1,pR 5 2,(7,jI 0),(16,.d (.sl 4 (List.map e58 b_B.Hanks)))] [(2,.var 99 [.d (.fn 107)]),(1,.var 92 (cfv cut))] 3 0) ?_
  refine rL rfl ?_
  refine Au 1 (sT [pR 4 1,pR 5 2,(7,jI 0),(16,.d (.sl 4 (List.map e58 b_B.Hanks))),(17,jI (b_B.Hanks.length:Int)),(18,jI 0)] [(2,.var 99 [.d (.fn 107)]),(1,.var 92 (cfv cut))] 3 0) ?_
  refine RW.nil (hQ_6 _ ?_)
  refine AW.block ?_
  refine AW.sln (t:=16) rfl (fun hN_7=>?_)
  rw [List.length_map] at hN_7
  obtain ⟨out_7,hx_7,h⟩:=bsome h
  refine AW.evSK (fun (v:Int) (n:Int)=>(sT [pR 4 1,pR 5 2,(7,jI n),(16,.d (.sl 4 (List.map e58 b_B.Hanks))),(17,jI (b_B.Hanks.length:Int)),(18,jI v)] [(2,.var 99 [.d (.fn 107)]),(1,.var 92 (cfv cut))] 3 0)) (g75_7 cut) hx_7 (Can.kp (by kernel_rfl)) (fun v p n hi_7 hl_7 hp_7 c_7 h K_7 hK_7=>?_) (fun v n hi_7 hl_7 hout=>?_)
  ·unfold g75_7 at h
   refine Sa (sT [pR 4 1,pR 5 2,(7,jI n),(16,.d (.sl 4 (List.map e58 b_B.Hanks))),(17,jI (b_B.Hanks.length:Int)),(18,jI v),(19,.d (.bool (decide (v<(b_B.Hanks.length:Int)))))] [(2,.var 99 [.d (.fn 107)]),(1,.var 92 (cfv cut))] 3 0) ?_
   refine AW.seqK (fun K_8 hK_8=>?_)
   refine AW.cond rfl (fun hb_9=>?_) (fun hb_9=>False.elim (by have:=of_decide_eq_false hb_9;omega))
   refine AW.skip (hK_8 _ ?_)
   refine AW.seqK (fun K_10 hK_10=>?_)
   refine AW.block ?_
   refine AW.srwK (fun Q_11 hQ_11=>?_)
   refine Au 1 (sT [pR 4 1,pR 5 2,(7,jI n),(16,.d (.sl 4 (List.map e58 b_B.Hanks))),(17,jI (b_B.Hanks.length:Int)),(18,jI v),(20,jI v)] [(2,.var 99 [.d (.fn 107)]),(1,.var 92 (cfv cut))] 3 0) ?_
   refine RW.one fokW (r_iaD trivial rfl rfl hi_7 (row:=e58 p) (mapget hp_7) (r_end ?_))
   refine Au 4 (sT [pR 4 1,pR 5 2,(7,jI n),(8,jI v),pR 9 3,(16,.d (.sl 4 (List.map e58 b_B.Hanks))),(17,jI (b_B.Hanks.length:Int)),(18,jI v)] [(3,.var 58 (cv58 p)),(2,.var 99 [.d (.fn 107)]),(1,.var 92 (cfv cut))] 4 0) ?_
   refine RW.nil (hQ_11 _ ?_)
   refine AW.srwK (fun Q_12 hQ_12=>?_)
   refine Au 1 (sT [pR 4 1,pR 5 2,(7,jI n),(8,jI v),pR 9 3,(16,.d (.sl 4 (List.map e58 b_B.Hanks))),(17,jI (b_B.Hanks.length:Int)),(18,jI v),(23,jI v)] [(3,.var 58 (cv58 p)),(2,.var 99 [.d (.fn 107)]),(1,.var 92 (cfv cut))] 4 0) ?_
   obtain ⟨j,hv_13,h⟩:=bsome h
   refine RW.one fokW (r_iaV trivial rfl rfl rfl (ixN_ok hv_13).1 (ixN_ok hv_13).2.1 (r_end ?_))
   refine RW.one fokW (r_loadV trivial rfl rfl (u:=jI (cut j)) (agt (f:=fun k=>jI (cut k)) hv_13) (r_end ?_))
   refine Au 1 (sT [pR 4 1,pR 5 2,(7,jI n),(8,jI v),pR 9 3,(16,.d (.sl 4 (List.map e58 b_B.Hanks))),(17,jI (b_B.Hanks.length:Int)),(18,jI v),(26,.d (.bool (decide (0<(cut j)))))] [(3,.var 58 (cv58 p)),(2,.var 99 [.d (.fn 107)]),(1,.var 92 (cfv cut))] 4 0) ?_
   refine RW.nil (hQ_12 _ ?_)
   refine AW.cond rfl (fun hb_14=>?_) (fun hb_14=>?_)
   ·have h:=ifT hb_14 h
    refine AW.drw fokW ?_
    refine aX 5 (sT [pR 4 1,pR 5 2,(8,jI v),(16,.d (.sl 4 (List.map e58 b_B.Hanks))),(17,jI (b_B.Hanks.length:Int)),(18,jI v),(27,jI n),(29,.d (.fn 107)),(31,.agg [jI p.Weight.Low,jI p.Weight.High])] [(3,.var 58 (cv58 p)),(2,.var 99 [.d (.fn 107)]),(1,.var 92 (cfv cut))] 4 0) ?_
    obtain ⟨r0_1,hx_16,h⟩:=bsome h
    refine r_callvZ (zr:=[]) trivial rfl (.fn _) (by kernel_rfl) rfl (k107 p.Weight _ hx_16) trivial ⟨.refl _,trivial⟩ rfl rfl rfl rfl ?_
    refine aX 1 (sT [pR 4 1,pR 5 2,(16,.d (.sl 4 (List.map e58 b_B.Hanks))),(17,jI (b_B.Hanks.length:Int)),(18,jI v),(27,jI n),(32,jI r0_1),(33,jI v)] [(3,.var 58 (cv58 p)),(2,.var 99 [.d (.fn 107)]),(1,.var 92 (cfv cut))] 4 0) ?_
    obtain ⟨j1,hv_17,h⟩:=bsome h
    refine r_iaV trivial rfl rfl rfl (ixN_ok hv_17).1 (ixN_ok hv_17).2.1 ?_
    refine r_loadV trivial rfl rfl (u:=jI (cut j1)) (agt (f:=fun k=>jI (cut k)) hv_17) ?_
    refine aX 3 (sT [pR 4 1,pR 5 2,(7,jI (wr (n+(wr (r0_1 - (cut j1)))))),(16,.d (.sl 4 (List.map e58 b_B.Hanks))),(17,jI (b_B.Hanks.length:Int)),(18,jI v)] [(3,.var 58 (cv58 p)),(2,.var 99 [.d (.fn 107)]),(1,.var 92 (cfv cut))] 4 0) ?_
    refine Fi (sT [pR 4 1,pR 5 2,(7,jI (wr (n+(wr (r0_1 - (cut j1)))))),(16,.d (.sl 4 (List.map e58 b_B.Hanks))),(17,jI (b_B.Hanks.length:Int)),(18,jI v)] [(2,.var 99 [.d (.fn 107)]),(1,.var 92 (cfv cut))] 4 0) ?_
    refine hK_10 _ ?_
    refine Ra (sT [pR 4 1,pR 5 2,(7,jI (wr (n+(wr (r0_1 - (cut j1)))))),(16,.d (.sl 4 (List.map e58 b_B.Hanks))),(17,jI (b_B.Hanks.length:Int)),(18,jI (wr (v+1)))] [(2,.var 99 [.d (.fn 107)]),(1,.var 92 (cfv cut))] 4 0) ?_
    obtain rfl:=Option.some.inj h
    have ew:wr (v+1)=v+1:=inext (N:=(b_B.Hanks.length:Int)) (by omega) (by omega) (by omega)
    rw [ew]
    exact hK_7 _ (Can.kp (by kernel_rfl))
   ·have h:=ifF hb_14 h
    refine AW.skip (hK_10 _ ?_)
    refine Ra (sT [pR 4 1,pR 5 2,(7,jI n),(16,.d (.sl 4 (List.map e58 b_B.Hanks))),(17,jI (b_B.Hanks.length:Int)),(18,jI (wr (v+1)))] [(2,.var 99 [.d (.fn 107)]),(1,.var 92 (cfv cut))] 4 0) ?_
    obtain rfl:=Option.some.inj h
    have ew:wr (v+1)=v+1:=inext (N:=(b_B.Hanks.length:Int)) (by omega) (by omega) (by omega)
    rw [ew]
    exact hK_7 _ (Can.kp (by kernel_rfl))
  ·subst hout
   refine Sa (sT [pR 4 1,pR 5 2,(7,jI n),(16,.d (.sl 4 (List.map e58 b_B.Hanks))),(17,jI (b_B.Hanks.length:Int)),(18,jI v),(19,.d (.bool (decide (v<(b_B.Hanks.length:Int)))))] [(2,.var 99 [.d (.fn 107)]),(1,.var 92 (cfv cut))] 3 0) ?_
   refine AW.seqK (fun K_18 hK_18=>?_)
   refine AW.cond rfl (fun hb_19=>False.elim (by have:=of_decide_eq_true hb_19;omega)) (fun hb_19=>?_)
   refine AW.exit ?_
   refine hK_5 _ ?_
   refine Sa (sT [(6,jI n)] [] 3 0) ?_
   obtain rfl:=Option.some.inj h
   exact rT hR_0 (.cons (.tmp rfl) .nil)
def g77 :Option Unit:=some ()
theorem k77  (r:Unit) (h:g77=some r):SCall Tryd.prog Gs 77 [] [] 0 Fr.emp (.agg [.d (.fn 108)]) [] 0 Fr.emp:=by
 unfold g77 at h
 refine SCall.mkK Tryd.func77 c77 rfl rfl (by kernel_rfl) (fun Q_0 hR_0 hN_0=>?_)
 refine Sa (sT [pR 0 0] [(0,.var 99 [.d (.nilFn)])] 1 0) ?_
 refine Sa (sT [pR 0 0] [(0,.var 99 [.d (.fn 108)])] 1 0) ?_
 obtain rfl:=Option.some.inj h
 exact rT hR_0 (.cons (.agg rfl rfl (Nat.le_of_ble_eq_true rfl)) .nil)
def g108 (s:Span):Option Int:=some s.High
theorem k108 (s:Span) (r:Int) (h:g108 s=some r):SCall Tryd.prog Gs 108 [.agg [jI s.Low,jI s.High]] [] 0 Fr.emp (jI r) [] 0 Fr.emp:=by
 unfold g108 at h
 refine SCall.mkK Tryd.func108 c108 rfl rfl (by kernel_rfl) (fun Q_0 hR_0 hN_0=>?_)
 refine Sa (sT [pR 1 0] [(0,.var 35 [jI s.Low,jI s.High])] 1 0) ?_
 refine Sa (sT [(2,jI s.High)] [] 1 0) ?_
 obtain rfl:=Option.some.inj h
 exact rT hR_0 (.cons (.tmp rfl) .nil)
def g75a_7 (cut:(Nat→Int)):Int→HairHank→Int→Option Int:=fun v p n=>(ixN 5 v).bind fun j=>bif (decide (0<(cut j))) then ((g108 p.Weight).bind fun r0_1=>(ixN 5 v).bind fun j1=>some (wr (n+(wr (r0_1 - (cut j1)))))) else (some n)
def g75a (b_B:HairBook) (mf:List (Hair_dye×Span)) (cut:(Nat→Int)):Option Int:=(g105).bind fun r0=>bif (false != (((cut 0)==(r0 0))&&(((cut 1)==(r0 1))&&(((cut 2)==(r0 2))&&(((cut 3)==(r0 3))&&(((cut 4)==(r0 4))&&true)))))) then (some 0) else ((eachS (g75a_7 cut) b_B.Hanks 0 0).bind fun n=>some n)
def y18 (cut:(Nat→Int)) (b_B:HairBook) (mf:List (Hair_dye×Span)):List (Nat×Blk):=[(2,.var 99 [.d (.fn 108)]),(1,.var 92 (cfv cut)),(0,.var 78 (hbm b_B mf))]
theorem k75a (b_B:HairBook) (mf:List (Hair_dye×Span)) (cut:(Nat→Int)) (r:Int) (h:g75a b_B mf cut=some r):SCall Tryd.prog Gs 75 [.agg (hbm b_B mf),.agg (cfv cut),.agg [.d (.fn 108)]] [] 0 Fr.emp (jI r) [] 0 Fr.emp:=by
 unfold g75a at h
 refine SCall.mkK Tryd.func75 c75 rfl rfl (by kernel_rfl) (fun Q_0 hR_0 hN_0=>?_)
 refine Sa (sT [pR 3 0,pR 4 1,pR 5 2] (y18 cut b_B mf) 3 0) ?_
 refine Sa (sT [pR 3 0,pR 4 1,pR 5 2,(7,jI 0)] (y18 cut b_B mf) 3 0) ?_
 refine AW.seqK (fun K_1 hK_1=>?_)
 refine AW.sdrwK fokW (fun Q_2 hQ_2=>?_)
 refine aX 1 (sT [pR 3 0,pR 4 1,pR 5 2,(7,jI 0),(10,.agg (cfv cut))] (y18 cut b_B mf) 3 0) ?_
 obtain ⟨r0,hx_3,h⟩:=bsome h
 refine r_call trivial rfl (k105 _ hx_3) rfl rfl ?_
 refine r_aeq trivial rfl rfl rfl rfl ft92 rfl rfl rfl ?_
 refine Fi (sT [pR 3 0,pR 4 1,pR 5 2,(7,jI 0),(12,.d (.bool (false != (((cut 0)==(r0 0))&&(((cut 1)==(r0 1))&&(((cut 2)==(r0 2))&&(((cut 3)==(r0 3))&&(((cut 4)==(r0 4))&&true))))))))] (y18 cut b_B mf) 3 0) ?_
 refine hQ_2 _ ?_
 refine AW.cond rfl (fun hb_4=>?_) (fun hb_4=>?_)
 ·have h:=ifT hb_4 h
  refine Sa (sT [(6,jI 0)] [] 3 0) ?_
  obtain rfl:=Option.some.inj h
  exact rT hR_0 (.cons (.tmp rfl) .nil)
 ·have h:=ifF hb_4 h
  refine AW.skip (hK_1 _ ?_)
  refine AW.seqK fun K_5 hK_5=>AW.srwK fun Q_6 hQ_6=>?_
  refine Au 3 (sT [pR 4 1,pR 5 2,(7,jI 0),(16,.d (.sl 4 (List.map e58 b_B.Hanks)))] [(2,.var 99 [.d (.fn 108)]),(1,.var 92 (cfv cut))] 3 0) ?_
  refine rL rfl ?_
  refine Au 1 (sT [pR 4 1,pR 5 2,(7,jI 0),(16,.d (.sl 4 (List.map e58 b_B.Hanks))),(17,jI (b_B.Hanks.length:Int)),(18,jI 0)] [(2,.var 99 [.d (.fn 108)]),(1,.var 92 (cfv cut))] 3 0) ?_
  refine RW.nil (hQ_6 _ ?_)
  refine AW.block ?_
  refine AW.sln (t:=16) rfl (fun hN_7=>?_)
  rw [List.length_map] at hN_7
  obtain ⟨out_7,hx_7,h⟩:=bsome h
  refine AW.evSK (fun (v:Int) (n:Int)=>(sT [pR 4 1,pR 5 2,(7,jI n),(16,.d (.sl 4 (List.map e58 b_B.Hanks))),(17,jI (b_B.Hanks.length:Int)),(18,jI v)] [(2,.var 99 [.d (.fn 108)]),(1,.var 92 (cfv cut))] 3 0)) (g75a_7 cut) hx_7 (Can.kp (by kernel_rfl)) (fun v p n hi_7 hl_7 hp_7 c_7 h K_7 hK_7=>?_) (fun v n hi_7 hl_7 hout=>?_)
  ·unfold g75a_7 at h
   refine Sa (sT [pR 4 1,pR 5 2,(7,jI n),(16,.d (.sl 4 (List.map e58 b_B.Hanks))),(17,jI (b_B.Hanks.length:Int)),(18,jI v),(19,.d (.bool (decide (v<(b_B.Hanks.length:Int)))))] [(2,.var 99 [.d (.fn 108)]),(1,.var 92 (cfv cut))] 3 0) ?_
   refine AW.seqK (fun K_8 hK_8=>?_)
   refine AW.cond rfl (fun hb_9=>?_) (fun hb_9=>False.elim (by have:=of_decide_eq_false hb_9;omega))
   refine AW.skip (hK_8 _ ?_)
   refine AW.seqK (fun K_10 hK_10=>?_)
   refine AW.block ?_
   refine AW.srwK (fun Q_11 hQ_11=>?_)
   refine Au 1 (sT [pR 4 1,pR 5 2,(7,jI n),(16,.d (.sl 4 (List.map e58 b_B.Hanks))),(17,jI (b_B.Hanks.length:Int)),(18,jI v),(20,jI v)] [(2,.var 99 [.d (.fn 108)]),(1,.var 92 (cfv cut))] 3 0) ?_
   refine RW.one fokW (r_iaD trivial rfl rfl hi_7 (row:=e58 p) (mapget hp_7) (r_end ?_))
   refine Au 4 (sT [pR 4 1,pR 5 2,(7,jI n),(8,jI v),pR 9 3,(16,.d (.sl 4 (List.map e58 b_B.Hanks))),(17,jI (b_B.Hanks.length:Int)),(18,jI v)] [(3,.var 58 (cv58 p)),(2,.var 99 [.d (.fn 108)]),(1,.var 92 (cfv cut))] 4 0) ?_
   refine RW.nil (hQ_11 _ ?_)
   refine AW.srwK (fun Q_12 hQ_12=>?_)
   refine Au 1 (sT [pR 4 1,pR 5 2,(7,jI n),(8,jI v),pR 9 3,(16,.d (.sl 4 (List.map e58 b_B.Hanks))),(17,jI (b_B.Hanks.length:Int)),(18,jI v),(23,jI v)] [(3,.var 58 (cv58 p)),(2,.var 99 [.d (.fn 108)]),(1,.var 92 (cfv cut))] 4 0) ?_
   obtain ⟨j,hv_13,h⟩:=bsome h
   refine RW.one fokW (r_iaV trivial rfl rfl rfl (ixN_ok hv_13).1 (ixN_ok hv_13).2.1 (r_end ?_))
   refine RW.one fokW (r_loadV trivial rfl rfl (u:=jI (cut j)) (agt (f:=fun k=>jI (cut k)) hv_13) (r_end ?_))
   refine Au 1 (sT [pR 4 1,pR 5 2,(7,jI n),(8,jI v),pR 9 3,(16,.d (.sl 4 (List.map e58 b_B.Hanks))),(17,jI (b_B.Hanks.length:Int)),(18,jI v),(26,.d (.bool (decide (0<(cut j)))))] [(3,.var 58 (cv58 p)),(2,.var 99 [.d (.fn 108)]),(1,.var 92 (cfv cut))] 4 0) ?_
   refine RW.nil (hQ_12 _ ?_)
   refine AW.cond rfl (fun hb_14=>?_) (fun hb_14=>?_)
   ·have h:=ifT hb_14 h
    refine AW.drw fokW ?_
    refine aX 5 (sT [pR 4 1,pR 5 2,(8,jI v),(16,.d (.sl 4 (List.map e58 b_B.Hanks))),(17,jI (b_B.Hanks.length:Int)),(18,jI v),(27,jI n),(29,.d (.fn 108)),(31,.agg [jI p.Weight.Low,jI p.Weight.High])] [(3,.var 58 (cv58 p)),(2,.var 99 [.d (.fn 108)]),(1,.var 92 (cfv cut))] 4 0) ?_
    obtain ⟨r0_1,hx_16,h⟩:=bsome h
    refine r_callvZ (zr:=[]) trivial rfl (.fn _) (by kernel_rfl) rfl (k108 p.Weight _ hx_16) trivial ⟨.refl _,trivial⟩ rfl rfl rfl rfl ?_
    refine aX 1 (sT [pR 4 1,pR 5 2,(16,.d (.sl 4 (List.map e58 b_B.Hanks))),(17,jI (b_B.Hanks.length:Int)),(18,jI v),(27,jI n),(32,jI r0_1),(33,jI v)] [(3,.var 58 (cv58 p)),(2,.var 99 [.d (.fn 108)]),(1,.var 92 (cfv cut))] 4 0) ?_
    obtain ⟨j1,hv_17,h⟩:=bsome h
    refine r_iaV trivial rfl rfl rfl (ixN_ok hv_17).1 (ixN_ok hv_17).2.1 ?_
    refine r_loadV trivial rfl rfl (u:=jI (cut j1)) (agt (f:=fun k=>jI (cut k)) hv_17) ?_
    refine aX 3 (sT [pR 4 1,pR 5 2,(7,jI (wr (n+(wr (r0_1 - (cut j1)))))),(16,.d (.sl 4 (List.map e58 b_B.Hanks))),(17,jI (b_B.Hanks.length:Int)),(18,jI v)] [(3,.var 58 (cv58 p)),(2,.var 99 [.d (.fn 108)]),(1,.var 92 (cfv cut))] 4 0) ?_
    refine Fi (sT [pR 4 1,pR 5 2,(7,jI (wr (n+(wr (r0_1 - (cut j1)))))),(16,.d (.sl 4 (List.map e58 b_B.Hanks))),(17,jI (b_B.Hanks.length:Int)),(18,jI v)] [(2,.var 99 [.d (.fn 108)]),(1,.var 92 (cfv cut))] 4 0) ?_
    refine hK_10 _ ?_
    refine Ra (sT [pR 4 1,pR 5 2,(7,jI (wr (n+(wr (r0_1 - (cut j1)))))),(16,.d (.sl 4 (List.map e58 b_B.Hanks))),(17,jI (b_B.Hanks.length:Int)),(18,jI (wr (v+1)))] [(2,.var 99 [.d (.fn 108)]),(1,.var 92 (cfv cut))] 4 0) ?_
    obtain rfl:=Option.some.inj h
    have ew:wr (v+1)=v+1:=inext (N:=(b_B.Hanks.length:Int)) (by omega) (by omega) (by omega)
    rw [ew]
    exact hK_7 _ (Can.kp (by kernel_rfl))
   ·have h:=ifF hb_14 h
    refine AW.skip (hK_10 _ ?_)
    refine Ra (sT [pR 4 1,pR 5 2,(7,jI n),(16,.d (.sl 4 (List.map e58 b_B.Hanks))),(17,jI (b_B.Hanks.length:Int)),(18,jI (wr (v+1)))] [(2,.var 99 [.d (.fn 108)]),(1,.var 92 (cfv cut))] 4 0) ?_
    obtain rfl:=Option.some.inj h
    have ew:wr (v+1)=v+1:=inext (N:=(b_B.Hanks.length:Int)) (by omega) (by omega) (by omega)
    rw [ew]
    exact hK_7 _ (Can.kp (by kernel_rfl))
  ·subst hout
   refine Sa (sT [pR 4 1,pR 5 2,(7,jI n),(16,.d (.sl 4 (List.map e58 b_B.Hanks))),(17,jI (b_B.Hanks.length:Int)),(18,jI v),(19,.d (.bool (decide (v<(b_B.Hanks.length:Int)))))] [(2,.var 99 [.d (.fn 108)]),(1,.var 92 (cfv cut))] 3 0) ?_
   refine AW.seqK (fun K_18 hK_18=>?_)
   refine AW.cond rfl (fun hb_19=>False.elim (by have:=of_decide_eq_true hb_19;omega)) (fun hb_19=>?_)
   refine AW.exit ?_
   refine hK_5 _ ?_
   refine Sa (sT [(6,jI n)] [] 3 0) ?_
   obtain rfl:=Option.some.inj h
   exact rT hR_0 (.cons (.tmp rfl) .nil)
def g23 (x:HairBook) (plan:(List Int)):Option (Span×Int):=(g55c x plan).bind fun r_15=>match r_15 with | .next (r0_B4,r1_1)=>(must (decide (r1_1≠0))).bind fun _=>some ((Span.mk 0 0),r1_1) | .brk (r0_B5,mf2,r1_2)=>bif (decide (r1_2≠0)) then (some ((Span.mk 0 0),r1_2)) else ((g71 r0_B5 mf2 plan).bind fun r0_3=>(g76).bind fun _=>(g75 r0_B5 mf2 r0_3).bind fun r0_3_1=>(g77).bind fun _=>(g75a r0_B5 mf2 r0_3).bind fun r0_3_2=>some ((Span.mk r0_3_1 r0_3_2),0))
theorem k23 (x:HairBook) (plan:(List Int)) (r:Span×Int) (h:g23 x plan=some r):SCall Tryd.prog Gs 23 [.agg (cv25 x),.d (q1 plan)] [] 0 Fr.emp (match r with | (r0_2,r1_4)=>.tup [.agg [jI r0_2.Low,jI r0_2.High],jI r1_4]) [] 0 Fr.emp:=by
 unfold g23 at h
 refine SCall.mkK Tryd.func23 c23 rfl rfl (by kernel_rfl) (fun Q_0 hR_0 hN_0=>?_)
 refine Sa (sT [pR 2 0,pR 3 1,pR 4 2] [(2,.var 35 [jI 0,jI 0]),(1,.var 26 [.d (q1 plan)]),(0,.var 25 (cv25 x))] 3 0) ?_
 refine AW.srwK (fun Q_1 hQ_1=>?_)
 refine Au 2 (sT [pR 3 1,pR 4 2,(10,.agg (cv25 x)),(11,.clo 74 [] [.ptr 1 0])] [(2,.var 35 [jI 0,jI 0]),(1,.var 26 [.d (q1 plan)])] 3 0) ?_
 obtain ⟨r_15,hx_2,h⟩:=bsome h
 rcases r_15 with (⟨r0_B4,r1_1⟩ | (⟨r0_B5,mf2,r1_2⟩))
 ·refine RW.one fokW (r_callS (zr:=[]) [1] trivial rfl (k55c x plan _ hx_2) ⟨rfl,trivial⟩ rfl rfl ⟨.refl _,.refl _,trivial⟩ rfl rfl rfl (r_end ?_))
  obtain ⟨_,hv_3,h⟩:=bsome h
  have hf_4:=must_ok hv_3
  refine Au 6 (sT [pR 3 1,pR 4 2,pR 6 3,(7,jI r1_1)] [(3,.var 78 (catV (cv25 r0_B4) [.d (.nilMap)])),(1,.var 26 [.d (q1 plan)]),(2,.var 35 [jI 0,jI 0])] 4 0) ?_
  refine RW.nil (hQ_1 _ ?_)
  refine AW.seqK (fun K_5 hK_5=>?_)
  refine Sa (sT [pR 3 1,pR 4 2,pR 6 3,(7,jI r1_1),(16,.d (.bool (decide (r1_1≠0))))] [(3,.var 78 (catV (cv25 r0_B4) [.d (.nilMap)])),(1,.var 26 [.d (q1 plan)]),(2,.var 35 [jI 0,jI 0])] 4 0) ?_
  refine AW.cond rfl (fun hb_6=>?_) (fun hb_6=>False.elim (by rw [hf_4] at hb_6;cases hb_6))
  refine Sa (sT [pR 4 2,(5,jI r1_1)] [(2,.var 35 [jI 0,jI 0])] 4 0) ?_
  obtain rfl:=Option.some.inj h
  exact rT hR_0 (.cons (.agg rfl rfl (Nat.le_of_ble_eq_true rfl)) (.cons (.tmp rfl) .nil))
 ·refine RW.one fokW (r_callS (zr:=[]) [1] trivial rfl (k55c x plan _ hx_2) ⟨rfl,trivial⟩ rfl rfl ⟨.refl _,.refl _,trivial⟩ rfl rfl rfl (r_end ?_))
  refine Au 6 (sT [pR 3 1,pR 4 2,pR 6 3,(7,jI r1_2)] [(3,.var 78 (hbm r0_B5 mf2)),(1,.var 26 [.d (q1 plan)]),(2,.var 35 [jI 0,jI 0])] 4 0) ?_
  refine RW.nil (hQ_1 _ ?_)
  refine AW.seqK (fun K_7 hK_7=>?_)
  refine Sa (sT [pR 3 1,pR 4 2,pR 6 3,(7,jI r1_2),(16,.d (.bool (decide (r1_2≠0))))] [(3,.var 78 (hbm r0_B5 mf2)),(1,.var 26 [.d (q1 plan)]),(2,.var 35 [jI 0,jI 0])] 4 0) ?_
  refine AW.cond rfl (fun hb_8=>?_) (fun hb_8=>?_)
  ·have h:=ifT hb_8 h
   refine Sa (sT [pR 4 2,(5,jI r1_2)] [(2,.var 35 [jI 0,jI 0])] 4 0) ?_
   obtain rfl:=Option.some.inj h
   exact rT hR_0 (.cons (.agg rfl rfl (Nat.le_of_ble_eq_true rfl)) (.cons (.tmp rfl) .nil))
  ·have h:=ifF hb_8 h
   refine AW.skip (hK_7 _ ?_)
   refine AW.srwK (fun Q_9 hQ_9=>?_)
   refine Au 2 (sT [pR 4 2,pR 6 3,(19,.agg (hbm r0_B5 mf2)),(20,.d (q1 plan))] [(3,.var 78 (hbm r0_B5 mf2)),(2,.var 35 [jI 0,jI 0])] 4 0) ?_
   obtain ⟨r0_3,hx_10,h⟩:=bsome h
   refine rC (k71 r0_B5 mf2 plan _ hx_10) ?_
   refine Au 2 (sT [pR 4 2,pR 6 3,pR 8 4] [(4,.var 92 (cfv r0_3)),(3,.var 78 (hbm r0_B5 mf2)),(2,.var 35 [jI 0,jI 0])] 5 0) ?_
   refine RW.nil (hQ_9 _ ?_)
   refine AW.sdrwK fokW (fun Q_11 hQ_11=>?_)
   refine aX 2 (sT [pR 4 2,pR 6 3,pR 8 4,(22,.agg (hbm r0_B5 mf2)),(23,.agg (cfv r0_3))] [(4,.var 92 (cfv r0_3)),(3,.var 78 (hbm r0_B5 mf2)),(2,.var 35 [jI 0,jI 0])] 5 0) ?_
   obtain ⟨⟨⟩,hx_12,h⟩:=bsome h
   refine r_call trivial rfl (k76 _ hx_12) rfl rfl ?_
   obtain ⟨r0_3_1,hx_13,h⟩:=bsome h
   refine r_call trivial rfl (k75 r0_B5 mf2 r0_3 _ hx_13) rfl rfl ?_
   refine aX 2 (sT [pR 4 2,(25,jI r0_3_1),(26,.agg (hbm r0_B5 mf2)),(27,.agg (cfv r0_3))] [(4,.var 92 (cfv r0_3)),(3,.var 78 (hbm r0_B5 mf2)),(2,.var 35 [jI 0,jI 0])] 5 0) ?_
   obtain ⟨⟨⟩,hx_14,h⟩:=bsome h
   refine r_call trivial rfl (k77 _ hx_14) rfl rfl ?_
   obtain ⟨r0_3_2,hx_15,h⟩:=bsome h
   refine r_call trivial rfl (k75a r0_B5 mf2 r0_3 _ hx_15) rfl rfl ?_
   refine aX 3 (sT [pR 4 2,(5,jI 0)] [(2,.var 35 [jI r0_3_1,jI r0_3_2]),(4,.var 92 (cfv r0_3)),(3,.var 78 (hbm r0_B5 mf2))] 5 0) ?_
   refine Fi (sT [pR 4 2,(5,jI 0)] [(2,.var 35 [jI r0_3_1,jI r0_3_2])] 5 0) ?_
   refine hQ_11 _ ?_
   obtain rfl:=Option.some.inj h
   exact rT hR_0 (.cons (.agg rfl rfl (Nat.le_of_ble_eq_true rfl)) (.cons (.tmp rfl) .nil))
def g40 (n:Int):Option Span:=some (Span.mk n n)
theorem k40 (n:Int) (r:Span) (h:g40 n=some r):SCall Tryd.prog Gs 40 [jI n] [] 0 Fr.emp (.agg [jI r.Low,jI r.High]) [] 0 Fr.emp:=by
 unfold g40 at h
 refine SCall.mkK Tryd.func40 c40 rfl rfl (by kernel_rfl) (fun Q_0 hR_0 hN_0=>?_)
 refine Sa (sT [(0,jI n),pR 2 0] [(0,.var 35 [jI 0,jI 0])] 1 0) ?_
 refine Sa (sT [pR 2 0] [(0,.var 35 [jI n,jI n])] 1 0) ?_
 obtain rfl:=Option.some.inj h
 exact rT hR_0 (.cons (.agg rfl rfl (Nat.le_of_ble_eq_true rfl)) .nil)
def g98 (weight:Span) (shade:Span):Option HairHank:=some (HairHank.mk weight shade)
theorem k98 (weight:Span) (shade:Span) (r:HairHank) (h:g98 weight shade=some r):SCall Tryd.prog Gs 98 [.agg [jI weight.Low,jI weight.High],.agg [jI shade.Low,jI shade.High]] [] 0 Fr.emp (.agg [jI r.Weight.Low,jI r.Weight.High,jI r.Shade.Low,jI r.Shade.High]) [] 0 Fr.emp:=by
 unfold g98 at h
 refine SCall.mkK Tryd.func98 c98 rfl rfl (by kernel_rfl) (fun Q_0 hR_0 hN_0=>?_)
 refine Sa (sT [pR 2 0,pR 3 1,pR 4 2] [(2,.var 58 [jI 0,jI 0,jI 0,jI 0]),(1,.var 35 [jI shade.Low,jI shade.High]),(0,.var 35 [jI weight.Low,jI weight.High])] 3 0) ?_
 refine Sa (sT [pR 4 2] [(2,.var 58 [jI weight.Low,jI weight.High,jI shade.Low,jI shade.High])] 3 0) ?_
 obtain rfl:=Option.some.inj h
 exact rT hR_0 (.cons (.agg rfl rfl (Nat.le_of_ble_eq_true rfl)) .nil)
def g99 (mane:Int) (tail:Int) (shade:Int):Option HairHorse:=some (HairHorse.mk mane tail shade)
theorem k99 (mane:Int) (tail:Int) (shade:Int) (r:HairHorse) (h:g99 mane tail shade=some r):SCall Tryd.prog Gs 99 [jI mane,jI tail,jI shade] [] 0 Fr.emp (.agg [jI r.Mane,jI r.Tail,jI r.Shade]) [] 0 Fr.emp:=by
 unfold g99 at h
 refine SCall.mkK Tryd.func99 c99 rfl rfl (by kernel_rfl) (fun Q_0 hR_0 hN_0=>?_)
 refine Sa (sT [(0,jI mane),(1,jI tail),(2,jI shade),pR 6 0] [(0,.var 69 [jI 0,jI 0,jI 0])] 1 0) ?_
 refine Sa (sT [pR 6 0] [(0,.var 69 [jI mane,jI tail,jI shade])] 1 0) ?_
 obtain rfl:=Option.some.inj h
 exact rT hR_0 (.cons (.agg rfl rfl (Nat.le_of_ble_eq_true rfl)) .nil)
def g53 :Option ((List HairHank)×(List HairHorse)×Int×Int×Int):=(g44 10 11).bind fun r0=>(g44 4 5).bind fun r0_1=>(g98 r0 r0_1).bind fun r0_2=>(g44 8 9).bind fun r0_3=>(g40 6).bind fun r0_4=>(g98 r0_3 r0_4).bind fun r0_5=>(g44 20 22).bind fun r0_6=>(g40 3).bind fun r0_7=>(g98 r0_6 r0_7).bind fun r0_8=>(g99 6 4 6).bind fun r0_9=>(g99 5 3 7).bind fun r0_10=>some ([r0_2,r0_5,r0_8],[r0_9,r0_10],2,1,1)
theorem k53  (r:(List HairHank)×(List HairHorse)×Int×Int×Int) (h:g53=some r):SCall Tryd.prog Gs 53 [] [] 0 Fr.emp (match r with | (r0_Hanks,r0_Horses,r0_Dark,r0_Near,r0_Match)=>.agg [.own 1 (List.map e58 r0_Hanks).length,.own 2 (List.map e69 r0_Horses).length,jI r0_Dark,jI r0_Near,jI r0_Match]) (match r with | (r0_Hanks,r0_Horses,r0_Dark,r0_Near,r0_Match)=>[(1,.row 58 4 (List.map e58 r0_Hanks)),(2,.row 69 3 (List.map e69 r0_Horses))]) 3 Fr.emp:=by
 unfold g53 at h
 refine SCall.mkK Tryd.func53 c53 rfl rfl (by kernel_rfl) (fun Q_0 hR_0 hN_0=>?_)
 refine Sa (sT [pR 0 0] [(0,.var 25 [.d (.nilSl),.d (.nilSl),jI 0,jI 0,jI 0])] 1 0) ?_
 refine AW.srwK (fun Q_1 hQ_1=>?_)
 obtain ⟨r0,hx_2,h⟩:=bsome h
 refine rC (k44 10 11 _ hx_2) ?_
 obtain ⟨r0_1,hx_3,h⟩:=bsome h
 refine rC (k44 4 5 _ hx_3) ?_
 obtain ⟨r0_2,hx_4,h⟩:=bsome h
 refine rC (k98 r0 r0_1 _ hx_4) ?_
 obtain ⟨r0_3,hx_5,h⟩:=bsome h
 refine rC (k44 8 9 _ hx_5) ?_
 obtain ⟨r0_4,hx_6,h⟩:=bsome h
 refine rC (k40 6 _ hx_6) ?_
 obtain ⟨r0_5,hx_7,h⟩:=bsome h
 refine rC (k98 r0_3 r0_4 _ hx_7) ?_
 obtain ⟨r0_6,hx_8,h⟩:=bsome h
 refine rC (k44 20 22 _ hx_8) ?_
 obtain ⟨r0_7,hx_9,h⟩:=bsome h
 refine rC (k40 3 _ hx_9) ?_
 obtain ⟨r0_8,hx_10,h⟩:=bsome h
 refine rC (k98 r0_6 r0_7 _ hx_10) ?_
 refine Au 1 (sT [pR 0 0,(10,.own 1 (List.map e58 [r0_2,r0_5,r0_8]).length)] [(1,.row 58 4 (List.map e58 [r0_2,r0_5,r0_8])),(0,.var 25 [.d (.nilSl),.d (.nilSl),jI 0,jI 0,jI 0])] 2 0) ?_
 obtain ⟨r0_9,hx_11,h⟩:=bsome h
 refine rC (k99 6 4 6 _ hx_11) ?_
 obtain ⟨r0_10,hx_12,h⟩:=bsome h
 refine rC (k99 5 3 7 _ hx_12) ?_
 refine Au 3 (sT [pR 0 0] [(0,.var 25 [.own 1 (List.map e58 [r0_2,r0_5,r0_8]).length,.own 2 (List.map e69 [r0_9,r0_10]).length,jI 2,jI 1,jI 1]),(2,.row 69 3 (List.map e69 [r0_9,r0_10])),(1,.row 58 4 (List.map e58 [r0_2,r0_5,r0_8]))] 3 0) ?_
 refine RW.nil (hQ_1 _ ?_)
 obtain rfl:=Option.some.inj h
 exact rT hR_0 (.cons (.agg rfl rfl (Nat.le_of_ble_eq_true rfl)) .nil)
def g79 :Option HairBook:=(g53).bind fun (r0_Hanks,r0_Horses,r0_Dark,r0_Near,r0_Match)=>(g44 7 8).bind fun r0=>(ixL r0_Hanks 1).bind fun p=>some (HairBook.mk (setL r0_Hanks 1 (HairHank.mk r0 p.Shade)) r0_Horses r0_Dark r0_Near r0_Match)
theorem k79  (r:HairBook) (h:g79=some r):SCall Tryd.prog Gs 79 [] [] 0 Fr.emp (.agg (cv25 r)) [] 0 Fr.emp:=by
 unfold g79 at h
 refine SCall.mkK Tryd.func79 c79 rfl rfl (by kernel_rfl) (fun Q_0 hR_0 hN_0=>?_)
 refine Sa (sT [pR 0 0] [(0,.var 25 [.d (.nilSl),.d (.nilSl),jI 0,jI 0,jI 0])] 1 0) ?_
 refine AW.srwK (fun Q_1 hQ_1=>?_)
 obtain ⟨⟨r0_Hanks,r0_Horses,r0_Dark,r0_Near,r0_Match⟩,hx_2,h⟩:=bsome h
 refine RW.one fokW (r_callS (zr:=[]) [] trivial rfl (k53 _ hx_2) trivial rfl rfl trivial rfl rfl rfl (r_end ?_))
 refine Au 2 (sT [pR 0 0,pR 1 4] [(4,.var 25 [.own 2 (List.map e58 r0_Hanks).length,.own 3 (List.map e69 r0_Horses).length,jI r0_Dark,jI r0_Near,jI r0_Match]),(2,.row 58 4 (List.map e58 r0_Hanks)),(3,.row 69 3 (List.map e69 r0_Horses)),(0,.var 25 [.d (.nilSl),.d (.nilSl),jI 0,jI 0,jI 0])] 5 0) ?_
 refine RW.nil (hQ_1 _ ?_)
 refine AW.sdrwK fokW (fun Q_3 hQ_3=>?_)
 refine aX 2 (sT [pR 0 0,pR 1 4,(4,.own 2 (List.map e58 r0_Hanks).length)] [(4,.var 25 [.own 2 (List.map e58 r0_Hanks).length,.own 3 (List.map e69 r0_Horses).length,jI r0_Dark,jI r0_Near,jI r0_Match]),(2,.row 58 4 (List.map e58 r0_Hanks)),(3,.row 69 3 (List.map e69 r0_Horses)),(0,.var 25 [.d (.nilSl),.d (.nilSl),jI 0,jI 0,jI 0])] 5 0) ?_
 obtain ⟨r0,hx_4,h⟩:=bsome h
 refine r_call trivial rfl (k44 7 8 _ hx_4) rfl rfl ?_
 obtain ⟨p,hv_5,h⟩:=bsome h
 refine r_iaO trivial rfl rfl rfl (ixL_ok hv_5).1 (ix_lt (ixL_ok hv_5).2) rfl ?_
 refine aX 1 (sT [pR 0 0,pR 1 4,(5,.agg [jI r0.Low,jI r0.High]),(7,.eptr 2 (List.map e58 r0_Hanks).length (1:Int).toNat 0)] [(4,.var 25 [.own 2 (List.map e58 r0_Hanks).length,.own 3 (List.map e69 r0_Horses).length,jI r0_Dark,jI r0_Near,jI r0_Match]),(2,.row 58 4 (List.map e58 r0_Hanks)),(3,.row 69 3 (List.map e69 r0_Horses)),(0,.var 25 [.d (.nilSl),.d (.nilSl),jI 0,jI 0,jI 0])] 5 0) ?_
 refine r_stE trivial rfl rfl rfl rfl (mapget (f:=e58) (ixL_ok hv_5).2) rfl rfl rfl (Nat.le_of_ble_eq_true rfl) (stz (f:=e58) (x:=(HairHank.mk r0 p.Shade)) rfl) ?_
 rw [lenset (f:=e58) (xs:=r0_Hanks) (i:=1) (x:=(HairHank.mk r0 p.Shade))]
 refine Fi (sT [pR 0 0,pR 1 4] [(2,.row 58 4 (List.map e58 (setL r0_Hanks 1 (HairHank.mk r0 p.Shade)))),(4,.var 25 [.own 2 (List.map e58 (setL r0_Hanks 1 (HairHank.mk r0 p.Shade))).length,.own 3 (List.map e69 r0_Horses).length,jI r0_Dark,jI r0_Near,jI r0_Match]),(3,.row 69 3 (List.map e69 r0_Horses)),(0,.var 25 [.d (.nilSl),.d (.nilSl),jI 0,jI 0,jI 0])] 5 0) ?_
 refine hQ_3 _ ?_
 refine Sa (sT [pR 0 0] [(0,.var 25 [.own 2 (List.map e58 (setL r0_Hanks 1 (HairHank.mk r0 p.Shade))).length,.own 3 (List.map e69 r0_Horses).length,jI r0_Dark,jI r0_Near,jI r0_Match]),(2,.row 58 4 (List.map e58 (setL r0_Hanks 1 (HairHank.mk r0 p.Shade)))),(3,.row 69 3 (List.map e69 r0_Horses))] 5 0) ?_
 obtain rfl:=Option.some.inj h
 exact AW.ret (hR_0 _ (retX (.cons (.agg rfl rfl (Nat.le_of_ble_eq_true rfl)) .nil) (Frz.agg_of ⟨(.own rfl rfl),(.own rfl rfl),.refl _,.refl _,.refl _,trivial⟩) rfl (by kernel_rfl) (by kernel_rfl)))
def g88 (b_B:HairBook) (mf:List (Hair_dye×Span)) (m0_B:HairBook) (mf_1:List (Hair_dye×Span)):Option (HairBook×(List (Hair_dye×Span))):=some (b_B,mf)
theorem k88 (b_B:HairBook) (mf:List (Hair_dye×Span)) (m0_B:HairBook) (mf_1:List (Hair_dye×Span)) (r:HairBook×(List (Hair_dye×Span))) (h:g88 b_B mf m0_B mf_1=some r):SCall Tryd.prog Gs 88 [.agg (hbm b_B mf),.agg [.d (.fn 107)],.clo 89 [.agg (hbm m0_B mf_1)] []] [] 0 Fr.emp (match r with | (o0_B,mf1)=>.clo 111 [] [.ptr 0 0,.ptr 1 0,.ptr 2 0]) (match r with | (o0_B,mf1)=>[(0,.var 78 (hbm o0_B mf1)),(1,.var 99 [.d (.fn 107)]),(2,.var 65 [.clo 89 [.agg (hbm m0_B mf_1)] []])]) 3 Fr.emp:=by
 unfold g88 at h
 refine SCall.mkK Tryd.func88 c88 rfl rfl (by kernel_rfl) (fun Q_0 hR_0 hN_0=>?_)
 refine Sa (sT [pR 3 0,pR 4 1,pR 5 2] [(2,.var 65 [.clo 89 [.agg (hbm m0_B mf_1)] []]),(1,.var 99 [.d (.fn 107)]),(0,.var 78 (hbm b_B mf))] 3 0) ?_
 refine Sa (sT [(6,.clo 111 [] [.ptr 0 0,.ptr 1 0,.ptr 2 0])] [(2,.var 65 [.clo 89 [.agg (hbm m0_B mf_1)] []]),(1,.var 99 [.d (.fn 107)]),(0,.var 78 (hbm b_B mf))] 3 0) ?_
 obtain rfl:=Option.some.inj h
 exact rT hR_0 (.cons (.tmp rfl) .nil)
end Go.Proofs.Th
