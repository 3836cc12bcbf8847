/- Told functions, and that the program does so, part 1. Conditions: none. -/
import Derived.Test.YthjogmcdfokihaaDoorDa
set_option linter.unusedVariables false
set_option linter.unusedSimpArgs false
namespace Go.Proofs.Tp
open Go Go.Abs Go.Proofs
def g48 (n:Int) (first:Int) (last:Int):Option Bool:=some ((decide (first≤n))&&(decide (n≤last)))
theorem k48 (n:Int) (first:Int) (last:Int) (r:Bool) (h:g48 n first last=some r):SCall Tryd.prog Gs 48 [jI n,jI first,jI last] [] 0 Fr.emp (.d (.bool r)) [] 0 Fr.emp:=by
 unfold g48 at h
 refine SCall.mkK Tryd.func48 c48 rfl rfl (by kernel_rfl) (fun Q_0 hR_0 hN_0=>?_)
 refine Sa (sT [(0,jI n),(1,jI first),(2,jI last)] [] 0 0) ?_
 refine AW.sa fokW [10] (sT [(6,.d (.bool ((decide (first≤n))&&(decide (n≤last)))))] [] 0 0) (by kernel_rfl) ?_
 obtain rfl:=Option.some.inj h
 exact rT hR_0 (.cons (.tmp rfl) .nil)
def g49_7 (x:PlankWood):Int→Span→Bool→Option Bool:=fun v1 p ok=>(bif ok then ((g48 p.Low 0 p.High).bind fun r0_1=>some r0_1) else (some false)).bind fun v2=>some ((v2&&(decide (p.High<x.Long)))&&(decide ((wr (p.High - p.Low))≤6)))
def g49 (x:PlankWood):Option Bool:=(g48 x.Long 1 16).bind fun r0=>(bif r0 then (some (decide ((x.Knots.length:Int)≤3))) else (some false)).bind fun v=>(eachS (g49_7 x) x.Knots 0 v).bind fun ok=>some ok
theorem k49 (x:PlankWood) (r:Bool) (h:g49 x=some r):SCall Tryd.prog Gs 49 [.agg [jI x.Long,.d (.sl 2 (List.map e47 x.Knots))]] [] 0 Fr.emp (.d (.bool r)) [] 0 Fr.emp:=by
 unfold g49 at h
 refine SCall.mkK Tryd.func49 c49 rfl rfl (by kernel_rfl) (fun Q_0 hR_0 hN_0=>?_)
 refine Sa (sT [pR 1 0] [(0,.var 32 [jI x.Long,.d (.sl 2 (List.map e47 x.Knots))])] 1 0) ?_
 refine AW.srwK (fun Q_1 hQ_1=>?_)
 refine Au 2 (sT [pR 1 0,(7,jI x.Long)] [(0,.var 32 [jI x.Long,.d (.sl 2 (List.map e47 x.Knots))])] 1 0) ?_
 obtain ⟨r0,hx_2,h⟩:=bsome h
 refine rC (k48 x.Long 1 16 _ hx_2) ?_
 refine Au 1 (sT [pR 1 0,(9,.d (.bool r0))] [(0,.var 32 [jI x.Long,.d (.sl 2 (List.map e47 x.Knots))])] 1 0) ?_
 obtain ⟨v,hx_3,h⟩:=bsome h
 refine RW.cut fokW 5 ((sT [pR 1 0,(14,.d (.bool v))] [(0,.var 32 [jI x.Long,.d (.sl 2 (List.map e47 x.Knots))])] 1 0)) ?_ ?_
 ·refine r_split 9 rfl (fun hb_4=>?_) (fun hb_4=>?_)
  ·have h:=ifT hb_4 hx_3
   refine aX 2 (sT [pR 1 0,(9,.d (.bool true)),(11,.d (.sl 2 (List.map e47 x.Knots)))] [(0,.var 32 [jI x.Long,.d (.sl 2 (List.map e47 x.Knots))])] 1 0) ?_
   refine r_lenX rfl rfl lenm ?_
   refine aX 2 (sT [pR 1 0,(14,.d (.bool (decide ((x.Knots.length:Int)≤3))))] [(0,.var 32 [jI x.Long,.d (.sl 2 (List.map e47 x.Knots))])] 1 0) ?_
   obtain rfl:=Option.some.inj h
   refine RunC.finJ (Can.kp (by kernel_rfl))
  ·have h:=ifF hb_4 hx_3
   refine aX 5 (sT [pR 1 0,(14,.d (.bool false))] [(0,.var 32 [jI x.Long,.d (.sl 2 (List.map e47 x.Knots))])] 1 0) ?_
   obtain rfl:=Option.some.inj h
   refine RunC.finJ (Can.kp (by kernel_rfl))
 ·refine Au 1 (sT [pR 1 0,(3,.d (.bool v))] [(0,.var 32 [jI x.Long,.d (.sl 2 (List.map e47 x.Knots))])] 1 0) ?_
  refine RW.nil (hQ_1 _ ?_)
  refine AW.seqK fun K_5 hK_5=>AW.srwK fun Q_6 hQ_6=>?_
  refine Au 2 (sT [pR 1 0,(3,.d (.bool v)),(16,.d (.sl 2 (List.map e47 x.Knots)))] [(0,.var 32 [jI x.Long,.d (.sl 2 (List.map e47 x.Knots))])] 1 0) ?_
  refine rL rfl ?_
  refine Au 1 (sT [pR 1 0,(3,.d (.bool v)),(16,.d (.sl 2 (List.map e47 x.Knots))),(17,jI (x.Knots.length:Int)),(18,jI 0)] [(0,.var 32 [jI x.Long,.d (.sl 2 (List.map e47 x.Knots))])] 1 0) ?_
  refine RW.nil (hQ_6 _ ?_)
  refine AW.block ?_
  refine AW.sln (t:=16) rfl (fun hN_7=>?_)
  rw [List.length_map] at hN_7
  obtain ⟨out_7,hx_7,h⟩:=bsome h
  refine AW.evSK (fun (v1:Int) (ok:Bool)=>(sT [pR 1 0,(3,.d (.bool ok)),(16,.d (.sl 2 (List.map e47 x.Knots))),(17,jI (x.Knots.length:Int)),(18,jI v1)] [(0,.var 32 [jI x.Long,.d (.sl 2 (List.map e47 x.Knots))])] 1 0)) (g49_7 x) hx_7 (Can.kp (by kernel_rfl)) (fun v1 p ok hi_7 hl_7 hp_7 c_7 h K_7 hK_7=>?_) (fun v1 ok hi_7 hl_7 hout=>?_)
  ·unfold g49_7 at h
   refine Sa (sT [pR 1 0,(3,.d (.bool ok)),(16,.d (.sl 2 (List.map e47 x.Knots))),(17,jI (x.Knots.length:Int)),(18,jI v1),(19,.d (.bool (decide (v1<(x.Knots.length:Int)))))] [(0,.var 32 [jI x.Long,.d (.sl 2 (List.map e47 x.Knots))])] 1 0) ?_
   refine AW.seqK (fun K_8 hK_8=>?_)
   refine AW.cond rfl (fun hb_9=>?_) (fun hb_9=>False.elim (by have:=of_decide_eq_false hb_9;omega))
   refine AW.skip (hK_8 _ ?_)
   refine AW.seqK (fun K_10 hK_10=>?_)
   refine AW.block ?_
   refine AW.srwK (fun Q_11 hQ_11=>?_)
   refine RW.one fokW (r_iaD trivial rfl rfl hi_7 (row:=e47 p) (mapget hp_7) (r_end ?_))
   refine Au 3 (sT [pR 1 0,(3,.d (.bool ok)),pR 5 1,(16,.d (.sl 2 (List.map e47 x.Knots))),(17,jI (x.Knots.length:Int)),(18,jI v1)] [(1,.var 47 [jI p.Low,jI p.High]),(0,.var 32 [jI x.Long,.d (.sl 2 (List.map e47 x.Knots))])] 2 0) ?_
   refine RW.nil (hQ_11 _ ?_)
   refine AW.rw ?_
   refine Au 2 (sT [pR 1 0,pR 5 1,(16,.d (.sl 2 (List.map e47 x.Knots))),(17,jI (x.Knots.length:Int)),(18,jI v1),(23,.d (.bool ok))] [(1,.var 47 [jI p.Low,jI p.High]),(0,.var 32 [jI x.Long,.d (.sl 2 (List.map e47 x.Knots))])] 2 0) ?_
   obtain ⟨v2,hx_13,h⟩:=bsome h
   refine RW.cut fokW 6 ((sT [pR 1 0,pR 5 1,(16,.d (.sl 2 (List.map e47 x.Knots))),(17,jI (x.Knots.length:Int)),(18,jI v1),(29,.d (.bool v2))] [(1,.var 47 [jI p.Low,jI p.High]),(0,.var 32 [jI x.Long,.d (.sl 2 (List.map e47 x.Knots))])] 2 0)) ?_ ?_
   ·refine r_split 23 rfl (fun hb_15=>?_) (fun hb_15=>?_)
    ·have h:=ifT hb_15 hx_13
     refine aX 4 (sT [pR 1 0,pR 5 1,(16,.d (.sl 2 (List.map e47 x.Knots))),(17,jI (x.Knots.length:Int)),(18,jI v1),(23,.d (.bool true)),(25,jI p.Low),(27,jI p.High)] [(1,.var 47 [jI p.Low,jI p.High]),(0,.var 32 [jI x.Long,.d (.sl 2 (List.map e47 x.Knots))])] 2 0) ?_
     obtain ⟨r0_1,hx_14,h⟩:=bsome h
     refine r_call rfl rfl (k48 p.Low 0 p.High _ hx_14) rfl rfl ?_
     refine aX 1 (sT [pR 1 0,pR 5 1,(16,.d (.sl 2 (List.map e47 x.Knots))),(17,jI (x.Knots.length:Int)),(18,jI v1),(29,.d (.bool r0_1))] [(1,.var 47 [jI p.Low,jI p.High]),(0,.var 32 [jI x.Long,.d (.sl 2 (List.map e47 x.Knots))])] 2 0) ?_
     obtain rfl:=Option.some.inj h
     refine RunC.finJ (Can.kp (by kernel_rfl))
    ·have h:=ifF hb_15 hx_13
     refine aX 6 (sT [pR 1 0,pR 5 1,(16,.d (.sl 2 (List.map e47 x.Knots))),(17,jI (x.Knots.length:Int)),(18,jI v1),(29,.d (.bool false))] [(1,.var 47 [jI p.Low,jI p.High]),(0,.var 32 [jI x.Long,.d (.sl 2 (List.map e47 x.Knots))])] 2 0) ?_
     obtain rfl:=Option.some.inj h
     refine RunC.finJ (Can.kp (by kernel_rfl))
   ·refine RW.au fokW 16 [30,37] (sT [pR 1 0,(3,.d (.bool ((v2&&(decide (p.High<x.Long)))&&(decide ((wr (p.High - p.Low))≤6))))),(16,.d (.sl 2 (List.map e47 x.Knots))),(17,jI (x.Knots.length:Int)),(18,jI v1)] [(0,.var 32 [jI x.Long,.d (.sl 2 (List.map e47 x.Knots))])] 2 0) (by kernel_rfl) ?_
    refine RW.nil ?_
    refine hK_10 _ ?_
    refine Ra (sT [pR 1 0,(3,.d (.bool ((v2&&(decide (p.High<x.Long)))&&(decide ((wr (p.High - p.Low))≤6))))),(16,.d (.sl 2 (List.map e47 x.Knots))),(17,jI (x.Knots.length:Int)),(18,jI (wr (v1+1)))] [(0,.var 32 [jI x.Long,.d (.sl 2 (List.map e47 x.Knots))])] 2 0) ?_
    obtain rfl:=Option.some.inj h
    have ew:wr (v1+1)=v1+1:=inext (N:=(x.Knots.length:Int)) (by omega) (by omega) (by omega)
    rw [ew]
    exact hK_7 _ (Can.kp (by kernel_rfl))
  ·subst hout
   refine Sa (sT [pR 1 0,(3,.d (.bool ok)),(16,.d (.sl 2 (List.map e47 x.Knots))),(17,jI (x.Knots.length:Int)),(18,jI v1),(19,.d (.bool (decide (v1<(x.Knots.length:Int)))))] [(0,.var 32 [jI x.Long,.d (.sl 2 (List.map e47 x.Knots))])] 1 0) ?_
   refine AW.seqK (fun K_16 hK_16=>?_)
   refine AW.cond rfl (fun hb_17=>False.elim (by have:=of_decide_eq_true hb_17;omega)) (fun hb_17=>?_)
   refine AW.exit ?_
   refine hK_5 _ ?_
   refine Sa (sT [(2,.d (.bool ok))] [] 1 0) ?_
   obtain rfl:=Option.some.inj h
   exact rT hR_0 (.cons (.tmp rfl) .nil)
def g50_7 (x:PlankShape):Int→Int→(Bool×Int)→Option (Bool×Int):=fun v1 p (ok,last)=>(bif ok then ((g48 p (wr (last+1)) (wr (x.Long - 1))).bind fun r0_1=>some r0_1) else (some false)).bind fun v2=>some (v2,(max last p))
def g50 (x:PlankShape):Option Bool:=(g48 x.Long 1 12).bind fun r0=>(bif r0 then (some (decide ((x.Joints.length:Int)≤3))) else (some false)).bind fun v=>(eachS (g50_7 x) x.Joints 0 (v,(-1))).bind fun (ok,last)=>some ok
theorem k50 (x:PlankShape) (r:Bool) (h:g50 x=some r):SCall Tryd.prog Gs 50 [.agg [jI x.Long,.d (q1 x.Joints),.d (.bool x.Turns)]] [] 0 Fr.emp (.d (.bool r)) [] 0 Fr.emp:=by
 unfold g50 at h
 refine SCall.mkK Tryd.func50 c50 rfl rfl (by kernel_rfl) (fun Q_0 hR_0 hN_0=>?_)
 refine Sa (sT [pR 1 0] [(0,.var 35 [jI x.Long,.d (q1 x.Joints),.d (.bool x.Turns)])] 1 0) ?_
 refine AW.srwK (fun Q_1 hQ_1=>?_)
 refine Au 2 (sT [pR 1 0,(8,jI x.Long)] [(0,.var 35 [jI x.Long,.d (q1 x.Joints),.d (.bool x.Turns)])] 1 0) ?_
 obtain ⟨r0,hx_2,h⟩:=bsome h
 refine rC (k48 x.Long 1 12 _ hx_2) ?_
 refine Au 1 (sT [pR 1 0,(10,.d (.bool r0))] [(0,.var 35 [jI x.Long,.d (q1 x.Joints),.d (.bool x.Turns)])] 1 0) ?_
 obtain ⟨v,hx_3,h⟩:=bsome h
 refine RW.cut fokW 5 ((sT [pR 1 0,(15,.d (.bool v))] [(0,.var 35 [jI x.Long,.d (q1 x.Joints),.d (.bool x.Turns)])] 1 0)) ?_ ?_
 ·refine r_split 10 rfl (fun hb_4=>?_) (fun hb_4=>?_)
  ·have h:=ifT hb_4 hx_3
   refine aX 2 (sT [pR 1 0,(10,.d (.bool true)),(12,.d (q1 x.Joints))] [(0,.var 35 [jI x.Long,.d (q1 x.Joints),.d (.bool x.Turns)])] 1 0) ?_
   refine r_lenX rfl rfl lenm ?_
   refine aX 2 (sT [pR 1 0,(15,.d (.bool (decide ((x.Joints.length:Int)≤3))))] [(0,.var 35 [jI x.Long,.d (q1 x.Joints),.d (.bool x.Turns)])] 1 0) ?_
   obtain rfl:=Option.some.inj h
   refine RunC.finJ (Can.kp (by kernel_rfl))
  ·have h:=ifF hb_4 hx_3
   refine aX 5 (sT [pR 1 0,(15,.d (.bool false))] [(0,.var 35 [jI x.Long,.d (q1 x.Joints),.d (.bool x.Turns)])] 1 0) ?_
   obtain rfl:=Option.some.inj h
   refine RunC.finJ (Can.kp (by kernel_rfl))
 ·refine Au 1 (sT [pR 1 0,(3,.d (.bool v))] [(0,.var 35 [jI x.Long,.d (q1 x.Joints),.d (.bool x.Turns)])] 1 0) ?_
  refine RW.nil (hQ_1 _ ?_)
  refine Sa (sT [pR 1 0,(3,.d (.bool v)),(4,jI (-1))] [(0,.var 35 [jI x.Long,.d (q1 x.Joints),.d (.bool x.Turns)])] 1 0) ?_
  refine AW.seqK fun K_5 hK_5=>AW.srwK fun Q_6 hQ_6=>?_
  refine Au 2 (sT [pR 1 0,(3,.d (.bool v)),(4,jI (-1)),(17,.d (q1 x.Joints))] [(0,.var 35 [jI x.Long,.d (q1 x.Joints),.d (.bool x.Turns)])] 1 0) ?_
  refine rL rfl ?_
  refine Au 1 (sT [pR 1 0,(3,.d (.bool v)),(4,jI (-1)),(17,.d (q1 x.Joints)),(18,jI (x.Joints.length:Int)),(19,jI 0)] [(0,.var 35 [jI x.Long,.d (q1 x.Joints),.d (.bool x.Turns)])] 1 0) ?_
  refine RW.nil (hQ_6 _ ?_)
  refine AW.block ?_
  refine AW.sln (t:=17) rfl (fun hN_7=>?_)
  rw [List.length_map] at hN_7
  obtain ⟨out_7,hx_7,h⟩:=bsome h
  refine AW.evSK (fun (v1:Int) (⟨ok,last⟩:Bool×Int)=>(sT [pR 1 0,(3,.d (.bool ok)),(4,jI last),(17,.d (q1 x.Joints)),(18,jI (x.Joints.length:Int)),(19,jI v1)] [(0,.var 35 [jI x.Long,.d (q1 x.Joints),.d (.bool x.Turns)])] 1 0)) (g50_7 x) hx_7 (Can.kp (by kernel_rfl)) (fun v1 p s_7 hi_7 hl_7 hp_7 c_7 h K_7 hK_7=>?_) (fun v1 s_7 hi_7 hl_7 hout=>?_)
  ·obtain ⟨ok,last⟩:=s_7
   unfold g50_7 at h
   refine Sa (sT [pR 1 0,(3,.d (.bool ok)),(4,jI last),(17,.d (q1 x.Joints)),(18,jI (x.Joints.length:Int)),(19,jI v1),(20,.d (.bool (decide (v1<(x.Joints.length:Int)))))] [(0,.var 35 [jI x.Long,.d (q1 x.Joints),.d (.bool x.Turns)])] 1 0) ?_
   refine AW.seqK (fun K_8 hK_8=>?_)
   refine AW.cond rfl (fun hb_9=>?_) (fun hb_9=>False.elim (by have:=of_decide_eq_false hb_9;omega))
   refine AW.skip (hK_8 _ ?_)
   refine AW.seqK (fun K_10 hK_10=>?_)
   refine AW.block ?_
   refine AW.srwK (fun Q_11 hQ_11=>?_)
   refine RW.one fokW (r_iaD trivial rfl rfl hi_7 (row:=e3 p) (mapget hp_7) (r_end ?_))
   refine Au 2 (sT [pR 1 0,(3,.d (.bool ok)),(4,jI last),(6,jI p),(17,.d (q1 x.Joints)),(18,jI (x.Joints.length:Int)),(19,jI v1)] [(0,.var 35 [jI x.Long,.d (q1 x.Joints),.d (.bool x.Turns)])] 1 0) ?_
   refine RW.nil (hQ_11 _ ?_)
   refine AW.srwK (fun Q_12 hQ_12=>?_)
   refine Au 2 (sT [pR 1 0,(4,jI last),(6,jI p),(17,.d (q1 x.Joints)),(18,jI (x.Joints.length:Int)),(19,jI v1),(24,.d (.bool ok))] [(0,.var 35 [jI x.Long,.d (q1 x.Joints),.d (.bool x.Turns)])] 1 0) ?_
   obtain ⟨v2,hx_13,h⟩:=bsome h
   refine RW.cut fokW 8 ((sT [pR 1 0,(4,jI last),(6,jI p),(17,.d (q1 x.Joints)),(18,jI (x.Joints.length:Int)),(19,jI v1),(32,.d (.bool v2))] [(0,.var 35 [jI x.Long,.d (q1 x.Joints),.d (.bool x.Turns)])] 1 0)) ?_ ?_
   ·refine r_split 24 rfl (fun hb_15=>?_) (fun hb_15=>?_)
    ·have h:=ifT hb_15 hx_13
     refine aX 6 (sT [pR 1 0,(4,jI last),(6,jI p),(17,.d (q1 x.Joints)),(18,jI (x.Joints.length:Int)),(19,jI v1),(24,.d (.bool true)),(25,jI p),(27,jI (wr (last+1))),(30,jI (wr (x.Long - 1)))] [(0,.var 35 [jI x.Long,.d (q1 x.Joints),.d (.bool x.Turns)])] 1 0) ?_
     obtain ⟨r0_1,hx_14,h⟩:=bsome h
     refine r_call rfl rfl (k48 p (wr (last+1)) (wr (x.Long - 1)) _ hx_14) rfl rfl ?_
     refine aX 1 (sT [pR 1 0,(4,jI last),(6,jI p),(17,.d (q1 x.Joints)),(18,jI (x.Joints.length:Int)),(19,jI v1),(32,.d (.bool r0_1))] [(0,.var 35 [jI x.Long,.d (q1 x.Joints),.d (.bool x.Turns)])] 1 0) ?_
     obtain rfl:=Option.some.inj h
     refine RunC.finJ (Can.kp (by kernel_rfl))
    ·have h:=ifF hb_15 hx_13
     refine aX 8 (sT [pR 1 0,(4,jI last),(6,jI p),(17,.d (q1 x.Joints)),(18,jI (x.Joints.length:Int)),(19,jI v1),(32,.d (.bool false))] [(0,.var 35 [jI x.Long,.d (q1 x.Joints),.d (.bool x.Turns)])] 1 0) ?_
     obtain rfl:=Option.some.inj h
     refine RunC.finJ (Can.kp (by kernel_rfl))
   ·refine Au 1 (sT [pR 1 0,(3,.d (.bool v2)),(4,jI last),(6,jI p),(17,.d (q1 x.Joints)),(18,jI (x.Joints.length:Int)),(19,jI v1)] [(0,.var 35 [jI x.Long,.d (q1 x.Joints),.d (.bool x.Turns)])] 1 0) ?_
    refine RW.nil (hQ_12 _ ?_)
    refine Ra (sT [pR 1 0,(3,.d (.bool v2)),(4,jI (max last p)),(17,.d (q1 x.Joints)),(18,jI (x.Joints.length:Int)),(19,jI v1)] [(0,.var 35 [jI x.Long,.d (q1 x.Joints),.d (.bool x.Turns)])] 1 0) ?_
    refine hK_10 _ ?_
    refine Ra (sT [pR 1 0,(3,.d (.bool v2)),(4,jI (max last p)),(17,.d (q1 x.Joints)),(18,jI (x.Joints.length:Int)),(19,jI (wr (v1+1)))] [(0,.var 35 [jI x.Long,.d (q1 x.Joints),.d (.bool x.Turns)])] 1 0) ?_
    obtain rfl:=Option.some.inj h
    have ew:wr (v1+1)=v1+1:=inext (N:=(x.Joints.length:Int)) (by omega) (by omega) (by omega)
    rw [ew]
    exact hK_7 _ (Can.kp (by kernel_rfl))
  ·obtain ⟨ok,last⟩:=s_7
   subst hout
   refine Sa (sT [pR 1 0,(3,.d (.bool ok)),(4,jI last),(17,.d (q1 x.Joints)),(18,jI (x.Joints.length:Int)),(19,jI v1),(20,.d (.bool (decide (v1<(x.Joints.length:Int)))))] [(0,.var 35 [jI x.Long,.d (q1 x.Joints),.d (.bool x.Turns)])] 1 0) ?_
   refine AW.seqK (fun K_16 hK_16=>?_)
   refine AW.cond rfl (fun hb_17=>False.elim (by have:=of_decide_eq_true hb_17;omega)) (fun hb_17=>?_)
   refine AW.exit ?_
   refine hK_5 _ ?_
   refine Sa (sT [(2,.d (.bool ok))] [] 1 0) ?_
   obtain rfl:=Option.some.inj h
   exact rT hR_0 (.cons (.tmp rfl) .nil)
def g18_21:Int→PlankShape→Bool→Option Bool:=fun v3 p1 ok1=>(bif ok1 then ((g50 p1).bind fun r0_2_1=>some r0_2_1) else (some false)).bind fun v4=>some v4
def g18_8:Int→PlankWood→Bool→Option Bool:=fun v1 p ok=>(bif ok then ((g49 p).bind fun r0_2=>some r0_2) else (some false)).bind fun v2=>some v2
def g18 (b:PlankBook):Option Int:=(g48 (b.Planks.length:Int) 1 3).bind fun r0=>(bif r0 then ((g48 (b.Parts.length:Int) 1 5).bind fun r0_1=>some r0_1) else (some false)).bind fun v=>(eachS g18_8 b.Planks 0 v).bind fun ok=>(eachS g18_21 b.Parts 0 ok).bind fun ok1=>bif (!ok1) then (some 10) else (some 0)
theorem k18 (b:PlankBook) (r:Int) (h:g18 b=some r):SCall Tryd.prog Gs 18 [.agg (pbv b)] [] 0 Fr.emp (jI r) [] 0 Fr.emp:=by
 unfold g18 at h
 refine SCall.mkK Tryd.func18 c18 rfl rfl (by kernel_rfl) (fun Q_0 hR_0 hN_0=>?_)
 refine Sa (sT [pR 1 0] [(0,.var 25 (pbv b))] 1 0) ?_
 refine AW.srwK (fun Q_1 hQ_1=>?_)
 refine Au 2 (sT [pR 1 0,(9,.d (.sl 2 (List.map e32 b.Planks)))] [(0,.var 25 (pbv b))] 1 0) ?_
 refine rL rfl ?_
 obtain ⟨r0,hx_2,h⟩:=bsome h
 refine rC (k48 (b.Planks.length:Int) 1 3 _ hx_2) ?_
 refine Au 1 (sT [pR 1 0,(12,.d (.bool r0))] [(0,.var 25 (pbv b))] 1 0) ?_
 obtain ⟨v,hx_3,h⟩:=bsome h
 refine RW.cut fokW 5 ((sT [pR 1 0,(17,.d (.bool v))] [(0,.var 25 (pbv b))] 1 0)) ?_ ?_
 ·refine r_split 12 rfl (fun hb_5=>?_) (fun hb_5=>?_)
  ·have h:=ifT hb_5 hx_3
   refine aX 2 (sT [pR 1 0,(12,.d (.bool true)),(14,.d (.sl 3 (List.map e35 b.Parts)))] [(0,.var 25 (pbv b))] 1 0) ?_
   refine r_lenX rfl rfl lenm ?_
   obtain ⟨r0_1,hx_4,h⟩:=bsome h
   refine r_call rfl rfl (k48 (b.Parts.length:Int) 1 5 _ hx_4) rfl rfl ?_
   refine aX 1 (sT [pR 1 0,(17,.d (.bool r0_1))] [(0,.var 25 (pbv b))] 1 0) ?_
   obtain rfl:=Option.some.inj h
   refine RunC.finJ (Can.kp (by kernel_rfl))
  ·have h:=ifF hb_5 hx_3
   refine aX 5 (sT [pR 1 0,(17,.d (.bool false))] [(0,.var 25 (pbv b))] 1 0) ?_
   obtain rfl:=Option.some.inj h
   refine RunC.finJ (Can.kp (by kernel_rfl))
 ·refine Au 1 (sT [pR 1 0,(3,.d (.bool v))] [(0,.var 25 (pbv b))] 1 0) ?_
  refine RW.nil (hQ_1 _ ?_)
  refine AW.seqK fun K_6 hK_6=>AW.srwK fun Q_7 hQ_7=>?_
  refine Au 2 (sT [pR 1 0,(3,.d (.bool v)),(19,.d (.sl 2 (List.map e32 b.Planks)))] [(0,.var 25 (pbv b))] 1 0) ?_
  refine rL rfl ?_
  refine Au 1 (sT [pR 1 0,(3,.d (.bool v)),(19,.d (.sl 2 (List.map e32 b.Planks))),(20,jI (b.Planks.length:Int)),(21,jI 0)] [(0,.var 25 (pbv b))] 1 0) ?_
  refine RW.nil (hQ_7 _ ?_)
  refine AW.block ?_
  refine AW.sln (t:=19) rfl (fun hN_8=>?_)
  rw [List.length_map] at hN_8
  obtain ⟨out_8,hx_8,h⟩:=bsome h
  refine AW.evSK (fun (v1:Int) (ok:Bool)=>(sT [pR 1 0,(3,.d (.bool ok)),(19,.d (.sl 2 (List.map e32 b.Planks))),(20,jI (b.Planks.length:Int)),(21,jI v1)] [(0,.var 25 (pbv b))] 1 0)) g18_8 hx_8 (Can.kp (by kernel_rfl)) (fun v1 p ok hi_8 hl_8 hp_8 c_8 h K_8 hK_8=>?_) (fun v1 ok hi_8 hl_8 hout=>?_)
  ·unfold g18_8 at h
   refine Sa (sT [pR 1 0,(3,.d (.bool ok)),(19,.d (.sl 2 (List.map e32 b.Planks))),(20,jI (b.Planks.length:Int)),(21,jI v1),(22,.d (.bool (decide (v1<(b.Planks.length:Int)))))] [(0,.var 25 (pbv b))] 1 0) ?_
   refine AW.seqK (fun K_9 hK_9=>?_)
   refine AW.cond rfl (fun hb_10=>?_) (fun hb_10=>False.elim (by have:=of_decide_eq_false hb_10;omega))
   refine AW.skip (hK_9 _ ?_)
   refine AW.seqK (fun K_11 hK_11=>?_)
   refine AW.block ?_
   refine AW.srwK (fun Q_12 hQ_12=>?_)
   refine RW.one fokW (r_iaD trivial rfl rfl hi_8 (row:=e32 p) (mapget hp_8) (r_end ?_))
   refine Au 3 (sT [pR 1 0,(3,.d (.bool ok)),pR 5 1,(19,.d (.sl 2 (List.map e32 b.Planks))),(20,jI (b.Planks.length:Int)),(21,jI v1)] [(1,.var 32 [jI p.Long,.d (.sl 2 (List.map e47 p.Knots))]),(0,.var 25 (pbv b))] 2 0) ?_
   refine RW.nil (hQ_12 _ ?_)
   refine AW.rw ?_
   refine Au 2 (sT [pR 1 0,pR 5 1,(19,.d (.sl 2 (List.map e32 b.Planks))),(20,jI (b.Planks.length:Int)),(21,jI v1),(26,.d (.bool ok))] [(1,.var 32 [jI p.Long,.d (.sl 2 (List.map e47 p.Knots))]),(0,.var 25 (pbv b))] 2 0) ?_
   obtain ⟨v2,hx_14,h⟩:=bsome h
   refine RW.cut fokW 3 ((sT [pR 1 0,(19,.d (.sl 2 (List.map e32 b.Planks))),(20,jI (b.Planks.length:Int)),(21,jI v1),(29,.d (.bool v2))] [(0,.var 25 (pbv b))] 2 0)) ?_ ?_
   ·refine r_split 26 rfl (fun hb_16=>?_) (fun hb_16=>?_)
    ·have h:=ifT hb_16 hx_14
     refine aX 1 (sT [pR 1 0,(19,.d (.sl 2 (List.map e32 b.Planks))),(20,jI (b.Planks.length:Int)),(21,jI v1),(26,.d (.bool true)),(27,.agg [jI p.Long,.d (.sl 2 (List.map e47 p.Knots))])] [(1,.var 32 [jI p.Long,.d (.sl 2 (List.map e47 p.Knots))]),(0,.var 25 (pbv b))] 2 0) ?_
     obtain ⟨r0_2,hx_15,h⟩:=bsome h
     refine r_call rfl rfl (k49 p _ hx_15) rfl rfl ?_
     refine aX 1 (sT [pR 1 0,(19,.d (.sl 2 (List.map e32 b.Planks))),(20,jI (b.Planks.length:Int)),(21,jI v1),(29,.d (.bool r0_2))] [(1,.var 32 [jI p.Long,.d (.sl 2 (List.map e47 p.Knots))]),(0,.var 25 (pbv b))] 2 0) ?_
     obtain rfl:=Option.some.inj h
     refine RunC.finJ (Can.kp (by kernel_rfl))
    ·have h:=ifF hb_16 hx_14
     refine aX 3 (sT [pR 1 0,(19,.d (.sl 2 (List.map e32 b.Planks))),(20,jI (b.Planks.length:Int)),(21,jI v1),(29,.d (.bool false))] [(1,.var 32 [jI p.Long,.d (.sl 2 (List.map e47 p.Knots))]),(0,.var 25 (pbv b))] 2 0) ?_
     obtain rfl:=Option.some.inj h
     refine RunC.finJ (Can.kp (by kernel_rfl))
   ·refine Au 1 (sT [pR 1 0,(3,.d (.bool v2)),(19,.d (.sl 2 (List.map e32 b.Planks))),(20,jI (b.Planks.length:Int)),(21,jI v1)] [(0,.var 25 (pbv b))] 2 0) ?_
    refine RW.nil ?_
    refine hK_11 _ ?_
    refine Ra (sT [pR 1 0,(3,.d (.bool v2)),(19,.d (.sl 2 (List.map e32 b.Planks))),(20,jI (b.Planks.length:Int)),(21,jI (wr (v1+1)))] [(0,.var 25 (pbv b))] 2 0) ?_
    obtain rfl:=Option.some.inj h
    have ew:wr (v1+1)=v1+1:=inext (N:=(b.Planks.length:Int)) (by omega) (by omega) (by omega)
    rw [ew]
    exact hK_8 _ (Can.kp (by kernel_rfl))
  ·subst hout
   refine Sa (sT [pR 1 0,(3,.d (.bool ok)),(19,.d (.sl 2 (List.map e32 b.Planks))),(20,jI (b.Planks.length:Int)),(21,jI v1),(22,.d (.bool (decide (v1<(b.Planks.length:Int)))))] [(0,.var 25 (pbv b))] 1 0) ?_
   refine AW.seqK (fun K_17 hK_17=>?_)
   refine AW.cond rfl (fun hb_18=>False.elim (by have:=of_decide_eq_true hb_18;omega)) (fun hb_18=>?_)
   refine AW.exit ?_
   refine hK_6 _ ?_
   refine AW.seqK fun K_19 hK_19=>AW.srwK fun Q_20 hQ_20=>?_
   refine Au 2 (sT [(3,.d (.bool ok)),(32,.d (.sl 3 (List.map e35 b.Parts)))] [] 1 0) ?_
   refine rL rfl ?_
   refine Au 1 (sT [(3,.d (.bool ok)),(32,.d (.sl 3 (List.map e35 b.Parts))),(33,jI (b.Parts.length:Int)),(34,jI 0)] [] 1 0) ?_
   refine RW.nil (hQ_20 _ ?_)
   refine AW.block ?_
   refine AW.sln (t:=32) rfl (fun hN_21=>?_)
   rw [List.length_map] at hN_21
   obtain ⟨out_21,hx_21,h⟩:=bsome h
   refine AW.evSK (fun (v3:Int) (ok1:Bool)=>(sT [(3,.d (.bool ok1)),(32,.d (.sl 3 (List.map e35 b.Parts))),(33,jI (b.Parts.length:Int)),(34,jI v3)] [] 1 0)) g18_21 hx_21 (Can.kp (by kernel_rfl)) (fun v3 p1 ok1 hi_21 hl_21 hp_21 c_21 h K_21 hK_21=>?_) (fun v3 ok1 hi_21 hl_21 hout=>?_)
   ·unfold g18_21 at h
    refine Sa (sT [(3,.d (.bool ok1)),(32,.d (.sl 3 (List.map e35 b.Parts))),(33,jI (b.Parts.length:Int)),(34,jI v3),(35,.d (.bool (decide (v3<(b.Parts.length:Int)))))] [] 1 0) ?_
    refine AW.seqK (fun K_22 hK_22=>?_)
    refine AW.cond rfl (fun hb_23=>?_) (fun hb_23=>False.elim (by have:=of_decide_eq_false hb_23;omega))
    refine AW.skip (hK_22 _ ?_)
    refine AW.seqK (fun K_24 hK_24=>?_)
    refine AW.block ?_
    refine AW.srwK (fun Q_25 hQ_25=>?_)
    refine RW.one fokW (r_iaD trivial rfl rfl hi_21 (row:=e35 p1) (mapget hp_21) (r_end ?_))
    refine Au 3 (sT [(3,.d (.bool ok1)),pR 7 1,(32,.d (.sl 3 (List.map e35 b.Parts))),(33,jI (b.Parts.length:Int)),(34,jI v3)] [(1,.var 35 [jI p1.Long,.d (q1 p1.Joints),.d (.bool p1.Turns)])] 2 0) ?_
    refine RW.nil (hQ_25 _ ?_)
    refine AW.rw ?_
    refine Au 2 (sT [pR 7 1,(32,.d (.sl 3 (List.map e35 b.Parts))),(33,jI (b.Parts.length:Int)),(34,jI v3),(39,.d (.bool ok1))] [(1,.var 35 [jI p1.Long,.d (q1 p1.Joints),.d (.bool p1.Turns)])] 2 0) ?_
    obtain ⟨v4,hx_27,h⟩:=bsome h
    refine RW.cut fokW 3 ((sT [(32,.d (.sl 3 (List.map e35 b.Parts))),(33,jI (b.Parts.length:Int)),(34,jI v3),(42,.d (.bool v4))] [] 2 0)) ?_ ?_
    ·refine r_split 39 rfl (fun hb_29=>?_) (fun hb_29=>?_)
     ·have h:=ifT hb_29 hx_27
      refine aX 1 (sT [(32,.d (.sl 3 (List.map e35 b.Parts))),(33,jI (b.Parts.length:Int)),(34,jI v3),(39,.d (.bool true)),(40,.agg [jI p1.Long,.d (q1 p1.Joints),.d (.bool p1.Turns)])] [(1,.var 35 [jI p1.Long,.d (q1 p1.Joints),.d (.bool p1.Turns)])] 2 0) ?_
      obtain ⟨r0_2_1,hx_28,h⟩:=bsome h
      refine r_call rfl rfl (k50 p1 _ hx_28) rfl rfl ?_
      refine aX 1 (sT [(32,.d (.sl 3 (List.map e35 b.Parts))),(33,jI (b.Parts.length:Int)),(34,jI v3),(42,.d (.bool r0_2_1))] [(1,.var 35 [jI p1.Long,.d (q1 p1.Joints),.d (.bool p1.Turns)])] 2 0) ?_
      obtain rfl:=Option.some.inj h
      refine RunC.finJ (Can.kp (by kernel_rfl))
     ·have h:=ifF hb_29 hx_27
      refine aX 3 (sT [(32,.d (.sl 3 (List.map e35 b.Parts))),(33,jI (b.Parts.length:Int)),(34,jI v3),(42,.d (.bool false))] [(1,.var 35 [jI p1.Long,.d (q1 p1.Joints),.d (.bool p1.Turns)])] 2 0) ?_
      obtain rfl:=Option.some.inj h
      refine RunC.finJ (Can.kp (by kernel_rfl))
    ·refine Au 1 (sT [(3,.d (.bool v4)),(32,.d (.sl 3 (List.map e35 b.Parts))),(33,jI (b.Parts.length:Int)),(34,jI v3)] [] 2 0) ?_
     refine RW.nil ?_
     refine hK_24 _ ?_
     refine Ra (sT [(3,.d (.bool v4)),(32,.d (.sl 3 (List.map e35 b.Parts))),(33,jI (b.Parts.length:Int)),(34,jI (wr (v3+1)))] [] 2 0) ?_
     obtain rfl:=Option.some.inj h
     have ew:wr (v3+1)=v3+1:=inext (N:=(b.Parts.length:Int)) (by omega) (by omega) (by omega)
     rw [ew]
     exact hK_21 _ (Can.kp (by kernel_rfl))
   ·subst hout
    refine Sa (sT [(3,.d (.bool ok1)),(32,.d (.sl 3 (List.map e35 b.Parts))),(33,jI (b.Parts.length:Int)),(34,jI v3),(35,.d (.bool (decide (v3<(b.Parts.length:Int)))))] [] 1 0) ?_
    refine AW.seqK (fun K_30 hK_30=>?_)
    refine AW.cond rfl (fun hb_31=>False.elim (by have:=of_decide_eq_true hb_31;omega)) (fun hb_31=>?_)
    refine AW.exit ?_
    refine hK_19 _ ?_
    refine AW.seqK (fun K_32 hK_32=>?_)
    refine Sa (sT [(45,.d (.bool (!ok1)))] [] 1 0) ?_
    refine AW.cond rfl (fun hb_33=>?_) (fun hb_33=>?_)
    ·have h:=ifT hb_33 h
     refine Sa (sT [(2,jI 10)] [] 1 0) ?_
     obtain rfl:=Option.some.inj h
     exact rT hR_0 (.cons (.tmp rfl) .nil)
    ·have h:=ifF hb_33 h
     refine AW.skip (hK_32 _ ?_)
     refine Sa (sT [(2,jI 0)] [] 1 0) ?_
     obtain rfl:=Option.some.inj h
     exact rT hR_0 (.cons (.tmp rfl) .nil)
def g19 (n:Int) (first:Int) (last:Int):Option Bool:=some ((decide (first≤n))&&(decide (n≤last)))
theorem k19 (n:Int) (first:Int) (last:Int) (r:Bool) (h:g19 n first last=some r):SCall Tryd.prog Gs 19 [jI n,jI first,jI last] [] 0 Fr.emp (.d (.bool r)) [] 0 Fr.emp:=by
 unfold g19 at h
 refine SCall.mkK Tryd.func19 c19 rfl rfl (by kernel_rfl) (fun Q_0 hR_0 hN_0=>?_)
 refine Sa (sT [(0,jI n),(1,jI first),(2,jI last)] [] 0 0) ?_
 refine AW.sa fokW [10] (sT [(6,.d (.bool ((decide (first≤n))&&(decide (n≤last)))))] [] 0 0) (by kernel_rfl) ?_
 obtain rfl:=Option.some.inj h
 exact rT hR_0 (.cons (.tmp rfl) .nil)
def g5_11 (b:PlankBook):(Bool×Int)→Option (Ctl (Bool×Int) (Bool)):=fun  (ok2,i)=>(bif ok2 then (some (decide (i<(b.Planks.length:Int)))) else (some false)).bind fun v2=>bif v2 then ((ixL b.Planks i).bind fun p=>(g19 p.Long 1 16).bind fun r0_2=>some (.next (r0_2,(wr (i+1))))) else (some (.brk ok2))
def g5_23 (b:PlankBook):(Bool×Int)→Option (Ctl (Bool×Int) (Bool)):=fun  (ok5,i1)=>(bif ok5 then (some (decide (i1<(b.Parts.length:Int)))) else (some false)).bind fun v3=>bif v3 then ((ixL b.Parts i1).bind fun p1=>(g19 p1.Long 1 12).bind fun r0_3=>some (.next (r0_3,(wr (i1+1))))) else (some (.brk ok5))
def g5 (b:PlankBook):Option Bool:=(g18 b).bind fun r0_4=>(bif (decide (r0_4=0)) then ((g19 (b.Planks.length:Int) 1 3).bind fun r0=>some r0) else (some false)).bind fun v=>(bif v then ((g19 (b.Parts.length:Int) 1 5).bind fun r0_1=>some r0_1) else (some false)).bind fun v1=>((whileC (g5_11 b) 1000 (v1,0)).bind fun ok1=>some ok1).bind fun ok=>((whileC (g5_23 b) 1000 (ok,0)).bind fun ok4=>some ok4).bind fun ok3=>(bif ok3 then (some (decide (1<(b.Parts.length:Int)))) else (some false)).bind fun v4=>some v4
theorem k5 (b:PlankBook) (r:Bool) (h:g5 b=some r):SCall Tryd.prog Gs 5 [.agg (pbv b)] [] 0 Fr.emp (.d (.bool r)) [] 0 Fr.emp:=by
 unfold g5 at h
 refine SCall.mkK Tryd.func5 c5 rfl rfl (by kernel_rfl) (fun Q_0 hR_0 hN_0=>?_)
 refine Sa (sT [pR 1 0] [(0,.var 25 (pbv b))] 1 0) ?_
 refine AW.srwK (fun Q_1 hQ_1=>?_)
 refine Au 1 (sT [pR 1 0,(6,.agg (pbv b))] [(0,.var 25 (pbv b))] 1 0) ?_
 obtain ⟨r0_4,hx_2,h⟩:=bsome h
 refine rC (k18 b _ hx_2) ?_
 refine Au 2 (sT [pR 1 0,(9,.d (.bool (decide (r0_4=0))))] [(0,.var 25 (pbv b))] 1 0) ?_
 obtain ⟨v,hx_3,h⟩:=bsome h
 refine RW.cut fokW 5 ((sT [pR 1 0,(14,.d (.bool v))] [(0,.var 25 (pbv b))] 1 0)) ?_ ?_
 ·refine r_split 9 rfl (fun hb_5=>?_) (fun hb_5=>?_)
  ·have h:=ifT hb_5 hx_3
   refine aX 2 (sT [pR 1 0,(9,.d (.bool true)),(11,.d (.sl 2 (List.map e32 b.Planks)))] [(0,.var 25 (pbv b))] 1 0) ?_
   refine r_lenX rfl rfl lenm ?_
   obtain ⟨r0,hx_4,h⟩:=bsome h
   refine r_call rfl rfl (k19 (b.Planks.length:Int) 1 3 _ hx_4) rfl rfl ?_
   refine aX 1 (sT [pR 1 0,(14,.d (.bool r0))] [(0,.var 25 (pbv b))] 1 0) ?_
   obtain rfl:=Option.some.inj h
   refine RunC.finJ (Can.kp (by kernel_rfl))
  ·have h:=ifF hb_5 hx_3
   refine aX 5 (sT [pR 1 0,(14,.d (.bool false))] [(0,.var 25 (pbv b))] 1 0) ?_
   obtain rfl:=Option.some.inj h
   refine RunC.finJ (Can.kp (by kernel_rfl))
 ·refine Au 1 (sT [pR 1 0,(15,.d (.bool v))] [(0,.var 25 (pbv b))] 1 0) ?_
  obtain ⟨v1,hx_6,h⟩:=bsome h
  refine RW.cut fokW 5 ((sT [pR 1 0,(20,.d (.bool v1))] [(0,.var 25 (pbv b))] 1 0)) ?_ ?_
  ·refine r_split 15 rfl (fun hb_8=>?_) (fun hb_8=>?_)
   ·have h:=ifT hb_8 hx_6
    refine aX 2 (sT [pR 1 0,(15,.d (.bool true)),(17,.d (.sl 3 (List.map e35 b.Parts)))] [(0,.var 25 (pbv b))] 1 0) ?_
    refine r_lenX rfl rfl lenm ?_
    obtain ⟨r0_1,hx_7,h⟩:=bsome h
    refine r_call rfl rfl (k19 (b.Parts.length:Int) 1 5 _ hx_7) rfl rfl ?_
    refine aX 1 (sT [pR 1 0,(20,.d (.bool r0_1))] [(0,.var 25 (pbv b))] 1 0) ?_
    obtain rfl:=Option.some.inj h
    refine RunC.finJ (Can.kp (by kernel_rfl))
   ·have h:=ifF hb_8 hx_6
    refine aX 5 (sT [pR 1 0,(20,.d (.bool false))] [(0,.var 25 (pbv b))] 1 0) ?_
    obtain rfl:=Option.some.inj h
    refine RunC.finJ (Can.kp (by kernel_rfl))
  ·refine Au 1 (sT [pR 1 0,(3,.d (.bool v1))] [(0,.var 25 (pbv b))] 1 0) ?_
   refine RW.nil (hQ_1 _ ?_)
   obtain ⟨ok,hx_9,h⟩:=bsome h
   refine AW.jnSK (fun (ok:Bool)=>(sT [pR 1 0,(3,.d (.bool ok))] [(0,.var 25 (pbv b))] 1 0)) (c:=ok) (fun K_9 hK_9=>?_) ?_
   ·have h:=hx_9
    refine Sa (sT [pR 1 0,(3,.d (.bool v1)),(4,jI 0)] [(0,.var 25 (pbv b))] 1 0) ?_
    obtain ⟨ok1,hx_10,h⟩:=bsome h
    refine AW.jqSK (fun (ok1:Bool)=>(sT [pR 1 0,(3,.d (.bool ok1))] [(0,.var 25 (pbv b))] 1 0)) (c:=ok1) (fun K_10 hK_10=>?_) ?_
    ·have h:=hx_10
     refine AW.block ?_
     refine AW.whK (fun (⟨ok2,i⟩:Bool×Int)=>(sT [pR 1 0,(3,.d (.bool ok2)),(4,jI i)] [(0,.var 25 (pbv b))] 1 0)) (g5_11 b) h (Can.kp (by kernel_rfl)) (fun s_11 c_11 h hb_11 K_11 hK_11=>?_)
     obtain ⟨ok2,i⟩:=s_11
     unfold g5_11 at h
     refine AW.seqK fun K_12 hK_12=>AW.srwK fun Q_13 hQ_13=>?_
     refine Au 2 (sT [pR 1 0,(3,.d (.bool ok2)),(4,jI i),(22,.d (.bool ok2))] [(0,.var 25 (pbv b))] 1 0) ?_
     obtain ⟨v2,hx_14,h⟩:=bsome h
     refine RW.cut fokW 6 ((sT [pR 1 0,(3,.d (.bool ok2)),(4,jI i),(28,.d (.bool v2))] [(0,.var 25 (pbv b))] 1 0)) ?_ ?_
     ·refine r_split 22 rfl (fun hb_15=>?_) (fun hb_15=>?_)
      ·have h:=ifT hb_15 hx_14
       refine aX 3 (sT [pR 1 0,(3,.d (.bool ok2)),(4,jI i),(22,.d (.bool true)),(23,jI i),(25,.d (.sl 2 (List.map e32 b.Planks)))] [(0,.var 25 (pbv b))] 1 0) ?_
       refine r_lenX rfl rfl lenm ?_
       refine aX 2 (sT [pR 1 0,(3,.d (.bool ok2)),(4,jI i),(28,.d (.bool (decide (i<(b.Planks.length:Int)))))] [(0,.var 25 (pbv b))] 1 0) ?_
       obtain rfl:=Option.some.inj h
       refine RunC.finJ (Can.kp (by kernel_rfl))
      ·have h:=ifF hb_15 hx_14
       refine aX 6 (sT [pR 1 0,(3,.d (.bool ok2)),(4,jI i),(28,.d (.bool false))] [(0,.var 25 (pbv b))] 1 0) ?_
       obtain rfl:=Option.some.inj h
       refine RunC.finJ (Can.kp (by kernel_rfl))
     ·refine RW.nil (hQ_13 _ ?_)
      refine AW.cond rfl (fun hb_16=>?_) (fun hb_16=>?_)
      ·have h:=ifT hb_16 h
       refine AW.skip (hK_12 _ ?_)
       refine AW.seqK (fun K_17 hK_17=>?_)
       refine AW.block ?_
       refine AW.rw ?_
       refine Au 3 (sT [pR 1 0,(4,jI i),(32,.d (.sl 2 (List.map e32 b.Planks))),(33,jI i)] [(0,.var 25 (pbv b))] 1 0) ?_
       obtain ⟨p,hv_19,h⟩:=bsome h
       refine RW.one fokW (r_iaD trivial rfl rfl (ixL_ok hv_19).1 (row:=e32 p) (mapget (ixL_ok hv_19).2) (r_end ?_))
       refine Au 2 (sT [pR 1 0,(4,jI i),(36,jI p.Long)] [(0,.var 25 (pbv b))] 1 0) ?_
       obtain ⟨r0_2,hx_20,h⟩:=bsome h
       refine rC (k19 p.Long 1 16 _ hx_20) ?_
       refine Au 1 (sT [pR 1 0,(3,.d (.bool r0_2)),(4,jI i)] [(0,.var 25 (pbv b))] 1 0) ?_
       refine RW.nil ?_
       refine hK_17 _ ?_
       refine Ra (sT [pR 1 0,(3,.d (.bool r0_2)),(4,jI (wr (i+1)))] [(0,.var 25 (pbv b))] 1 0) ?_
       obtain rfl:=Option.some.inj h
       exact hK_11 _ _ rfl (Can.kp (by kernel_rfl))
      ·have h:=ifF hb_16 h
       refine AW.exit ?_
       obtain rfl:=Option.some.inj h
       obtain rfl:=hb_11 _ rfl
       exact hK_10 _ (Can.kp (by kernel_rfl))
    ·obtain rfl:=Option.some.inj h
     exact hK_9 _ (Can.kp (by kernel_rfl))
   ·obtain ⟨ok3,hx_21,h⟩:=bsome h
    refine AW.jnSK (fun (ok3:Bool)=>(sT [pR 1 0,(3,.d (.bool ok3))] [(0,.var 25 (pbv b))] 1 0)) (c:=ok3) (fun K_21 hK_21=>?_) ?_
    ·have h:=hx_21
     refine Sa (sT [pR 1 0,(3,.d (.bool ok)),(5,jI 0)] [(0,.var 25 (pbv b))] 1 0) ?_
     obtain ⟨ok4,hx_22,h⟩:=bsome h
     refine AW.jqSK (fun (ok4:Bool)=>(sT [pR 1 0,(3,.d (.bool ok4))] [(0,.var 25 (pbv b))] 1 0)) (c:=ok4) (fun K_22 hK_22=>?_) ?_
     ·have h:=hx_22
      refine AW.block ?_
      refine AW.whK (fun (⟨ok5,i1⟩:Bool×Int)=>(sT [pR 1 0,(3,.d (.bool ok5)),(5,jI i1)] [(0,.var 25 (pbv b))] 1 0)) (g5_23 b) h (Can.kp (by kernel_rfl)) (fun s_23 c_23 h hb_23 K_23 hK_23=>?_)
      obtain ⟨ok5,i1⟩:=s_23
      unfold g5_23 at h
      refine AW.seqK fun K_24 hK_24=>AW.srwK fun Q_25 hQ_25=>?_
      refine Au 2 (sT [pR 1 0,(3,.d (.bool ok5)),(5,jI i1),(39,.d (.bool ok5))] [(0,.var 25 (pbv b))] 1 0) ?_
      obtain ⟨v3,hx_26,h⟩:=bsome h
      refine RW.cut fokW 6 ((sT [pR 1 0,(3,.d (.bool ok5)),(5,jI i1),(45,.d (.bool v3))] [(0,.var 25 (pbv b))] 1 0)) ?_ ?_
      ·refine r_split 39 rfl (fun hb_27=>?_) (fun hb_27=>?_)
       ·have h:=ifT hb_27 hx_26
        refine aX 3 (sT [pR 1 0,(3,.d (.bool ok5)),(5,jI i1),(39,.d (.bool true)),(40,jI i1),(42,.d (.sl 3 (List.map e35 b.Parts)))] [(0,.var 25 (pbv b))] 1 0) ?_
        refine r_lenX rfl rfl lenm ?_
        refine aX 2 (sT [pR 1 0,(3,.d (.bool ok5)),(5,jI i1),(45,.d (.bool (decide (i1<(b.Parts.length:Int)))))] [(0,.var 25 (pbv b))] 1 0) ?_
        obtain rfl:=Option.some.inj h
        refine RunC.finJ (Can.kp (by kernel_rfl))
       ·have h:=ifF hb_27 hx_26
        refine aX 6 (sT [pR 1 0,(3,.d (.bool ok5)),(5,jI i1),(45,.d (.bool false))] [(0,.var 25 (pbv b))] 1 0) ?_
        obtain rfl:=Option.some.inj h
        refine RunC.finJ (Can.kp (by kernel_rfl))
      ·refine RW.nil (hQ_25 _ ?_)
       refine AW.cond rfl (fun hb_28=>?_) (fun hb_28=>?_)
       ·have h:=ifT hb_28 h
        refine AW.skip (hK_24 _ ?_)
        refine AW.seqK (fun K_29 hK_29=>?_)
        refine AW.block ?_
        refine AW.rw ?_
        refine Au 3 (sT [pR 1 0,(5,jI i1),(49,.d (.sl 3 (List.map e35 b.Parts))),(50,jI i1)] [(0,.var 25 (pbv b))] 1 0) ?_
        obtain ⟨p1,hv_31,h⟩:=bsome h
        refine RW.one fokW (r_iaD trivial rfl rfl (ixL_ok hv_31).1 (row:=e35 p1) (mapget (ixL_ok hv_31).2) (r_end ?_))
        refine Au 2 (sT [pR 1 0,(5,jI i1),(53,jI p1.Long)] [(0,.var 25 (pbv b))] 1 0) ?_
        obtain ⟨r0_3,hx_32,h⟩:=bsome h
        refine rC (k19 p1.Long 1 12 _ hx_32) ?_
        refine Au 1 (sT [pR 1 0,(3,.d (.bool r0_3)),(5,jI i1)] [(0,.var 25 (pbv b))] 1 0) ?_
        refine RW.nil ?_
        refine hK_29 _ ?_
        refine Ra (sT [pR 1 0,(3,.d (.bool r0_3)),(5,jI (wr (i1+1)))] [(0,.var 25 (pbv b))] 1 0) ?_
        obtain rfl:=Option.some.inj h
        exact hK_23 _ _ rfl (Can.kp (by kernel_rfl))
       ·have h:=ifF hb_28 h
        refine AW.exit ?_
        obtain rfl:=Option.some.inj h
        obtain rfl:=hb_23 _ rfl
        exact hK_22 _ (Can.kp (by kernel_rfl))
     ·obtain rfl:=Option.some.inj h
      exact hK_21 _ (Can.kp (by kernel_rfl))
    ·refine AW.srwK (fun Q_33 hQ_33=>?_)
     refine Au 2 (sT [pR 1 0,(56,.d (.bool ok3))] [(0,.var 25 (pbv b))] 1 0) ?_
     obtain ⟨v4,hx_34,h⟩:=bsome h
     refine RW.cut fokW 5 ((sT [(61,.d (.bool v4))] [] 1 0)) ?_ ?_
     ·refine r_split 56 rfl (fun hb_35=>?_) (fun hb_35=>?_)
      ·have h:=ifT hb_35 hx_34
       refine aX 2 (sT [(56,.d (.bool true)),(58,.d (.sl 3 (List.map e35 b.Parts)))] [(0,.var 25 (pbv b))] 1 0) ?_
       refine r_lenX rfl rfl lenm ?_
       refine aX 2 (sT [(61,.d (.bool (decide (1<(b.Parts.length:Int)))))] [(0,.var 25 (pbv b))] 1 0) ?_
       obtain rfl:=Option.some.inj h
       refine RunC.finJ (Can.kp (by kernel_rfl))
      ·have h:=ifF hb_35 hx_34
       refine aX 5 (sT [(61,.d (.bool false))] [(0,.var 25 (pbv b))] 1 0) ?_
       obtain rfl:=Option.some.inj h
       refine RunC.finJ (Can.kp (by kernel_rfl))
     ·refine Au 1 (sT [(2,.d (.bool v4))] [] 1 0) ?_
      refine RW.nil (hQ_33 _ ?_)
      obtain rfl:=Option.some.inj h
      exact rT hR_0 (.cons (.tmp rfl) .nil)
def g20 :Option PlankBook:=some (PlankBook.mk ([(PlankWood.mk 5 []),(PlankWood.mk 8 [])]) ([(PlankShape.mk 4 [] false),(PlankShape.mk 4 [] false)]))
theorem k20  (r:PlankBook) (h:g20=some r):SCall Tryd.prog Gs 20 [] [] 0 Fr.emp (.agg (pbv r)) [] 0 Fr.emp:=by
 unfold g20 at h
 refine SCall.mkK Tryd.func20 c20 rfl rfl (by kernel_rfl) (fun Q_0 hR_0 hN_0=>?_)
 refine Sa (sT [pR 0 0] [(0,.var 25 [.d (.nilSl),.d (.nilSl)])] 1 0) ?_
 refine AW.srwK (fun Q_1 hQ_1=>?_)
 refine Au 2 (sT [pR 0 0,(1,.agg [jI 5,.d (.nilSl)]),(2,.agg [jI 8,.d (.nilSl)])] [(0,.var 25 [.d (.nilSl),.d (.nilSl)])] 1 0) ?_
 refine RW.one fokW (r_bslW (ds:=[I 5,.sl 2 [],I 8,.sl 2 []]) (ys:=List.map e32 [(PlankWood.mk 5 []),(PlankWood.mk 8 [])]) (.eq _ (.wk 2 (.eq _ (.wk 2 (.nil))))) trivial rfl rfl rfl rfl rfl rfl rfl (r_end ?_))
 refine Au 2 (sT [pR 0 0,(3,.own 1 (List.map e32 ([(PlankWood.mk 5 []),(PlankWood.mk 8 [])])).length),(4,.agg [jI 4,.d (.nilSl),.d (.bool false)]),(5,.agg [jI 4,.d (.nilSl),.d (.bool false)])] [(1,.row 32 2 (List.map e32 ([(PlankWood.mk 5 []),(PlankWood.mk 8 [])]))),(0,.var 25 [.d (.nilSl),.d (.nilSl)])] 2 0) ?_
 refine RW.one fokW (r_bslW (ds:=[I 4,.sl 1 [],.bool false,I 4,.sl 1 [],.bool false]) (ys:=List.map e35 [(PlankShape.mk 4 [] false),(PlankShape.mk 4 [] false)]) (.eq _ (.wk 1 (.eq _ (.eq _ (.wk 1 (.eq _ (.nil))))))) trivial rfl rfl rfl rfl rfl rfl rfl (r_end ?_))
 refine Au 2 (sT [pR 0 0] [(0,.var 25 [.own 1 (List.map e32 ([(PlankWood.mk 5 []),(PlankWood.mk 8 [])])).length,.own 2 (List.map e35 ([(PlankShape.mk 4 [] false),(PlankShape.mk 4 [] false)])).length]),(2,.row 35 3 (List.map e35 ([(PlankShape.mk 4 [] false),(PlankShape.mk 4 [] false)]))),(1,.row 32 2 (List.map e32 ([(PlankWood.mk 5 []),(PlankWood.mk 8 [])])))] 3 0) ?_
 refine RW.nil (hQ_1 _ ?_)
 obtain rfl:=Option.some.inj h
 exact AW.ret (hR_0 _ (retX (.cons (.agg rfl rfl (Nat.le_of_ble_eq_true rfl)) .nil) (Frz.agg_of ⟨(.own rfl rfl),(.own rfl rfl),trivial⟩) rfl (by kernel_rfl) (by kernel_rfl)))
def g23 (x:PlankBook):Option (PlankBook×(List (Plank_spot×Int))):=(mput q104 ([]:List (Plank_spot×Int)) (Plank_spot.mk (-1) (-1) (-1)) 0).bind fun m=>some (x,m)
theorem k23 (x:PlankBook) (r:PlankBook×(List (Plank_spot×Int))) (h:g23 x=some r):SCall Tryd.prog Gs 23 [.agg (pbv x)] [] 0 Fr.emp (match r with | (r0_K,m2)=>.agg (pbm r0_K (.map 2))) (match r with | (r0_K,m2)=>[(2,.mp (List.map m104_3 m2))]) 3 Fr.emp:=by
 unfold g23 at h
 refine SCall.mkK Tryd.func23 c23 rfl rfl (by kernel_rfl) (fun Q_0 hR_0 hN_0=>?_)
 refine Sa (sT [pR 1 0,pR 2 1] [(1,.var 67 [.d (.nilSl),.d (.nilSl),.d (.nilMap)]),(0,.var 25 (pbv x))] 2 0) ?_
 refine AW.sdrwK fokW (fun Q_1 hQ_1=>?_)
 refine aX 3 (sT [pR 2 1,(3,.agg (pbv x)),(4,.map 2),(5,.agg [jI (-1),jI (-1),jI (-1)])] [(2,.mp (List.map m104_3 [])),(1,.var 67 [.d (.nilSl),.d (.nilSl),.d (.nilMap)]),(0,.var 25 (pbv x))] 3 0) ?_
 obtain ⟨m,hv_2,h⟩:=bsome h
 refine r_mput q104 e104 (fun x=>DV.c (I x)) trivial rfl rfl rfl rfl ft104 q104_ok (fun _=>rfl) rfl hv_2 ?_
 refine aX 3 (sT [pR 2 1] [(1,.var 67 (pbm x (.map 2))),(2,.mp (List.map m104_3 m)),(0,.var 25 (pbv x))] 3 0) ?_
 refine Fi (sT [pR 2 1] [(1,.var 67 (pbm x (.map 2))),(2,.mp (List.map m104_3 m))] 3 0) ?_
 refine hQ_1 _ ?_
 obtain rfl:=Option.some.inj h
 exact rT hR_0 (.cons (.agg rfl rfl (Nat.le_of_ble_eq_true rfl)) .nil)
def g24 :Option Unit:=some ()
theorem k24  (r:Unit) (h:g24=some r):SCall Tryd.prog Gs 24 [] [] 0 Fr.emp (.agg [.d (.fn 54)]) [] 0 Fr.emp:=by
 unfold g24 at h
 refine SCall.mkK Tryd.func24 c24 rfl rfl (by kernel_rfl) (fun Q_0 hR_0 hN_0=>?_)
 refine Sa (sT [pR 0 0] [(0,.var 71 [.d (.nilFn)])] 1 0) ?_
 refine Sa (sT [pR 0 0] [(0,.var 71 [.d (.fn 54)])] 1 0) ?_
 obtain rfl:=Option.some.inj h
 exact rT hR_0 (.cons (.agg rfl rfl (Nat.le_of_ble_eq_true rfl)) .nil)
def g29_3 (set_:Int):(Int×(List Int))→Option (Ctl (Int×(List Int)) (List Int)):=fun  (n,l2)=>(must (decide (0≤n))).bind fun _=>bif (decide (0<(shr64 set_ n))) then ((must (decide (0≤n))).bind fun _=>bif (decide ((bAnd (shr64 set_ n) 1)=1)) then ((appL 8 l2 [n]).bind fun l3=>some (.next ((wr (n+1)),l3))) else (some (.next ((wr (n+1)),l2)))) else (some (.brk l2))
def g29 (set_:Int):Option (List Int):=((whileC (g29_3 set_) 1000 ((0,[]):Int×(List Int))).bind fun l1=>some l1).bind fun l=>some l
theorem k29 (set_:Int) (r:(List Int)) (h:g29 set_=some r):SCall Tryd.prog Gs 29 [jI set_] [] 0 Fr.emp (.d (q1 r)) [] 0 Fr.emp:=by
 unfold g29 at h
 refine SCall.mkK Tryd.func29 c29 rfl rfl (by kernel_rfl) (fun Q_0 hR_0 hN_0=>?_)
 refine Sa (sT [(0,jI set_)] [] 0 0) ?_
 refine Sa (sT [(0,jI set_),(3,.d (.nilSl))] [] 0 0) ?_
 obtain ⟨l,hx_1,h⟩:=bsome h
 refine AW.jnSK (fun (l:List Int)=>(sT [(3,.own 0 (List.map e3 l).length)] [(0,.row 3 1 (List.map e3 l))] 1 0)) (c:=l) (fun K_1 hK_1=>?_) ?_
 ·have h:=hx_1
  refine Sa (sT [(0,jI set_),(3,.d (.nilSl)),(4,jI 0)] [] 0 0) ?_
  obtain ⟨l1,hx_2,h⟩:=bsome h
  refine AW.jqSK (fun (l1:List Int)=>(sT [(3,.own 0 (List.map e3 l1).length)] [(0,.row 3 1 (List.map e3 l1))] 1 0)) (c:=l1) (fun K_2 hK_2=>?_) ?_
  ·have h:=hx_2
   refine AW.block ?_
   refine AW.whK (fun (⟨n,l2⟩:Int×(List Int))=>(sT [(0,jI set_),(3,.own 0 (List.map e3 l2).length),(4,jI n)] [(0,.row 3 1 (List.map e3 l2))] 1 0)) (g29_3 set_) h (Can.trans (Can.thawT 3 3 1 rfl rfl) (Can.kp (by kernel_rfl))) (fun s_3 c_3 h hb_3 K_3 hK_3=>?_)
   obtain ⟨n,l2⟩:=s_3
   unfold g29_3 at h
   refine AW.seqK fun K_4 hK_4=>AW.srwK fun Q_5 hQ_5=>?_
   refine Au 2 (sT [(0,jI set_),(3,.own 0 (List.map e3 l2).length),(4,jI n),(5,jI set_),(6,jI n)] [(0,.row 3 1 (List.map e3 l2))] 1 0) ?_
   obtain ⟨_,hv_6,h⟩:=bsome h
   refine RW.one fokW (r_sh trivial rfl rfl (shr64_ok (of_decide_eq_true (must_ok hv_6))) (r_end ?_))
   refine Au 1 (sT [(0,jI set_),(3,.own 0 (List.map e3 l2).length),(4,jI n),(8,.d (.bool (decide (0<(shr64 set_ n)))))] [(0,.row 3 1 (List.map e3 l2))] 1 0) ?_
   refine RW.nil (hQ_5 _ ?_)
   refine AW.cond rfl (fun hb_7=>?_) (fun hb_7=>?_)
   ·have h:=ifT hb_7 h
    refine AW.skip (hK_4 _ ?_)
    refine AW.seqK (fun K_8 hK_8=>?_)
    refine AW.block ?_
    refine AW.srwK (fun Q_9 hQ_9=>?_)
    refine Au 2 (sT [(0,jI set_),(3,.own 0 (List.map e3 l2).length),(4,jI n),(11,jI set_),(12,jI n)] [(0,.row 3 1 (List.map e3 l2))] 1 0) ?_
    obtain ⟨_,hv_10,h⟩:=bsome h
    refine RW.one fokW (r_sh trivial rfl rfl (shr64_ok (of_decide_eq_true (must_ok hv_10))) (r_end ?_))
    refine Au 2 (sT [(0,jI set_),(3,.own 0 (List.map e3 l2).length),(4,jI n),(15,.d (.bool (decide ((bAnd (shr64 set_ n) 1)=1))))] [(0,.row 3 1 (List.map e3 l2))] 1 0) ?_
    refine RW.nil (hQ_9 _ ?_)
    refine AW.cond rfl (fun hb_11=>?_) (fun hb_11=>?_)
    ·have h:=ifT hb_11 h
     refine AW.rw ?_
     refine Au 3 (sT [(0,jI set_),(4,jI n),(16,.own 0 (List.map e3 l2).length),(18,.own 1 (List.map e3 [n]).length)] [(1,.row 3 1 (List.map e3 [n])),(0,.row 3 1 (List.map e3 l2))] 2 0) ?_
     obtain ⟨l3,hv_13,h⟩:=bsome h
     refine RW.one fokW (r_apO trivial rfl rfl rfl rfl rfl rfl (apz hv_13 e3) (apr hv_13 e3) (r_end ?_))
     refine Au 1 (sT [(0,jI set_),(3,.own 0 (List.map e3 l3).length),(4,jI n)] [(0,.row 3 1 (List.map e3 l3))] 2 0) ?_
     refine RW.nil ?_
     refine hK_8 _ ?_
     refine Ra (sT [(0,jI set_),(3,.own 0 (List.map e3 l3).length),(4,jI (wr (n+1)))] [(0,.row 3 1 (List.map e3 l3))] 2 0) ?_
     obtain rfl:=Option.some.inj h
     exact hK_3 _ _ rfl (Can.kp (by kernel_rfl))
    ·have h:=ifF hb_11 h
     refine AW.skip (hK_8 _ ?_)
     refine Ra (sT [(0,jI set_),(3,.own 0 (List.map e3 l2).length),(4,jI (wr (n+1)))] [(0,.row 3 1 (List.map e3 l2))] 1 0) ?_
     obtain rfl:=Option.some.inj h
     exact hK_3 _ _ rfl (Can.kp (by kernel_rfl))
   ·have h:=ifF hb_7 h
    refine AW.exit ?_
    obtain rfl:=Option.some.inj h
    obtain rfl:=hb_3 _ rfl
    exact hK_2 _ (Can.kp (by kernel_rfl))
  ·obtain rfl:=Option.some.inj h
   exact hK_1 _ (Can.kp (by kernel_rfl))
 ·refine Sa (sT [(2,.own 0 (List.map e3 l).length)] [(0,.row 3 1 (List.map e3 l))] 1 0) ?_
  obtain rfl:=Option.some.inj h
  exact AW.ret (hR_0 _ (retX (.cons (.tmp rfl) .nil) (.own rfl rfl) rfl (by kernel_rfl) (by kernel_rfl)))
def g28 (b_K:PlankBook):Option Int:=(must (decide (0≤(b_K.Parts.length:Int)))).bind fun _=>some (wr ((shl64 1 (b_K.Parts.length:Int)) - 1))
theorem k28 (g_:Nat) (fr_:Fr) (hW_:FrW g_ WI fr_) (b_K:PlankBook) (r:Int) (h:g28 b_K=some r):SCall Tryd.prog Gs 28 [.agg (pbm b_K (.wmp g_))] [] 0 fr_ (jI r) [] 0 fr_:=by
 unfold g28 at h
 refine SCall.mkK Tryd.func28 c28 rfl rfl (by kernel_rfl) (fun Q_0 hR_0 hN_0=>?_)
 refine Sa ⟨[pR 1 0],[(0,.var 67 (pbm b_K (.wmp g_)))],1,fr_,[],0⟩ ?_
 refine AW.srwK (fun Q_1 hQ_1=>?_)
 refine Au 3 ⟨[(5,.d (.sl 3 (List.map e35 b_K.Parts)))],[],1,fr_,[],0⟩ ?_
 refine rL rfl ?_
 obtain ⟨_,hv_2,h⟩:=bsome h
 refine RW.one fokW (r_sh trivial rfl rfl (shl64_ok (of_decide_eq_true (must_ok hv_2))) (r_end ?_))
 refine Au 2 ⟨[(2,jI (wr ((shl64 1 (b_K.Parts.length:Int)) - 1)))],[],1,fr_,[],0⟩ ?_
 refine RW.nil (hQ_1 _ ?_)
 obtain rfl:=Option.some.inj h
 exact rT hR_0 (.cons (.tmp rfl) .nil)
def g69 :Option (Nat→Bool):=some (arrB [false,false,false,false,false,false,false,false,false,false,false,false,false,false,false,false])
def y1:List (Nat×Blk):=[(0,.var 118 [.d (.bool false),.d (.bool false),.d (.bool false),.d (.bool false),.d (.bool false),.d (.bool false),.d (.bool false),.d (.bool false),.d (.bool false),.d (.bool false),.d (.bool false),.d (.bool false),.d (.bool false),.d (.bool false),.d (.bool false),.d (.bool false)])]
theorem k69  (r:(Nat→Bool)) (h:g69=some r):SCall Tryd.prog Gs 69 [] [] 0 Fr.emp (.agg [.d (.bool (r 0)),.d (.bool (r 1)),.d (.bool (r 2)),.d (.bool (r 3)),.d (.bool (r 4)),.d (.bool (r 5)),.d (.bool (r 6)),.d (.bool (r 7)),.d (.bool (r 8)),.d (.bool (r 9)),.d (.bool (r 10)),.d (.bool (r 11)),.d (.bool (r 12)),.d (.bool (r 13)),.d (.bool (r 14)),.d (.bool (r 15))]) [] 0 Fr.emp:=by
 unfold g69 at h
 refine SCall.mkK Tryd.func69 c69 rfl rfl (by kernel_rfl) (fun Q_0 hR_0 hN_0=>?_)
 refine Sa (sT [pR 0 0] y1 1 0) ?_
 refine Sa (sT [pR 0 0,pR 1 1] [(1,.var 118 [.d (.bool false),.d (.bool false),.d (.bool false),.d (.bool false),.d (.bool false),.d (.bool false),.d (.bool false),.d (.bool false),.d (.bool false),.d (.bool false),.d (.bool false),.d (.bool false),.d (.bool false),.d (.bool false),.d (.bool false),.d (.bool false)]),(0,.var 118 [.d (.bool false),.d (.bool false),.d (.bool false),.d (.bool false),.d (.bool false),.d (.bool false),.d (.bool false),.d (.bool false),.d (.bool false),.d (.bool false),.d (.bool false),.d (.bool false),.d (.bool false),.d (.bool false),.d (.bool false),.d (.bool false)])] 2 0) ?_
 refine Sa (sT [pR 0 0] y1 2 0) ?_
 obtain rfl:=Option.some.inj h
 exact rT hR_0 (.cons (.agg rfl rfl (Nat.le_of_ble_eq_true rfl)) .nil)
def g67 (b_K:PlankBook) (plank:Int) (part:Int):Option (PlankBook×Int×Int):=some (b_K,plank,part)
theorem k67 (g_:Nat) (fr_:Fr) (hW_:FrW g_ WI fr_) (b_K:PlankBook) (plank:Int) (part:Int) (r:PlankBook×Int×Int) (h:g67 b_K plank part=some r):SCall Tryd.prog Gs 67 [.agg (pbm b_K (.wmp g_)),jI plank,jI part] [] 0 fr_ (match r with | (o0_K,o1,o2)=>.clo 73 [] [.ptr 0 0,.ptr 1 0,.ptr 2 0]) (match r with | (o0_K,o1,o2)=>[(0,.var 67 (pbm o0_K (.wmp g_))),(1,.var 3 [jI o1]),(2,.var 3 [jI o2])]) 3 fr_:=by
 unfold g67 at h
 refine SCall.mkK Tryd.func67 c67 rfl rfl (by kernel_rfl) (fun Q_0 hR_0 hN_0=>?_)
 refine Sa ⟨[pR 3 0,pR 4 1,pR 5 2],[(2,.var 3 [jI part]),(1,.var 3 [jI plank]),(0,.var 67 (pbm b_K (.wmp g_)))],3,fr_,[],0⟩ ?_
 refine Sa ⟨[(6,.clo 73 [] [.ptr 0 0,.ptr 1 0,.ptr 2 0])],[(2,.var 3 [jI part]),(1,.var 3 [jI plank]),(0,.var 67 (pbm b_K (.wmp g_)))],3,fr_,[],0⟩ ?_
 obtain rfl:=Option.some.inj h
 exact rT hR_0 (.cons (.tmp rfl) .nil)
def g74 (b_K:PlankBook) (s:Plank_spot):Option Bool:=(ixL b_K.Planks s.plank).bind fun p=>(ixL b_K.Parts s.part).bind fun p1=>(g48 s.at_ 0 (wr (p.Long - p1.Long))).bind fun r0=>some r0
def y2 (s:Plank_spot) (b_K:PlankBook) (g_:Nat):List (Nat×Blk):=[(1,.var 104 [jI s.plank,jI s.part,jI s.at_]),(0,.var 67 (pbm b_K (.wmp g_)))]
theorem k74 (g_:Nat) (fr_:Fr) (hW_:FrW g_ WI fr_) (b_K:PlankBook) (s:Plank_spot) (r:Bool) (h:g74 b_K s=some r):SCall Tryd.prog Gs 74 [.agg (pbm b_K (.wmp g_)),.agg [jI s.plank,jI s.part,jI s.at_]] [] 0 fr_ (.d (.bool r)) [] 0 fr_:=by
 unfold g74 at h
 refine SCall.mkK Tryd.func74 c74 rfl rfl (by kernel_rfl) (fun Q_0 hR_0 hN_0=>?_)
 refine Sa ⟨[pR 2 0,pR 3 1],(y2 s b_K g_),2,fr_,[],0⟩ ?_
 refine AW.sdrwK fokW (fun Q_1 hQ_1=>?_)
 refine aX 7 ⟨[pR 2 0,pR 3 1,(6,jI s.at_),(9,.d (.sl 2 (List.map e32 b_K.Planks))),(11,jI s.plank)],(y2 s b_K g_),2,fr_,[],0⟩ ?_
 obtain ⟨p,hv_2,h⟩:=bsome h
 refine r_iaD trivial rfl rfl (ixL_ok hv_2).1 (row:=e32 p) (mapget (ixL_ok hv_2).2) ?_
 refine aX 7 ⟨[(6,jI s.at_),(14,jI p.Long),(17,.d (.sl 3 (List.map e35 b_K.Parts))),(19,jI s.part)],(y2 s b_K g_),2,fr_,[],0⟩ ?_
 obtain ⟨p1,hv_3,h⟩:=bsome h
 refine r_iaD trivial rfl rfl (ixL_ok hv_3).1 (row:=e35 p1) (mapget (ixL_ok hv_3).2) ?_
 refine aX 3 ⟨[(6,jI s.at_),(23,jI (wr (p.Long - p1.Long)))],(y2 s b_K g_),2,fr_,[],0⟩ ?_
 obtain ⟨r0,hx_4,h⟩:=bsome h
 refine r_call trivial rfl (k48 s.at_ 0 (wr (p.Long - p1.Long)) _ hx_4) rfl rfl ?_
 refine aX 1 ⟨[(4,.d (.bool r0))],(y2 s b_K g_),2,fr_,[],0⟩ ?_
 refine Fi ⟨[(4,.d (.bool r0))],[],2,fr_,[],0⟩ ?_
 refine hQ_1 _ ?_
 obtain rfl:=Option.some.inj h
 exact rT hR_0 (.cons (.tmp rfl) .nil)
def g79_7 (s:Plank_spot) (turned:Bool) (p:PlankShape):Int→Int→(Nat→Bool)→Option (Nat→Bool):=fun v p1 l=>bif turned then ((ixN 16 (wr (s.at_+(wr ((wr (p.Long - 1)) - p1))))).bind fun j=>some (aset l j true)) else ((ixN 16 (wr (s.at_+p1))).bind fun j1=>some (aset l j1 true))
def g79 (b_K:PlankBook) (s:Plank_spot) (turned:Bool) (m0:List (Plank_spot×Int)):Option (Nat→Bool):=(g69).bind fun r0=>(ixL b_K.Parts s.part).bind fun p=>(eachS (g79_7 s turned p) p.Joints 0 r0).bind fun l=>some l
theorem k79 (b_K:PlankBook) (s:Plank_spot) (turned:Bool) (m0:List (Plank_spot×Int)) (r:(Nat→Bool)) (h:g79 b_K s turned m0=some r):SCall Tryd.prog Gs 79 [.agg (pbm b_K (.map 0)),.agg [jI s.plank,jI s.part,jI s.at_],.d (.bool turned)] [(0,.mp (List.map m104_3 m0))] 1 Fr.emp (.agg [.d (.bool (r 0)),.d (.bool (r 1)),.d (.bool (r 2)),.d (.bool (r 3)),.d (.bool (r 4)),.d (.bool (r 5)),.d (.bool (r 6)),.d (.bool (r 7)),.d (.bool (r 8)),.d (.bool (r 9)),.d (.bool (r 10)),.d (.bool (r 11)),.d (.bool (r 12)),.d (.bool (r 13)),.d (.bool (r 14)),.d (.bool (r 15))]) [(0,.mp (List.map m104_3 m0))] 1 Fr.emp:=by
 unfold g79 at h
 refine SCall.mkK Tryd.func79 c79 rfl rfl (by kernel_rfl) (fun Q_0 hR_0 hN_0=>?_)
 refine Sa (sT [(2,.d (.bool turned)),pR 3 1,pR 4 2,pR 6 3] [(3,.var 118 [.d (.bool false),.d (.bool false),.d (.bool false),.d (.bool false),.d (.bool false),.d (.bool false),.d (.bool false),.d (.bool false),.d (.bool false),.d (.bool false),.d (.bool false),.d (.bool false),.d (.bool false),.d (.bool false),.d (.bool false),.d (.bool false)]),(2,.var 104 [jI s.plank,jI s.part,jI s.at_]),(1,.var 67 (pbm b_K (.map 0))),(0,.mp (List.map m104_3 m0))] 4 1) ?_
 refine AW.srwK (fun Q_1 hQ_1=>?_)
 obtain ⟨r0,hx_2,h⟩:=bsome h
 refine rC (k69 _ hx_2) ?_
 refine Au 2 (sT [(2,.d (.bool turned)),pR 3 1,pR 4 2,pR 6 3,pR 7 4] [(4,.var 118 [.d (.bool (r0 0)),.d (.bool (r0 1)),.d (.bool (r0 2)),.d (.bool (r0 3)),.d (.bool (r0 4)),.d (.bool (r0 5)),.d (.bool (r0 6)),.d (.bool (r0 7)),.d (.bool (r0 8)),.d (.bool (r0 9)),.d (.bool (r0 10)),.d (.bool (r0 11)),.d (.bool (r0 12)),.d (.bool (r0 13)),.d (.bool (r0 14)),.d (.bool (r0 15))]),(3,.var 118 [.d (.bool false),.d (.bool false),.d (.bool false),.d (.bool false),.d (.bool false),.d (.bool false),.d (.bool false),.d (.bool false),.d (.bool false),.d (.bool false),.d (.bool false),.d (.bool false),.d (.bool false),.d (.bool false),.d (.bool false),.d (.bool false)]),(2,.var 104 [jI s.plank,jI s.part,jI s.at_]),(1,.var 67 (pbm b_K (.map 0))),(0,.mp (List.map m104_3 m0))] 5 1) ?_
 refine RW.nil (hQ_1 _ ?_)
 refine AW.srwK (fun Q_3 hQ_3=>?_)
 refine Au 5 (sT [(2,.d (.bool turned)),pR 4 2,pR 6 3,pR 7 4,(14,.d (.sl 3 (List.map e35 b_K.Parts))),(16,jI s.part)] [(4,.var 118 [.d (.bool (r0 0)),.d (.bool (r0 1)),.d (.bool (r0 2)),.d (.bool (r0 3)),.d (.bool (r0 4)),.d (.bool (r0 5)),.d (.bool (r0 6)),.d (.bool (r0 7)),.d (.bool (r0 8)),.d (.bool (r0 9)),.d (.bool (r0 10)),.d (.bool (r0 11)),.d (.bool (r0 12)),.d (.bool (r0 13)),.d (.bool (r0 14)),.d (.bool (r0 15))]),(3,.var 118 [.d (.bool false),.d (.bool false),.d (.bool false),.d (.bool false),.d (.bool false),.d (.bool false),.d (.bool false),.d (.bool false),.d (.bool false),.d (.bool false),.d (.bool false),.d (.bool false),.d (.bool false),.d (.bool false),.d (.bool false),.d (.bool false)]),(2,.var 104 [jI s.plank,jI s.part,jI s.at_]),(0,.mp (List.map m104_3 m0))] 5 1) ?_
 obtain ⟨p,hv_4,h⟩:=bsome h
 refine RW.one fokW (r_iaD trivial rfl rfl (ixL_ok hv_4).1 (row:=e35 p) (mapget (ixL_ok hv_4).2) (r_end ?_))
 refine Au 3 (sT [(2,.d (.bool turned)),pR 4 2,pR 6 3,pR 7 4,pR 8 5] [(5,.var 35 [jI p.Long,.d (q1 p.Joints),.d (.bool p.Turns)]),(4,.var 118 [.d (.bool (r0 0)),.d (.bool (r0 1)),.d (.bool (r0 2)),.d (.bool (r0 3)),.d (.bool (r0 4)),.d (.bool (r0 5)),.d (.bool (r0 6)),.d (.bool (r0 7)),.d (.bool (r0 8)),.d (.bool (r0 9)),.d (.bool (r0 10)),.d (.bool (r0 11)),.d (.bool (r0 12)),.d (.bool (r0 13)),.d (.bool (r0 14)),.d (.bool (r0 15))]),(3,.var 118 [.d (.bool false),.d (.bool false),.d (.bool false),.d (.bool false),.d (.bool false),.d (.bool false),.d (.bool false),.d (.bool false),.d (.bool false),.d (.bool false),.d (.bool false),.d (.bool false),.d (.bool false),.d (.bool false),.d (.bool false),.d (.bool false)]),(2,.var 104 [jI s.plank,jI s.part,jI s.at_]),(0,.mp (List.map m104_3 m0))] 6 1) ?_
 refine RW.nil (hQ_3 _ ?_)
 refine AW.seqK fun K_5 hK_5=>AW.srwK fun Q_6 hQ_6=>?_
 refine Au 2 (sT [(2,.d (.bool turned)),pR 4 2,pR 6 3,pR 7 4,pR 8 5,(20,.d (q1 p.Joints))] [(5,.var 35 [jI p.Long,.d (q1 p.Joints),.d (.bool p.Turns)]),(4,.var 118 [.d (.bool (r0 0)),.d (.bool (r0 1)),.d (.bool (r0 2)),.d (.bool (r0 3)),.d (.bool (r0 4)),.d (.bool (r0 5)),.d (.bool (r0 6)),.d (.bool (r0 7)),.d (.bool (r0 8)),.d (.bool (r0 9)),.d (.bool (r0 10)),.d (.bool (r0 11)),.d (.bool (r0 12)),.d (.bool (r0 13)),.d (.bool (r0 14)),.d (.bool (r0 15))]),(3,.var 118 [.d (.bool false),.d (.bool false),.d (.bool false),.d (.bool false),.d (.bool false),.d (.bool false),.d (.bool false),.d (.bool false),.d (.bool false),.d (.bool false),.d (.bool false),.d (.bool false),.d (.bool false),.d (.bool false),.d (.bool false),.d (.bool false)]),(2,.var 104 [jI s.plank,jI s.part,jI s.at_]),(0,.mp (List.map m104_3 m0))] 6 1) ?_
 refine rL rfl ?_
 refine Au 1 (sT [(2,.d (.bool turned)),pR 4 2,pR 6 3,pR 7 4,pR 8 5,(20,.d (q1 p.Joints)),(21,jI (p.Joints.length:Int)),(22,jI 0)] [(5,.var 35 [jI p.Long,.d (q1 p.Joints),.d (.bool p.Turns)]),(4,.var 118 [.d (.bool (r0 0)),.d (.bool (r0 1)),.d (.bool (r0 2)),.d (.bool (r0 3)),.d (.bool (r0 4)),.d (.bool (r0 5)),.d (.bool (r0 6)),.d (.bool (r0 7)),.d (.bool (r0 8)),.d (.bool (r0 9)),.d (.bool (r0 10)),.d (.bool (r0 11)),.d (.bool (r0 12)),.d (.bool (r0 13)),.d (.bool (r0 14)),.d (.bool (r0 15))]),(3,.var 118 [.d (.bool false),.d (.bool false),.d (.bool false),.d (.bool false),.d (.bool false),.d (.bool false),.d (.bool false),.d (.bool false),.d (.bool false),.d (.bool false),.d (.bool false),.d (.bool false),.d (.bool false),.d (.bool false),.d (.bool false),.d (.bool false)]),(2,.var 104 [jI s.plank,jI s.part,jI s.at_]),(0,.mp (List.map m104_3 m0))] 6 1) ?_
 refine RW.nil (hQ_6 _ ?_)
 refine AW.block ?_
 refine AW.sln (t:=20) rfl (fun hN_7=>?_)
 rw [List.length_map] at hN_7
 obtain ⟨out_7,hx_7,h⟩:=bsome h
 refine AW.evSK (fun (v:Int) (l:(Nat→Bool))=>(sT [(2,.d (.bool turned)),pR 4 2,pR 6 3,pR 7 4,pR 8 5,(20,.d (q1 p.Joints)),(21,jI (p.Joints.length:Int)),(22,jI v)] [(5,.var 35 [jI p.Long,.d (q1 p.Joints),.d (.bool p.Turns)]),(4,.var 118 [.d (.bool (l 0)),.d (.bool (l 1)),.d (.bool (l 2)),.d (.bool (l 3)),.d (.bool (l 4)),.d (.bool (l 5)),.d (.bool (l 6)),.d (.bool (l 7)),.d (.bool (l 8)),.d (.bool (l 9)),.d (.bool (l 10)),.d (.bool (l 11)),.d (.bool (l 12)),.d (.bool (l 13)),.d (.bool (l 14)),.d (.bool (l 15))]),(3,.var 118 [.d (.bool false),.d (.bool false),.d (.bool false),.d (.bool false),.d (.bool false),.d (.bool false),.d (.bool false),.d (.bool false),.d (.bool false),.d (.bool false),.d (.bool false),.d (.bool false),.d (.bool false),.d (.bool false),.d (.bool false),.d (.bool false)]),(2,.var 104 [jI s.plank,jI s.part,jI s.at_]),(0,.mp (List.map m104_3 m0))] 6 1)) (g79_7 s turned p) hx_7 (Can.kp (by kernel_rfl)) (fun v p1 l hi_7 hl_7 hp_7 c_7 h K_7 hK_7=>?_) (fun v l hi_7 hl_7 hout=>?_)
 ·unfold g79_7 at h
  refine Sa (sT [(2,.d (.bool turned)),pR 4 2,pR 6 3,pR 7 4,pR 8 5,(20,.d (q1 p.Joints)),(21,jI (p.Joints.length:Int)),(22,jI v),(23,.d (.bool (decide (v<(p.Joints.length:Int)))))] [(5,.var 35 [jI p.Long,.d (q1 p.Joints),.d (.bool p.Turns)]),(4,.var 118 [.d (.bool (l 0)),.d (.bool (l 1)),.d (.bool (l 2)),.d (.bool (l 3)),.d (.bool (l 4)),.d (.bool (l 5)),.d (.bool (l 6)),.d (.bool (l 7)),.d (.bool (l 8)),.d (.bool (l 9)),.d (.bool (l 10)),.d (.bool (l 11)),.d (.bool (l 12)),.d (.bool (l 13)),.d (.bool (l 14)),.d (.bool (l 15))]),(3,.var 118 [.d (.bool false),.d (.bool false),.d (.bool false),.d (.bool false),.d (.bool false),.d (.bool false),.d (.bool false),.d (.bool false),.d (.bool false),.d (.bool false),.d (.bool false),.d (.bool false),.d (.bool false),.d (.bool false),.d (.bool false),.d (.bool false)]),(2,.var 104 [jI s.plank,jI s.part,jI s.at_]),(0,.mp (List.map m104_3 m0))] 6 1) ?_
  refine AW.seqK (fun K_8 hK_8=>?_)
  refine AW.cond rfl (fun hb_9=>?_) (fun hb_9=>False.elim (by have:=of_decide_eq_false hb_9;omega))
  refine AW.skip (hK_8 _ ?_)
  refine AW.seqK (fun K_10 hK_10=>?_)
  refine AW.block ?_
  refine AW.srwK (fun Q_11 hQ_11=>?_)
  refine RW.one fokW (r_iaD trivial rfl rfl hi_7 (row:=e3 p1) (mapget hp_7) (r_end ?_))
  refine Au 2 (sT [(2,.d (.bool turned)),pR 4 2,pR 6 3,pR 7 4,pR 8 5,(10,jI p1),(20,.d (q1 p.Joints)),(21,jI (p.Joints.length:Int)),(22,jI v)] [(5,.var 35 [jI p.Long,.d (q1 p.Joints),.d (.bool p.Turns)]),(4,.var 118 [.d (.bool (l 0)),.d (.bool (l 1)),.d (.bool (l 2)),.d (.bool (l 3)),.d (.bool (l 4)),.d (.bool (l 5)),.d (.bool (l 6)),.d (.bool (l 7)),.d (.bool (l 8)),.d (.bool (l 9)),.d (.bool (l 10)),.d (.bool (l 11)),.d (.bool (l 12)),.d (.bool (l 13)),.d (.bool (l 14)),.d (.bool (l 15))]),(3,.var 118 [.d (.bool false),.d (.bool false),.d (.bool false),.d (.bool false),.d (.bool false),.d (.bool false),.d (.bool false),.d (.bool false),.d (.bool false),.d (.bool false),.d (.bool false),.d (.bool false),.d (.bool false),.d (.bool false),.d (.bool false),.d (.bool false)]),(2,.var 104 [jI s.plank,jI s.part,jI s.at_]),(0,.mp (List.map m104_3 m0))] 6 1) ?_
  refine RW.nil (hQ_11 _ ?_)
  refine AW.seqK (fun K_12 hK_12=>?_)
  refine Sa (sT [(2,.d (.bool turned)),pR 4 2,pR 6 3,pR 7 4,pR 8 5,(10,jI p1),(20,.d (q1 p.Joints)),(21,jI (p.Joints.length:Int)),(22,jI v),(26,.d (.bool turned))] [(5,.var 35 [jI p.Long,.d (q1 p.Joints),.d (.bool p.Turns)]),(4,.var 118 [.d (.bool (l 0)),.d (.bool (l 1)),.d (.bool (l 2)),.d (.bool (l 3)),.d (.bool (l 4)),.d (.bool (l 5)),.d (.bool (l 6)),.d (.bool (l 7)),.d (.bool (l 8)),.d (.bool (l 9)),.d (.bool (l 10)),.d (.bool (l 11)),.d (.bool (l 12)),.d (.bool (l 13)),.d (.bool (l 14)),.d (.bool (l 15))]),(3,.var 118 [.d (.bool false),.d (.bool false),.d (.bool false),.d (.bool false),.d (.bool false),.d (.bool false),.d (.bool false),.d (.bool false),.d (.bool false),.d (.bool false),.d (.bool false),.d (.bool false),.d (.bool false),.d (.bool false),.d (.bool false),.d (.bool false)]),(2,.var 104 [jI s.plank,jI s.part,jI s.at_]),(0,.mp (List.map m104_3 m0))] 6 1) ?_
  refine AW.cond rfl (fun hb_13=>?_) (fun hb_13=>?_)
  ·have h:=ifT hb_13 h
   refine Ra (sT [(2,.d (.bool turned)),pR 4 2,pR 6 3,pR 7 4,pR 8 5,(10,jI (wr ((wr (p.Long - 1)) - p1))),(20,.d (q1 p.Joints)),(21,jI (p.Joints.length:Int)),(22,jI v)] [(5,.var 35 [jI p.Long,.d (q1 p.Joints),.d (.bool p.Turns)]),(4,.var 118 [.d (.bool (l 0)),.d (.bool (l 1)),.d (.bool (l 2)),.d (.bool (l 3)),.d (.bool (l 4)),.d (.bool (l 5)),.d (.bool (l 6)),.d (.bool (l 7)),.d (.bool (l 8)),.d (.bool (l 9)),.d (.bool (l 10)),.d (.bool (l 11)),.d (.bool (l 12)),.d (.bool (l 13)),.d (.bool (l 14)),.d (.bool (l 15))]),(3,.var 118 [.d (.bool false),.d (.bool false),.d (.bool false),.d (.bool false),.d (.bool false),.d (.bool false),.d (.bool false),.d (.bool false),.d (.bool false),.d (.bool false),.d (.bool false),.d (.bool false),.d (.bool false),.d (.bool false),.d (.bool false),.d (.bool false)]),(2,.var 104 [jI s.plank,jI s.part,jI s.at_]),(0,.mp (List.map m104_3 m0))] 6 1) ?_
   refine hK_12 _ ?_
   refine AW.rw ?_
   refine Au 4 (sT [(2,.d (.bool turned)),pR 4 2,pR 6 3,pR 7 4,pR 8 5,(20,.d (q1 p.Joints)),(21,jI (p.Joints.length:Int)),(22,jI v),(35,jI (wr (s.at_+(wr ((wr (p.Long - 1)) - p1)))))] [(5,.var 35 [jI p.Long,.d (q1 p.Joints),.d (.bool p.Turns)]),(4,.var 118 [.d (.bool (l 0)),.d (.bool (l 1)),.d (.bool (l 2)),.d (.bool (l 3)),.d (.bool (l 4)),.d (.bool (l 5)),.d (.bool (l 6)),.d (.bool (l 7)),.d (.bool (l 8)),.d (.bool (l 9)),.d (.bool (l 10)),.d (.bool (l 11)),.d (.bool (l 12)),.d (.bool (l 13)),.d (.bool (l 14)),.d (.bool (l 15))]),(3,.var 118 [.d (.bool false),.d (.bool false),.d (.bool false),.d (.bool false),.d (.bool false),.d (.bool false),.d (.bool false),.d (.bool false),.d (.bool false),.d (.bool false),.d (.bool false),.d (.bool false),.d (.bool false),.d (.bool false),.d (.bool false),.d (.bool false)]),(2,.var 104 [jI s.plank,jI s.part,jI s.at_]),(0,.mp (List.map m104_3 m0))] 6 1) ?_
   obtain ⟨j,hv_15,h⟩:=bsome h
   refine RW.one fokW (r_iaV trivial rfl rfl rfl (ixN_ok hv_15).1 (ixN_ok hv_15).2.1 (r_end ?_))
   refine RW.one fokW (r_stX trivial rfl rfl rfl rfl rfl (aslot hv_15 rfl) (cs':=[.d (.bool ((aset l j true) 0)),.d (.bool ((aset l j true) 1)),.d (.bool ((aset l j true) 2)),.d (.bool ((aset l j true) 3)),.d (.bool ((aset l j true) 4)),.d (.bool ((aset l j true) 5)),.d (.bool ((aset l j true) 6)),.d (.bool ((aset l j true) 7)),.d (.bool ((aset l j true) 8)),.d (.bool ((aset l j true) 9)),.d (.bool ((aset l j true) 10)),.d (.bool ((aset l j true) 11)),.d (.bool ((aset l j true) 12)),.d (.bool ((aset l j true) 13)),.d (.bool ((aset l j true) 14)),.d (.bool ((aset l j true) 15))]) (ast (w:=l) (c:=fun z=>.d (.bool z)) hv_15) (r_end ?_))
   refine RW.nil ?_
   refine hK_10 _ ?_
   refine Ra (sT [(2,.d (.bool turned)),pR 4 2,pR 6 3,pR 7 4,pR 8 5,(20,.d (q1 p.Joints)),(21,jI (p.Joints.length:Int)),(22,jI (wr (v+1)))] [(4,.var 118 [.d (.bool ((aset l j true) 0)),.d (.bool ((aset l j true) 1)),.d (.bool ((aset l j true) 2)),.d (.bool ((aset l j true) 3)),.d (.bool ((aset l j true) 4)),.d (.bool ((aset l j true) 5)),.d (.bool ((aset l j true) 6)),.d (.bool ((aset l j true) 7)),.d (.bool ((aset l j true) 8)),.d (.bool ((aset l j true) 9)),.d (.bool ((aset l j true) 10)),.d (.bool ((aset l j true) 11)),.d (.bool ((aset l j true) 12)),.d (.bool ((aset l j true) 13)),.d (.bool ((aset l j true) 14)),.d (.bool ((aset l j true) 15))]),(5,.var 35 [jI p.Long,.d (q1 p.Joints),.d (.bool p.Turns)]),(3,.var 118 [.d (.bool false),.d (.bool false),.d (.bool false),.d (.bool false),.d (.bool false),.d (.bool false),.d (.bool false),.d (.bool false),.d (.bool false),.d (.bool false),.d (.bool false),.d (.bool false),.d (.bool false),.d (.bool false),.d (.bool false),.d (.bool false)]),(2,.var 104 [jI s.plank,jI s.part,jI s.at_]),(0,.mp (List.map m104_3 m0))] 6 1) ?_
   obtain rfl:=Option.some.inj h
   have ew:wr (v+1)=v+1:=inext (N:=(p.Joints.length:Int)) (by omega) (by omega) (by omega)
   rw [ew]
   exact hK_7 _ (Can.kp (by kernel_rfl))
  ·have h:=ifF hb_13 h
   refine AW.skip (hK_12 _ ?_)
   refine AW.rw ?_
   refine Au 4 (sT [(2,.d (.bool turned)),pR 4 2,pR 6 3,pR 7 4,pR 8 5,(20,.d (q1 p.Joints)),(21,jI (p.Joints.length:Int)),(22,jI v),(35,jI (wr (s.at_+p1)))] [(5,.var 35 [jI p.Long,.d (q1 p.Joints),.d (.bool p.Turns)]),(4,.var 118 [.d (.bool (l 0)),.d (.bool (l 1)),.d (.bool (l 2)),.d (.bool (l 3)),.d (.bool (l 4)),.d (.bool (l 5)),.d (.bool (l 6)),.d (.bool (l 7)),.d (.bool (l 8)),.d (.bool (l 9)),.d (.bool (l 10)),.d (.bool (l 11)),.d (.bool (l 12)),.d (.bool (l 13)),.d (.bool (l 14)),.d (.bool (l 15))]),(3,.var 118 [.d (.bool false),.d (.bool false),.d (.bool false),.d (.bool false),.d (.bool false),.d (.bool false),.d (.bool false),.d (.bool false),.d (.bool false),.d (.bool false),.d (.bool false),.d (.bool false),.d (.bool false),.d (.bool false),.d (.bool false),.d (.bool false)]),(2,.var 104 [jI s.plank,jI s.part,jI s.at_]),(0,.mp (List.map m104_3 m0))] 6 1) ?_
   obtain ⟨j1,hv_17,h⟩:=bsome h
   refine RW.one fokW (r_iaV trivial rfl rfl rfl (ixN_ok hv_17).1 (ixN_ok hv_17).2.1 (r_end ?_))
   refine RW.one fokW (r_stX trivial rfl rfl rfl rfl rfl (aslot hv_17 rfl) (cs':=[.d (.bool ((aset l j1 true) 0)),.d (.bool ((aset l j1 true) 1)),.d (.bool ((aset l j1 true) 2)),.d (.bool ((aset l j1 true) 3)),.d (.bool ((aset l j1 true) 4)),.d (.bool ((aset l j1 true) 5)),.d (.bool ((aset l j1 true) 6)),.d (.bool ((aset l j1 true) 7)),.d (.bool ((aset l j1 true) 8)),.d (.bool ((aset l j1 true) 9)),.d (.bool ((aset l j1 true) 10)),.d (.bool ((aset l j1 true) 11)),.d (.bool ((aset l j1 true) 12)),.d (.bool ((aset l j1 true) 13)),.d (.bool ((aset l j1 true) 14)),.d (.bool ((aset l j1 true) 15))]) (ast (w:=l) (c:=fun z=>.d (.bool z)) hv_17) (r_end ?_))
   refine RW.nil ?_
   refine hK_10 _ ?_
   refine Ra (sT [(2,.d (.bool turned)),pR 4 2,pR 6 3,pR 7 4,pR 8 5,(20,.d (q1 p.Joints)),(21,jI (p.Joints.length:Int)),(22,jI (wr (v+1)))] [(4,.var 118 [.d (.bool ((aset l j1 true) 0)),.d (.bool ((aset l j1 true) 1)),.d (.bool ((aset l j1 true) 2)),.d (.bool ((aset l j1 true) 3)),.d (.bool ((aset l j1 true) 4)),.d (.bool ((aset l j1 true) 5)),.d (.bool ((aset l j1 true) 6)),.d (.bool ((aset l j1 true) 7)),.d (.bool ((aset l j1 true) 8)),.d (.bool ((aset l j1 true) 9)),.d (.bool ((aset l j1 true) 10)),.d (.bool ((aset l j1 true) 11)),.d (.bool ((aset l j1 true) 12)),.d (.bool ((aset l j1 true) 13)),.d (.bool ((aset l j1 true) 14)),.d (.bool ((aset l j1 true) 15))]),(5,.var 35 [jI p.Long,.d (q1 p.Joints),.d (.bool p.Turns)]),(3,.var 118 [.d (.bool false),.d (.bool false),.d (.bool false),.d (.bool false),.d (.bool false),.d (.bool false),.d (.bool false),.d (.bool false),.d (.bool false),.d (.bool false),.d (.bool false),.d (.bool false),.d (.bool false),.d (.bool false),.d (.bool false),.d (.bool false)]),(2,.var 104 [jI s.plank,jI s.part,jI s.at_]),(0,.mp (List.map m104_3 m0))] 6 1) ?_
   obtain rfl:=Option.some.inj h
   have ew:wr (v+1)=v+1:=inext (N:=(p.Joints.length:Int)) (by omega) (by omega) (by omega)
   rw [ew]
   exact hK_7 _ (Can.kp (by kernel_rfl))
 ·subst hout
  refine Sa (sT [(2,.d (.bool turned)),pR 4 2,pR 6 3,pR 7 4,pR 8 5,(20,.d (q1 p.Joints)),(21,jI (p.Joints.length:Int)),(22,jI v),(23,.d (.bool (decide (v<(p.Joints.length:Int)))))] [(5,.var 35 [jI p.Long,.d (q1 p.Joints),.d (.bool p.Turns)]),(4,.var 118 [.d (.bool (l 0)),.d (.bool (l 1)),.d (.bool (l 2)),.d (.bool (l 3)),.d (.bool (l 4)),.d (.bool (l 5)),.d (.bool (l 6)),.d (.bool (l 7)),.d (.bool (l 8)),.d (.bool (l 9)),.d (.bool (l 10)),.d (.bool (l 11)),.d (.bool (l 12)),.d (.bool (l 13)),.d (.bool (l 14)),.d (.bool (l 15))]),(3,.var 118 [.d (.bool false),.d (.bool false),.d (.bool false),.d (.bool false),.d (.bool false),.d (.bool false),.d (.bool false),.d (.bool false),.d (.bool false),.d (.bool false),.d (.bool false),.d (.bool false),.d (.bool false),.d (.bool false),.d (.bool false),.d (.bool false)]),(2,.var 104 [jI s.plank,jI s.part,jI s.at_]),(0,.mp (List.map m104_3 m0))] 6 1) ?_
  refine AW.seqK (fun K_18 hK_18=>?_)
  refine AW.cond rfl (fun hb_19=>False.elim (by have:=of_decide_eq_true hb_19;omega)) (fun hb_19=>?_)
  refine AW.exit ?_
  refine hK_5 _ ?_
  refine Sa (sT [pR 6 3] [(3,.var 118 [.d (.bool (l 0)),.d (.bool (l 1)),.d (.bool (l 2)),.d (.bool (l 3)),.d (.bool (l 4)),.d (.bool (l 5)),.d (.bool (l 6)),.d (.bool (l 7)),.d (.bool (l 8)),.d (.bool (l 9)),.d (.bool (l 10)),.d (.bool (l 11)),.d (.bool (l 12)),.d (.bool (l 13)),.d (.bool (l 14)),.d (.bool (l 15))]),(0,.mp (List.map m104_3 m0))] 6 1) ?_
  obtain rfl:=Option.some.inj h
  exact rT hR_0 (.cons (.agg rfl rfl (Nat.le_of_ble_eq_true rfl)) .nil)
def g76_3 (v:Bool):Int→Bool→Unit→Option (Ctl (Unit) (Int)):=fun v1 p _=>bif (false != (v==p)) then (some (.brk v1)) else (some (.next ()))
def g76 (s:(List Bool)) (v:Bool):Option Int:=bindC (eachC (g76_3 v) s 0 ()) fun _=>some (-1)
theorem k76 (s:(List Bool)) (v:Bool) (r:Int) (h:g76 s v=some r):SCall Tryd.prog Gs 76 [.d (.sl 1 (List.map e4 s)),.d (.bool v)] [] 0 Fr.emp (jI r) [] 0 Fr.emp:=by
 unfold g76 at h
 refine SCall.mkK Tryd.func76 c76 rfl rfl (by kernel_rfl) (fun Q_0 hR_0 hN_0=>?_)
 refine Sa (sT [(0,.d (.sl 1 (List.map e4 s))),(1,.d (.bool v))] [] 0 0) ?_
 refine AW.seqK fun K_1 hK_1=>AW.srwK fun Q_2 hQ_2=>?_
 refine Au 1 (sT [(0,.d (.sl 1 (List.map e4 s))),(1,.d (.bool v)),(6,.d (.sl 1 (List.map e4 s)))] [] 0 0) ?_
 refine rL rfl ?_
 refine Au 1 (sT [(0,.d (.sl 1 (List.map e4 s))),(1,.d (.bool v)),(7,jI (s.length:Int)),(8,jI 0)] [] 0 0) ?_
 refine RW.nil (hQ_2 _ ?_)
 refine AW.block ?_
 refine AW.sln (t:=0) rfl (fun hN_3=>?_)
 rw [List.length_map] at hN_3
 obtain ⟨out_3,hx_3,hk_3⟩:=bsomeC h
 refine AW.evCK (fun (v1:Int) (_:Unit)=>(sT [(0,.d (.sl 1 (List.map e4 s))),(1,.d (.bool v)),(7,jI (s.length:Int)),(8,jI v1)] [] 0 0)) (g76_3 v) hx_3 (Can.kp (by kernel_rfl)) (fun v1 p s_3 hi_3 hl_3 hp_3 c_3 h hb_3 K_3 hK_3=>?_) (fun v1 s_3 hi_3 hl_3 hout=>?_)
 ·unfold g76_3 at h
  refine Sa (sT [(0,.d (.sl 1 (List.map e4 s))),(1,.d (.bool v)),(7,jI (s.length:Int)),(8,jI v1),(9,.d (.bool (decide (v1<(s.length:Int)))))] [] 0 0) ?_
  refine AW.seqK (fun K_4 hK_4=>?_)
  refine AW.cond rfl (fun hb_5=>?_) (fun hb_5=>False.elim (by have:=of_decide_eq_false hb_5;omega))
  refine AW.skip (hK_4 _ ?_)
  refine AW.seqK (fun K_6 hK_6=>?_)
  refine AW.block ?_
  refine Sa (sT [(0,.d (.sl 1 (List.map e4 s))),(1,.d (.bool v)),(5,jI v1),(7,jI (s.length:Int)),(8,jI v1)] [] 0 0) ?_
  refine AW.srwK (fun Q_7 hQ_7=>?_)
  refine Au 3 (sT [(0,.d (.sl 1 (List.map e4 s))),(1,.d (.bool v)),(5,jI v1),(7,jI (s.length:Int)),(8,jI v1),(11,.d (.bool v)),(12,.d (.sl 1 (List.map e4 s))),(13,jI v1)] [] 0 0) ?_
  refine RW.one fokW (r_iaD trivial rfl rfl hi_3 (row:=e4 p) (mapget hp_3) (r_end ?_))
  refine Au 2 (sT [(0,.d (.sl 1 (List.map e4 s))),(1,.d (.bool v)),(5,jI v1),(7,jI (s.length:Int)),(8,jI v1),(16,.d (.bool (false != (v==p))))] [] 0 0) ?_
  refine RW.nil (hQ_7 _ ?_)
  refine AW.cond rfl (fun hb_8=>?_) (fun hb_8=>?_)
  ·have h:=ifT hb_8 h
   refine Sa (sT [(4,jI v1)] [] 0 0) ?_
   obtain rfl:=Option.some.inj h
   have e_1:=hb_3 _ rfl
   subst e_1
   obtain rfl:=Aft.bk hk_3
   exact rT hR_0 (.cons (.tmp rfl) .nil)
  ·have h:=ifF hb_8 h
   refine AW.skip (hK_6 _ ?_)
   refine Ra (sT [(0,.d (.sl 1 (List.map e4 s))),(1,.d (.bool v)),(7,jI (s.length:Int)),(8,jI (wr (v1+1)))] [] 0 0) ?_
   obtain rfl:=Option.some.inj h
   have ew:wr (v1+1)=v1+1:=inext (N:=(s.length:Int)) (by omega) (by omega) (by omega)
   rw [ew]
   exact hK_3 _ _ rfl (Can.kp (by kernel_rfl))
 ·subst hout
  have h:=Aft.nx hk_3
  refine Sa (sT [(0,.d (.sl 1 (List.map e4 s))),(1,.d (.bool v)),(7,jI (s.length:Int)),(8,jI v1),(9,.d (.bool (decide (v1<(s.length:Int)))))] [] 0 0) ?_
  refine AW.seqK (fun K_9 hK_9=>?_)
  refine AW.cond rfl (fun hb_10=>False.elim (by have:=of_decide_eq_true hb_10;omega)) (fun hb_10=>?_)
  refine AW.exit ?_
  refine hK_1 _ ?_
  refine Sa (sT [(4,jI (-1))] [] 0 0) ?_
  obtain rfl:=Option.some.inj h
  exact rT hR_0 (.cons (.tmp rfl) .nil)
def g68 (s:(List Bool)) (v:Bool):Option Bool:=(g76 s v).bind fun r0_1=>some (decide (0≤r0_1))
theorem k68 (s:(List Bool)) (v:Bool) (r:Bool) (h:g68 s v=some r):SCall Tryd.prog Gs 68 [.d (.sl 1 (List.map e4 s)),.d (.bool v)] [] 0 Fr.emp (.d (.bool r)) [] 0 Fr.emp:=by
 unfold g68 at h
 refine SCall.mkK Tryd.func68 c68 rfl rfl (by kernel_rfl) (fun Q_0 hR_0 hN_0=>?_)
 refine Sa (sT [(0,.d (.sl 1 (List.map e4 s))),(1,.d (.bool v))] [] 0 0) ?_
 refine AW.srwK (fun Q_1 hQ_1=>?_)
 refine Au 2 (sT [(5,.d (.sl 1 (List.map e4 s))),(6,.d (.bool v))] [] 0 0) ?_
 obtain ⟨r0_1,hx_2,h⟩:=bsome h
 refine rC (k76 s v _ hx_2) ?_
 refine Au 2 (sT [(4,.d (.bool (decide (0≤r0_1))))] [] 0 0) ?_
 refine RW.nil (hQ_1 _ ?_)
 obtain rfl:=Option.some.inj h
 exact rT hR_0 (.cons (.tmp rfl) .nil)
def g96 (k:Span) (l:(Nat→Bool)):Option Bool:=(subA 16 l k.Low (wr (k.High+1))).bind fun l1=>(g68 l1 true).bind fun r0=>some r0
theorem k96 (k:Span) (l:(Nat→Bool)) (r:Bool) (h:g96 k l=some r):SCall Tryd.prog Gs 96 [.agg [jI k.Low,jI k.High],.agg [.d (.bool (l 0)),.d (.bool (l 1)),.d (.bool (l 2)),.d (.bool (l 3)),.d (.bool (l 4)),.d (.bool (l 5)),.d (.bool (l 6)),.d (.bool (l 7)),.d (.bool (l 8)),.d (.bool (l 9)),.d (.bool (l 10)),.d (.bool (l 11)),.d (.bool (l 12)),.d (.bool (l 13)),.d (.bool (l 14)),.d (.bool (l 15))]] [] 0 Fr.emp (.d (.bool r)) [] 0 Fr.emp:=by
 unfold g96 at h
 refine SCall.mkK Tryd.func96 c96 rfl rfl (by kernel_rfl) (fun Q_0 hR_0 hN_0=>?_)
 refine Sa (sT [pR 2 0,pR 3 1] [(1,.var 118 [.d (.bool (l 0)),.d (.bool (l 1)),.d (.bool (l 2)),.d (.bool (l 3)),.d (.bool (l 4)),.d (.bool (l 5)),.d (.bool (l 6)),.d (.bool (l 7)),.d (.bool (l 8)),.d (.bool (l 9)),.d (.bool (l 10)),.d (.bool (l 11)),.d (.bool (l 12)),.d (.bool (l 13)),.d (.bool (l 14)),.d (.bool (l 15))]),(0,.var 135 [jI k.Low,jI k.High])] 2 0) ?_
 refine AW.srwK (fun Q_1 hQ_1=>?_)
 refine Au 5 (sT [pR 3 1,(6,jI k.Low),(9,jI (wr (k.High+1)))] [(1,.var 118 [.d (.bool (l 0)),.d (.bool (l 1)),.d (.bool (l 2)),.d (.bool (l 3)),.d (.bool (l 4)),.d (.bool (l 5)),.d (.bool (l 6)),.d (.bool (l 7)),.d (.bool (l 8)),.d (.bool (l 9)),.d (.bool (l 10)),.d (.bool (l 11)),.d (.bool (l 12)),.d (.bool (l 13)),.d (.bool (l 14)),.d (.bool (l 15))])] 2 0) ?_
 obtain ⟨l1,hv_2,h⟩:=bsome h
 refine RW.one fokW (r_slcA hv_2 trivial rfl rfl rfl rfl rfl (r_end ?_))
 obtain ⟨r0,hx_3,h⟩:=bsome h
 refine RW.one fokW (r_callB (rs:=[(1,.var 118 [.d (.bool (l 0)),.d (.bool (l 1)),.d (.bool (l 2)),.d (.bool (l 3)),.d (.bool (l 4)),.d (.bool (l 5)),.d (.bool (l 6)),.d (.bool (l 7)),.d (.bool (l 8)),.d (.bool (l 9)),.d (.bool (l 10)),.d (.bool (l 11)),.d (.bool (l 12)),.d (.bool (l 13)),.d (.bool (l 14)),.d (.bool (l 15))])]) trivial rfl (k68 l1 true _ hx_3) ⟨rfl,trivial⟩ ⟨brw_arr (c:=fun z=>.bool z) hv_2 rfl (Nat.sub_le_sub_right (show ((wr (k.High+1)):Int).toNat≤16 from by have:=subA_ok hv_2;omega) _),.refl _,trivial⟩ rfl rfl rfl (r_end ?_))
 refine Au 1 (sT [(4,.d (.bool r0))] [] 2 0) ?_
 refine RW.nil (hQ_1 _ ?_)
 obtain rfl:=Option.some.inj h
 exact rT hR_0 (.cons (.tmp rfl) .nil)
def g78_10 (r0_1:(Nat→Bool)):Int→Span→Unit→Option (Ctl (Unit) (Bool)):=fun v p1 _=>(g96 p1 r0_1).bind fun r0_1_1=>bif r0_1_1 then (some (.brk false)) else (some (.next ()))
def g78 (b_K:PlankBook) (s:Plank_spot) (turned:Bool) (m0:List (Plank_spot×Int)):Option Bool:=(g79 b_K s turned m0).bind fun r0_1=>(g69).bind fun r0=>bif (false != (((r0_1 0)==(r0 0))&&(((r0_1 1)==(r0 1))&&(((r0_1 2)==(r0 2))&&(((r0_1 3)==(r0 3))&&(((r0_1 4)==(r0 4))&&(((r0_1 5)==(r0 5))&&(((r0_1 6)==(r0 6))&&(((r0_1 7)==(r0 7))&&(((r0_1 8)==(r0 8))&&(((r0_1 9)==(r0 9))&&(((r0_1 10)==(r0 10))&&(((r0_1 11)==(r0 11))&&(((r0_1 12)==(r0 12))&&(((r0_1 13)==(r0 13))&&(((r0_1 14)==(r0 14))&&(((r0_1 15)==(r0 15))&&true))))))))))))))))) then (some true) else ((ixL b_K.Planks s.plank).bind fun p=>bindC (eachC (g78_10 r0_1) p.Knots 0 ()) fun _=>some true)
theorem k78 (b_K:PlankBook) (s:Plank_spot) (turned:Bool) (m0:List (Plank_spot×Int)) (r:Bool) (h:g78 b_K s turned m0=some r):SCall Tryd.prog Gs 78 [.agg (pbm b_K (.map 0)),.agg [jI s.plank,jI s.part,jI s.at_],.d (.bool turned),.d (.fn 96)] [(0,.mp (List.map m104_3 m0))] 1 Fr.emp (.d (.bool r)) [(0,.mp (List.map m104_3 m0))] 1 Fr.emp:=by
 unfold g78 at h
 refine SCall.mkK Tryd.func78 c78 rfl rfl (by kernel_rfl) (fun Q_0 hR_0 hN_0=>?_)
 refine Sa (sT [(2,.d (.bool turned)),(3,.d (.fn 96)),pR 4 1,pR 5 2] [(2,.var 104 [jI s.plank,jI s.part,jI s.at_]),(1,.var 67 (pbm b_K (.map 0))),(0,.mp (List.map m104_3 m0))] 3 1) ?_
 refine AW.srwK (fun Q_1 hQ_1=>?_)
 refine Au 3 (sT [(3,.d (.fn 96)),pR 4 1,pR 5 2,(12,.agg (pbm b_K (.map 0))),(13,.agg [jI s.plank,jI s.part,jI s.at_]),(14,.d (.bool turned))] [(2,.var 104 [jI s.plank,jI s.part,jI s.at_]),(1,.var 67 (pbm b_K (.map 0))),(0,.mp (List.map m104_3 m0))] 3 1) ?_
 obtain ⟨r0_1,hx_2,h⟩:=bsome h
 refine RW.one fokW (r_callS (zr:=[]) [0] trivial rfl (k79 b_K s turned m0 _ hx_2) ⟨rfl,trivial⟩ rfl rfl ⟨.refl _,.refl _,.refl _,trivial⟩ rfl rfl rfl (r_end ?_))
 refine Au 2 (sT [(3,.d (.fn 96)),pR 4 1,pR 5 2,pR 9 3] [(3,.var 118 [.d (.bool (r0_1 0)),.d (.bool (r0_1 1)),.d (.bool (r0_1 2)),.d (.bool (r0_1 3)),.d (.bool (r0_1 4)),.d (.bool (r0_1 5)),.d (.bool (r0_1 6)),.d (.bool (r0_1 7)),.d (.bool (r0_1 8)),.d (.bool (r0_1 9)),.d (.bool (r0_1 10)),.d (.bool (r0_1 11)),.d (.bool (r0_1 12)),.d (.bool (r0_1 13)),.d (.bool (r0_1 14)),.d (.bool (r0_1 15))]),(0,.mp (List.map m104_3 m0)),(2,.var 104 [jI s.plank,jI s.part,jI s.at_]),(1,.var 67 (pbm b_K (.map 0)))] 4 1) ?_
 refine RW.nil (hQ_1 _ ?_)
 refine AW.seqK (fun K_3 hK_3=>?_)
 refine AW.sdrwK fokW (fun Q_4 hQ_4=>?_)
 refine aX 1 (sT [(3,.d (.fn 96)),pR 4 1,pR 5 2,pR 9 3,(16,.agg [.d (.bool (r0_1 0)),.d (.bool (r0_1 1)),.d (.bool (r0_1 2)),.d (.bool (r0_1 3)),.d (.bool (r0_1 4)),.d (.bool (r0_1 5)),.d (.bool (r0_1 6)),.d (.bool (r0_1 7)),.d (.bool (r0_1 8)),.d (.bool (r0_1 9)),.d (.bool (r0_1 10)),.d (.bool (r0_1 11)),.d (.bool (r0_1 12)),.d (.bool (r0_1 13)),.d (.bool (r0_1 14)),.d (.bool (r0_1 15))])] [(3,.var 118 [.d (.bool (r0_1 0)),.d (.bool (r0_1 1)),.d (.bool (r0_1 2)),.d (.bool (r0_1 3)),.d (.bool (r0_1 4)),.d (.bool (r0_1 5)),.d (.bool (r0_1 6)),.d (.bool (r0_1 7)),.d (.bool (r0_1 8)),.d (.bool (r0_1 9)),.d (.bool (r0_1 10)),.d (.bool (r0_1 11)),.d (.bool (r0_1 12)),.d (.bool (r0_1 13)),.d (.bool (r0_1 14)),.d (.bool (r0_1 15))]),(0,.mp (List.map m104_3 m0)),(2,.var 104 [jI s.plank,jI s.part,jI s.at_]),(1,.var 67 (pbm b_K (.map 0)))] 4 1) ?_
 obtain ⟨r0,hx_5,h⟩:=bsome h
 refine r_call trivial rfl (k69 _ hx_5) rfl rfl ?_
 refine r_aeq trivial rfl rfl rfl rfl ft118 rfl rfl rfl ?_
 refine Fi (sT [(3,.d (.fn 96)),pR 4 1,pR 5 2,pR 9 3,(18,.d (.bool (false != (((r0_1 0)==(r0 0))&&(((r0_1 1)==(r0 1))&&(((r0_1 2)==(r0 2))&&(((r0_1 3)==(r0 3))&&(((r0_1 4)==(r0 4))&&(((r0_1 5)==(r0 5))&&(((r0_1 6)==(r0 6))&&(((r0_1 7)==(r0 7))&&(((r0_1 8)==(r0 8))&&(((r0_1 9)==(r0 9))&&(((r0_1 10)==(r0 10))&&(((r0_1 11)==(r0 11))&&(((r0_1 12)==(r0 12))&&(((r0_1 13)==(r0 13))&&(((r0_1 14)==(r0 14))&&(((r0_1 15)==(r0 15))&&true)))))))))))))))))))] [(3,.var 118 [.d (.bool (r0_1 0)),.d (.bool (r0_1 1)),.d (.bool (r0_1 2)),.d (.bool (r0_1 3)),.d (.bool (r0_1 4)),.d (.bool (r0_1 5)),.d (.bool (r0_1 6)),.d (.bool (r0_1 7)),.d (.bool (r0_1 8)),.d (.bool (r0_1 9)),.d (.bool (r0_1 10)),.d (.bool (r0_1 11)),.d (.bool (r0_1 12)),.d (.bool (r0_1 13)),.d (.bool (r0_1 14)),.d (.bool (r0_1 15))]),(0,.mp (List.map m104_3 m0)),(2,.var 104 [jI s.plank,jI s.part,jI s.at_]),(1,.var 67 (pbm b_K (.map 0)))] 4 1) ?_
 refine hQ_4 _ ?_
 refine AW.cond rfl (fun hb_6=>?_) (fun hb_6=>?_)
 ·have h:=ifT hb_6 h
  refine Sa (sT [(8,.d (.bool true))] [(0,.mp (List.map m104_3 m0))] 4 1) ?_
  obtain rfl:=Option.some.inj h
  exact rT hR_0 (.cons (.tmp rfl) .nil)
 ·have h:=ifF hb_6 h
  refine AW.skip (hK_3 _ ?_)
  refine AW.seqK fun K_7 hK_7=>AW.srwK fun Q_8 hQ_8=>?_
  refine Au 5 (sT [(3,.d (.fn 96)),pR 9 3,(21,.d (.sl 2 (List.map e32 b_K.Planks))),(23,jI s.plank)] [(3,.var 118 [.d (.bool (r0_1 0)),.d (.bool (r0_1 1)),.d (.bool (r0_1 2)),.d (.bool (r0_1 3)),.d (.bool (r0_1 4)),.d (.bool (r0_1 5)),.d (.bool (r0_1 6)),.d (.bool (r0_1 7)),.d (.bool (r0_1 8)),.d (.bool (r0_1 9)),.d (.bool (r0_1 10)),.d (.bool (r0_1 11)),.d (.bool (r0_1 12)),.d (.bool (r0_1 13)),.d (.bool (r0_1 14)),.d (.bool (r0_1 15))]),(0,.mp (List.map m104_3 m0))] 4 1) ?_
  obtain ⟨p,hv_9,h⟩:=bsome h
  refine RW.one fokW (r_iaD trivial rfl rfl (ixL_ok hv_9).1 (row:=e32 p) (mapget (ixL_ok hv_9).2) (r_end ?_))
  refine Au 2 (sT [(3,.d (.fn 96)),pR 9 3,(26,.d (.sl 2 (List.map e47 p.Knots)))] [(3,.var 118 [.d (.bool (r0_1 0)),.d (.bool (r0_1 1)),.d (.bool (r0_1 2)),.d (.bool (r0_1 3)),.d (.bool (r0_1 4)),.d (.bool (r0_1 5)),.d (.bool (r0_1 6)),.d (.bool (r0_1 7)),.d (.bool (r0_1 8)),.d (.bool (r0_1 9)),.d (.bool (r0_1 10)),.d (.bool (r0_1 11)),.d (.bool (r0_1 12)),.d (.bool (r0_1 13)),.d (.bool (r0_1 14)),.d (.bool (r0_1 15))]),(0,.mp (List.map m104_3 m0))] 4 1) ?_
  refine rL rfl ?_
  refine Au 1 (sT [(3,.d (.fn 96)),pR 9 3,(26,.d (.sl 2 (List.map e47 p.Knots))),(27,jI (p.Knots.length:Int)),(28,jI 0)] [(3,.var 118 [.d (.bool (r0_1 0)),.d (.bool (r0_1 1)),.d (.bool (r0_1 2)),.d (.bool (r0_1 3)),.d (.bool (r0_1 4)),.d (.bool (r0_1 5)),.d (.bool (r0_1 6)),.d (.bool (r0_1 7)),.d (.bool (r0_1 8)),.d (.bool (r0_1 9)),.d (.bool (r0_1 10)),.d (.bool (r0_1 11)),.d (.bool (r0_1 12)),.d (.bool (r0_1 13)),.d (.bool (r0_1 14)),.d (.bool (r0_1 15))]),(0,.mp (List.map m104_3 m0))] 4 1) ?_
  refine RW.nil (hQ_8 _ ?_)
  refine AW.block ?_
  refine AW.sln (t:=26) rfl (fun hN_10=>?_)
  rw [List.length_map] at hN_10
  obtain ⟨out_10,hx_10,hk_10⟩:=bsomeC h
  refine AW.evCK (fun (v:Int) (_:Unit)=>(sT [(3,.d (.fn 96)),pR 9 3,(26,.d (.sl 2 (List.map e47 p.Knots))),(27,jI (p.Knots.length:Int)),(28,jI v)] [(3,.var 118 [.d (.bool (r0_1 0)),.d (.bool (r0_1 1)),.d (.bool (r0_1 2)),.d (.bool (r0_1 3)),.d (.bool (r0_1 4)),.d (.bool (r0_1 5)),.d (.bool (r0_1 6)),.d (.bool (r0_1 7)),.d (.bool (r0_1 8)),.d (.bool (r0_1 9)),.d (.bool (r0_1 10)),.d (.bool (r0_1 11)),.d (.bool (r0_1 12)),.d (.bool (r0_1 13)),.d (.bool (r0_1 14)),.d (.bool (r0_1 15))]),(0,.mp (List.map m104_3 m0))] 4 1)) (g78_10 r0_1) hx_10 (Can.kp (by kernel_rfl)) (fun v p1 s_10 hi_10 hl_10 hp_10 c_10 h hb_10 K_10 hK_10=>?_) (fun v s_10 hi_10 hl_10 hout=>?_)
  ·unfold g78_10 at h
   refine Sa (sT [(3,.d (.fn 96)),pR 9 3,(26,.d (.sl 2 (List.map e47 p.Knots))),(27,jI (p.Knots.length:Int)),(28,jI v),(29,.d (.bool (decide (v<(p.Knots.length:Int)))))] [(3,.var 118 [.d (.bool (r0_1 0)),.d (.bool (r0_1 1)),.d (.bool (r0_1 2)),.d (.bool (r0_1 3)),.d (.bool (r0_1 4)),.d (.bool (r0_1 5)),.d (.bool (r0_1 6)),.d (.bool (r0_1 7)),.d (.bool (r0_1 8)),.d (.bool (r0_1 9)),.d (.bool (r0_1 10)),.d (.bool (r0_1 11)),.d (.bool (r0_1 12)),.d (.bool (r0_1 13)),.d (.bool (r0_1 14)),.d (.bool (r0_1 15))]),(0,.mp (List.map m104_3 m0))] 4 1) ?_
   refine AW.seqK (fun K_11 hK_11=>?_)
   refine AW.cond rfl (fun hb_12=>?_) (fun hb_12=>False.elim (by have:=of_decide_eq_false hb_12;omega))
   refine AW.skip (hK_11 _ ?_)
   refine AW.seqK (fun K_13 hK_13=>?_)
   refine AW.block ?_
   refine AW.srwK (fun Q_14 hQ_14=>?_)
   refine RW.one fokW (r_iaD trivial rfl rfl hi_10 (row:=e47 p1) (mapget hp_10) (r_end ?_))
   refine Au 3 (sT [(3,.d (.fn 96)),pR 9 3,pR 11 4,(26,.d (.sl 2 (List.map e47 p.Knots))),(27,jI (p.Knots.length:Int)),(28,jI v)] [(4,.var 47 [jI p1.Low,jI p1.High]),(3,.var 118 [.d (.bool (r0_1 0)),.d (.bool (r0_1 1)),.d (.bool (r0_1 2)),.d (.bool (r0_1 3)),.d (.bool (r0_1 4)),.d (.bool (r0_1 5)),.d (.bool (r0_1 6)),.d (.bool (r0_1 7)),.d (.bool (r0_1 8)),.d (.bool (r0_1 9)),.d (.bool (r0_1 10)),.d (.bool (r0_1 11)),.d (.bool (r0_1 12)),.d (.bool (r0_1 13)),.d (.bool (r0_1 14)),.d (.bool (r0_1 15))]),(0,.mp (List.map m104_3 m0))] 5 1) ?_
   refine RW.nil (hQ_14 _ ?_)
   refine AW.srwK (fun Q_15 hQ_15=>?_)
   refine Au 3 (sT [(3,.d (.fn 96)),pR 9 3,(26,.d (.sl 2 (List.map e47 p.Knots))),(27,jI (p.Knots.length:Int)),(28,jI v),(32,.d (.fn 96)),(33,.agg [jI p1.Low,jI p1.High]),(34,.agg [.d (.bool (r0_1 0)),.d (.bool (r0_1 1)),.d (.bool (r0_1 2)),.d (.bool (r0_1 3)),.d (.bool (r0_1 4)),.d (.bool (r0_1 5)),.d (.bool (r0_1 6)),.d (.bool (r0_1 7)),.d (.bool (r0_1 8)),.d (.bool (r0_1 9)),.d (.bool (r0_1 10)),.d (.bool (r0_1 11)),.d (.bool (r0_1 12)),.d (.bool (r0_1 13)),.d (.bool (r0_1 14)),.d (.bool (r0_1 15))])] [(3,.var 118 [.d (.bool (r0_1 0)),.d (.bool (r0_1 1)),.d (.bool (r0_1 2)),.d (.bool (r0_1 3)),.d (.bool (r0_1 4)),.d (.bool (r0_1 5)),.d (.bool (r0_1 6)),.d (.bool (r0_1 7)),.d (.bool (r0_1 8)),.d (.bool (r0_1 9)),.d (.bool (r0_1 10)),.d (.bool (r0_1 11)),.d (.bool (r0_1 12)),.d (.bool (r0_1 13)),.d (.bool (r0_1 14)),.d (.bool (r0_1 15))]),(0,.mp (List.map m104_3 m0))] 5 1) ?_
   obtain ⟨r0_1_1,hx_16,h⟩:=bsome h
   refine RW.one fokW (r_callvZ (zr:=[]) trivial rfl (.fn _) (by kernel_rfl) rfl (k96 p1 r0_1 _ hx_16) trivial ⟨.refl _,.refl _,trivial⟩ rfl rfl rfl rfl (r_end ?_))
   refine RW.nil (hQ_15 _ ?_)
   refine AW.cond rfl (fun hb_17=>?_) (fun hb_17=>?_)
   ·have h:=ifT hb_17 h
    refine Sa (sT [(8,.d (.bool false))] [(0,.mp (List.map m104_3 m0))] 5 1) ?_
    obtain rfl:=Option.some.inj h
    have e_1:=hb_10 _ rfl
    subst e_1
    obtain rfl:=Aft.bk hk_10
    exact rT hR_0 (.cons (.tmp rfl) .nil)
   ·have h:=ifF hb_17 h
    refine AW.skip (hK_13 _ ?_)
    refine Ra (sT [(3,.d (.fn 96)),pR 9 3,(26,.d (.sl 2 (List.map e47 p.Knots))),(27,jI (p.Knots.length:Int)),(28,jI (wr (v+1)))] [(3,.var 118 [.d (.bool (r0_1 0)),.d (.bool (r0_1 1)),.d (.bool (r0_1 2)),.d (.bool (r0_1 3)),.d (.bool (r0_1 4)),.d (.bool (r0_1 5)),.d (.bool (r0_1 6)),.d (.bool (r0_1 7)),.d (.bool (r0_1 8)),.d (.bool (r0_1 9)),.d (.bool (r0_1 10)),.d (.bool (r0_1 11)),.d (.bool (r0_1 12)),.d (.bool (r0_1 13)),.d (.bool (r0_1 14)),.d (.bool (r0_1 15))]),(0,.mp (List.map m104_3 m0))] 5 1) ?_
    obtain rfl:=Option.some.inj h
    have ew:wr (v+1)=v+1:=inext (N:=(p.Knots.length:Int)) (by omega) (by omega) (by omega)
    rw [ew]
    exact hK_10 _ _ rfl (Can.kp (by kernel_rfl))
  ·subst hout
   have h:=Aft.nx hk_10
   refine Sa (sT [(3,.d (.fn 96)),pR 9 3,(26,.d (.sl 2 (List.map e47 p.Knots))),(27,jI (p.Knots.length:Int)),(28,jI v),(29,.d (.bool (decide (v<(p.Knots.length:Int)))))] [(3,.var 118 [.d (.bool (r0_1 0)),.d (.bool (r0_1 1)),.d (.bool (r0_1 2)),.d (.bool (r0_1 3)),.d (.bool (r0_1 4)),.d (.bool (r0_1 5)),.d (.bool (r0_1 6)),.d (.bool (r0_1 7)),.d (.bool (r0_1 8)),.d (.bool (r0_1 9)),.d (.bool (r0_1 10)),.d (.bool (r0_1 11)),.d (.bool (r0_1 12)),.d (.bool (r0_1 13)),.d (.bool (r0_1 14)),.d (.bool (r0_1 15))]),(0,.mp (List.map m104_3 m0))] 4 1) ?_
   refine AW.seqK (fun K_18 hK_18=>?_)
   refine AW.cond rfl (fun hb_19=>False.elim (by have:=of_decide_eq_true hb_19;omega)) (fun hb_19=>?_)
   refine AW.exit ?_
   refine hK_7 _ ?_
   refine Sa (sT [(8,.d (.bool true))] [(0,.mp (List.map m104_3 m0))] 4 1) ?_
   obtain rfl:=Option.some.inj h
   exact rT hR_0 (.cons (.tmp rfl) .nil)
def g99 (k:Span) (l:(Nat→Bool)):Option Bool:=(subA 16 l k.Low (wr (k.High+1))).bind fun l1=>(g68 l1 false).bind fun r0=>some (!r0)
theorem k99 (k:Span) (l:(Nat→Bool)) (r:Bool) (h:g99 k l=some r):SCall Tryd.prog Gs 99 [.agg [jI k.Low,jI k.High],.agg [.d (.bool (l 0)),.d (.bool (l 1)),.d (.bool (l 2)),.d (.bool (l 3)),.d (.bool (l 4)),.d (.bool (l 5)),.d (.bool (l 6)),.d (.bool (l 7)),.d (.bool (l 8)),.d (.bool (l 9)),.d (.bool (l 10)),.d (.bool (l 11)),.d (.bool (l 12)),.d (.bool (l 13)),.d (.bool (l 14)),.d (.bool (l 15))]] [] 0 Fr.emp (.d (.bool r)) [] 0 Fr.emp:=by
 unfold g99 at h
 refine SCall.mkK Tryd.func99 c99 rfl rfl (by kernel_rfl) (fun Q_0 hR_0 hN_0=>?_)
 refine Sa (sT [pR 2 0,pR 3 1] [(1,.var 118 [.d (.bool (l 0)),.d (.bool (l 1)),.d (.bool (l 2)),.d (.bool (l 3)),.d (.bool (l 4)),.d (.bool (l 5)),.d (.bool (l 6)),.d (.bool (l 7)),.d (.bool (l 8)),.d (.bool (l 9)),.d (.bool (l 10)),.d (.bool (l 11)),.d (.bool (l 12)),.d (.bool (l 13)),.d (.bool (l 14)),.d (.bool (l 15))]),(0,.var 135 [jI k.Low,jI k.High])] 2 0) ?_
 refine AW.srwK (fun Q_1 hQ_1=>?_)
 refine Au 5 (sT [pR 3 1,(6,jI k.Low),(9,jI (wr (k.High+1)))] [(1,.var 118 [.d (.bool (l 0)),.d (.bool (l 1)),.d (.bool (l 2)),.d (.bool (l 3)),.d (.bool (l 4)),.d (.bool (l 5)),.d (.bool (l 6)),.d (.bool (l 7)),.d (.bool (l 8)),.d (.bool (l 9)),.d (.bool (l 10)),.d (.bool (l 11)),.d (.bool (l 12)),.d (.bool (l 13)),.d (.bool (l 14)),.d (.bool (l 15))])] 2 0) ?_
 obtain ⟨l1,hv_2,h⟩:=bsome h
 refine RW.one fokW (r_slcA hv_2 trivial rfl rfl rfl rfl rfl (r_end ?_))
 obtain ⟨r0,hx_3,h⟩:=bsome h
 refine RW.one fokW (r_callB (rs:=[(1,.var 118 [.d (.bool (l 0)),.d (.bool (l 1)),.d (.bool (l 2)),.d (.bool (l 3)),.d (.bool (l 4)),.d (.bool (l 5)),.d (.bool (l 6)),.d (.bool (l 7)),.d (.bool (l 8)),.d (.bool (l 9)),.d (.bool (l 10)),.d (.bool (l 11)),.d (.bool (l 12)),.d (.bool (l 13)),.d (.bool (l 14)),.d (.bool (l 15))])]) trivial rfl (k68 l1 false _ hx_3) ⟨rfl,trivial⟩ ⟨brw_arr (c:=fun z=>.bool z) hv_2 rfl (Nat.sub_le_sub_right (show ((wr (k.High+1)):Int).toNat≤16 from by have:=subA_ok hv_2;omega) _),.refl _,trivial⟩ rfl rfl rfl (r_end ?_))
 refine Au 2 (sT [(4,.d (.bool (!r0)))] [] 2 0) ?_
 refine RW.nil (hQ_1 _ ?_)
 obtain rfl:=Option.some.inj h
 exact rT hR_0 (.cons (.tmp rfl) .nil)
def g78a_10 (r0_1:(Nat→Bool)):Int→Span→Unit→Option (Ctl (Unit) (Bool)):=fun v p1 _=>(g99 p1 r0_1).bind fun r0_1_1=>bif r0_1_1 then (some (.brk false)) else (some (.next ()))
def g78a (b_K:PlankBook) (s:Plank_spot) (turned:Bool) (m0:List (Plank_spot×Int)):Option Bool:=(g79 b_K s turned m0).bind fun r0_1=>(g69).bind fun r0=>bif (false != (((r0_1 0)==(r0 0))&&(((r0_1 1)==(r0 1))&&(((r0_1 2)==(r0 2))&&(((r0_1 3)==(r0 3))&&(((r0_1 4)==(r0 4))&&(((r0_1 5)==(r0 5))&&(((r0_1 6)==(r0 6))&&(((r0_1 7)==(r0 7))&&(((r0_1 8)==(r0 8))&&(((r0_1 9)==(r0 9))&&(((r0_1 10)==(r0 10))&&(((r0_1 11)==(r0 11))&&(((r0_1 12)==(r0 12))&&(((r0_1 13)==(r0 13))&&(((r0_1 14)==(r0 14))&&(((r0_1 15)==(r0 15))&&true))))))))))))))))) then (some true) else ((ixL b_K.Planks s.plank).bind fun p=>bindC (eachC (g78a_10 r0_1) p.Knots 0 ()) fun _=>some true)
theorem k78a (b_K:PlankBook) (s:Plank_spot) (turned:Bool) (m0:List (Plank_spot×Int)) (r:Bool) (h:g78a b_K s turned m0=some r):SCall Tryd.prog Gs 78 [.agg (pbm b_K (.map 0)),.agg [jI s.plank,jI s.part,jI s.at_],.d (.bool turned),.d (.fn 99)] [(0,.mp (List.map m104_3 m0))] 1 Fr.emp (.d (.bool r)) [(0,.mp (List.map m104_3 m0))] 1 Fr.emp:=by
 unfold g78a at h
 refine SCall.mkK Tryd.func78 c78 rfl rfl (by kernel_rfl) (fun Q_0 hR_0 hN_0=>?_)
 refine Sa (sT [(2,.d (.bool turned)),(3,.d (.fn 99)),pR 4 1,pR 5 2] [(2,.var 104 [jI s.plank,jI s.part,jI s.at_]),(1,.var 67 (pbm b_K (.map 0))),(0,.mp (List.map m104_3 m0))] 3 1) ?_
 refine AW.srwK (fun Q_1 hQ_1=>?_)
 refine Au 3 (sT [(3,.d (.fn 99)),pR 4 1,pR 5 2,(12,.agg (pbm b_K (.map 0))),(13,.agg [jI s.plank,jI s.part,jI s.at_]),(14,.d (.bool turned))] [(2,.var 104 [jI s.plank,jI s.part,jI s.at_]),(1,.var 67 (pbm b_K (.map 0))),(0,.mp (List.map m104_3 m0))] 3 1) ?_
 obtain ⟨r0_1,hx_2,h⟩:=bsome h
 refine RW.one fokW (r_callS (zr:=[]) [0] trivial rfl (k79 b_K s turned m0 _ hx_2) ⟨rfl,trivial⟩ rfl rfl ⟨.refl _,.refl _,.refl _,trivial⟩ rfl rfl rfl (r_end ?_))
 refine Au 2 (sT [(3,.d (.fn 99)),pR 4 1,pR 5 2,pR 9 3] [(3,.var 118 [.d (.bool (r0_1 0)),.d (.bool (r0_1 1)),.d (.bool (r0_1 2)),.d (.bool (r0_1 3)),.d (.bool (r0_1 4)),.d (.bool (r0_1 5)),.d (.bool (r0_1 6)),.d (.bool (r0_1 7)),.d (.bool (r0_1 8)),.d (.bool (r0_1 9)),.d (.bool (r0_1 10)),.d (.bool (r0_1 11)),.d (.bool (r0_1 12)),.d (.bool (r0_1 13)),.d (.bool (r0_1 14)),.d (.bool (r0_1 15))]),(0,.mp (List.map m104_3 m0)),(2,.var 104 [jI s.plank,jI s.part,jI s.at_]),(1,.var 67 (pbm b_K (.map 0)))] 4 1) ?_
 refine RW.nil (hQ_1 _ ?_)
 refine AW.seqK (fun K_3 hK_3=>?_)
 refine AW.sdrwK fokW (fun Q_4 hQ_4=>?_)
 refine aX 1 (sT [(3,.d (.fn 99)),pR 4 1,pR 5 2,pR 9 3,(16,.agg [.d (.bool (r0_1 0)),.d (.bool (r0_1 1)),.d (.bool (r0_1 2)),.d (.bool (r0_1 3)),.d (.bool (r0_1 4)),.d (.bool (r0_1 5)),.d (.bool (r0_1 6)),.d (.bool (r0_1 7)),.d (.bool (r0_1 8)),.d (.bool (r0_1 9)),.d (.bool (r0_1 10)),.d (.bool (r0_1 11)),.d (.bool (r0_1 12)),.d (.bool (r0_1 13)),.d (.bool (r0_1 14)),.d (.bool (r0_1 15))])] [(3,.var 118 [.d (.bool (r0_1 0)),.d (.bool (r0_1 1)),.d (.bool (r0_1 2)),.d (.bool (r0_1 3)),.d (.bool (r0_1 4)),.d (.bool (r0_1 5)),.d (.bool (r0_1 6)),.d (.bool (r0_1 7)),.d (.bool (r0_1 8)),.d (.bool (r0_1 9)),.d (.bool (r0_1 10)),.d (.bool (r0_1 11)),.d (.bool (r0_1 12)),.d (.bool (r0_1 13)),.d (.bool (r0_1 14)),.d (.bool (r0_1 15))]),(0,.mp (List.map m104_3 m0)),(2,.var 104 [jI s.plank,jI s.part,jI s.at_]),(1,.var 67 (pbm b_K (.map 0)))] 4 1) ?_
 obtain ⟨r0,hx_5,h⟩:=bsome h
 refine r_call trivial rfl (k69 _ hx_5) rfl rfl ?_
 refine r_aeq trivial rfl rfl rfl rfl ft118 rfl rfl rfl ?_
 refine Fi (sT [(3,.d (.fn 99)),pR 4 1,pR 5 2,pR 9 3,(18,.d (.bool (false != (((r0_1 0)==(r0 0))&&(((r0_1 1)==(r0 1))&&(((r0_1 2)==(r0 2))&&(((r0_1 3)==(r0 3))&&(((r0_1 4)==(r0 4))&&(((r0_1 5)==(r0 5))&&(((r0_1 6)==(r0 6))&&(((r0_1 7)==(r0 7))&&(((r0_1 8)==(r0 8))&&(((r0_1 9)==(r0 9))&&(((r0_1 10)==(r0 10))&&(((r0_1 11)==(r0 11))&&(((r0_1 12)==(r0 12))&&(((r0_1 13)==(r0 13))&&(((r0_1 14)==(r0 14))&&(((r0_1 15)==(r0 15))&&true)))))))))))))))))))] [(3,.var 118 [.d (.bool (r0_1 0)),.d (.bool (r0_1 1)),.d (.bool (r0_1 2)),.d (.bool (r0_1 3)),.d (.bool (r0_1 4)),.d (.bool (r0_1 5)),.d (.bool (r0_1 6)),.d (.bool (r0_1 7)),.d (.bool (r0_1 8)),.d (.bool (r0_1 9)),.d (.bool (r0_1 10)),.d (.bool (r0_1 11)),.d (.bool (r0_1 12)),.d (.bool (r0_1 13)),.d (.bool (r0_1 14)),.d (.bool (r0_1 15))]),(0,.mp (List.map m104_3 m0)),(2,.var 104 [jI s.plank,jI s.part,jI s.at_]),(1,.var 67 (pbm b_K (.map 0)))] 4 1) ?_
 refine hQ_4 _ ?_
 refine AW.cond rfl (fun hb_6=>?_) (fun hb_6=>?_)
 ·have h:=ifT hb_6 h
  refine Sa (sT [(8,.d (.bool true))] [(0,.mp (List.map m104_3 m0))] 4 1) ?_
  obtain rfl:=Option.some.inj h
  exact rT hR_0 (.cons (.tmp rfl) .nil)
 ·have h:=ifF hb_6 h
  refine AW.skip (hK_3 _ ?_)
  refine AW.seqK fun K_7 hK_7=>AW.srwK fun Q_8 hQ_8=>?_
  refine Au 5 (sT [(3,.d (.fn 99)),pR 9 3,(21,.d (.sl 2 (List.map e32 b_K.Planks))),(23,jI s.plank)] [(3,.var 118 [.d (.bool (r0_1 0)),.d (.bool (r0_1 1)),.d (.bool (r0_1 2)),.d (.bool (r0_1 3)),.d (.bool (r0_1 4)),.d (.bool (r0_1 5)),.d (.bool (r0_1 6)),.d (.bool (r0_1 7)),.d (.bool (r0_1 8)),.d (.bool (r0_1 9)),.d (.bool (r0_1 10)),.d (.bool (r0_1 11)),.d (.bool (r0_1 12)),.d (.bool (r0_1 13)),.d (.bool (r0_1 14)),.d (.bool (r0_1 15))]),(0,.mp (List.map m104_3 m0))] 4 1) ?_
  obtain ⟨p,hv_9,h⟩:=bsome h
  refine RW.one fokW (r_iaD trivial rfl rfl (ixL_ok hv_9).1 (row:=e32 p) (mapget (ixL_ok hv_9).2) (r_end ?_))
  refine Au 2 (sT [(3,.d (.fn 99)),pR 9 3,(26,.d (.sl 2 (List.map e47 p.Knots)))] [(3,.var 118 [.d (.bool (r0_1 0)),.d (.bool (r0_1 1)),.d (.bool (r0_1 2)),.d (.bool (r0_1 3)),.d (.bool (r0_1 4)),.d (.bool (r0_1 5)),.d (.bool (r0_1 6)),.d (.bool (r0_1 7)),.d (.bool (r0_1 8)),.d (.bool (r0_1 9)),.d (.bool (r0_1 10)),.d (.bool (r0_1 11)),.d (.bool (r0_1 12)),.d (.bool (r0_1 13)),.d (.bool (r0_1 14)),.d (.bool (r0_1 15))]),(0,.mp (List.map m104_3 m0))] 4 1) ?_
  refine rL rfl ?_
  refine Au 1 (sT [(3,.d (.fn 99)),pR 9 3,(26,.d (.sl 2 (List.map e47 p.Knots))),(27,jI (p.Knots.length:Int)),(28,jI 0)] [(3,.var 118 [.d (.bool (r0_1 0)),.d (.bool (r0_1 1)),.d (.bool (r0_1 2)),.d (.bool (r0_1 3)),.d (.bool (r0_1 4)),.d (.bool (r0_1 5)),.d (.bool (r0_1 6)),.d (.bool (r0_1 7)),.d (.bool (r0_1 8)),.d (.bool (r0_1 9)),.d (.bool (r0_1 10)),.d (.bool (r0_1 11)),.d (.bool (r0_1 12)),.d (.bool (r0_1 13)),.d (.bool (r0_1 14)),.d (.bool (r0_1 15))]),(0,.mp (List.map m104_3 m0))] 4 1) ?_
  refine RW.nil (hQ_8 _ ?_)
  refine AW.block ?_
  refine AW.sln (t:=26) rfl (fun hN_10=>?_)
  rw [List.length_map] at hN_10
  obtain ⟨out_10,hx_10,hk_10⟩:=bsomeC h
  refine AW.evCK (fun (v:Int) (_:Unit)=>(sT [(3,.d (.fn 99)),pR 9 3,(26,.d (.sl 2 (List.map e47 p.Knots))),(27,jI (p.Knots.length:Int)),(28,jI v)] [(3,.var 118 [.d (.bool (r0_1 0)),.d (.bool (r0_1 1)),.d (.bool (r0_1 2)),.d (.bool (r0_1 3)),.d (.bool (r0_1 4)),.d (.bool (r0_1 5)),.d (.bool (r0_1 6)),.d (.bool (r0_1 7)),.d (.bool (r0_1 8)),.d (.bool (r0_1 9)),.d (.bool (r0_1 10)),.d (.bool (r0_1 11)),.d (.bool (r0_1 12)),.d (.bool (r0_1 13)),.d (.bool (r0_1 14)),.d (.bool (r0_1 15))]),(0,.mp (List.map m104_3 m0))] 4 1)) (g78a_10 r0_1) hx_10 (Can.kp (by kernel_rfl)) (fun v p1 s_10 hi_10 hl_10 hp_10 c_10 h hb_10 K_10 hK_10=>?_) (fun v s_10 hi_10 hl_10 hout=>?_)
  ·unfold g78a_10 at h
   refine Sa (sT [(3,.d (.fn 99)),pR 9 3,(26,.d (.sl 2 (List.map e47 p.Knots))),(27,jI (p.Knots.length:Int)),(28,jI v),(29,.d (.bool (decide (v<(p.Knots.length:Int)))))] [(3,.var 118 [.d (.bool (r0_1 0)),.d (.bool (r0_1 1)),.d (.bool (r0_1 2)),.d (.bool (r0_1 3)),.d (.bool (r0_1 4)),.d (.bool (r0_1 5)),.d (.bool (r0_1 6)),.d (.bool (r0_1 7)),.d (.bool (r0_1 8)),.d (.bool (r0_1 9)),.d (.bool (r0_1 10)),.d (.bool (r0_1 11)),.d (.bool (r0_1 12)),.d (.bool (r0_1 13)),.d (.bool (r0_1 14)),.d (.bool (r0_1 15))]),(0,.mp (List.map m104_3 m0))] 4 1) ?_
   refine AW.seqK (fun K_11 hK_11=>?_)
   refine AW.cond rfl (fun hb_12=>?_) (fun hb_12=>False.elim (by have:=of_decide_eq_false hb_12;omega))
   refine AW.skip (hK_11 _ ?_)
   refine AW.seqK (fun K_13 hK_13=>?_)
   refine AW.block ?_
   refine AW.srwK (fun Q_14 hQ_14=>?_)
   refine RW.one fokW (r_iaD trivial rfl rfl hi_10 (row:=e47 p1) (mapget hp_10) (r_end ?_))
   refine Au 3 (sT [(3,.d (.fn 99)),pR 9 3,pR 11 4,(26,.d (.sl 2 (List.map e47 p.Knots))),(27,jI (p.Knots.length:Int)),(28,jI v)] [(4,.var 47 [jI p1.Low,jI p1.High]),(3,.var 118 [.d (.bool (r0_1 0)),.d (.bool (r0_1 1)),.d (.bool (r0_1 2)),.d (.bool (r0_1 3)),.d (.bool (r0_1 4)),.d (.bool (r0_1 5)),.d (.bool (r0_1 6)),.d (.bool (r0_1 7)),.d (.bool (r0_1 8)),.d (.bool (r0_1 9)),.d (.bool (r0_1 10)),.d (.bool (r0_1 11)),.d (.bool (r0_1 12)),.d (.bool (r0_1 13)),.d (.bool (r0_1 14)),.d (.bool (r0_1 15))]),(0,.mp (List.map m104_3 m0))] 5 1) ?_
   refine RW.nil (hQ_14 _ ?_)
   refine AW.srwK (fun Q_15 hQ_15=>?_)
   refine Au 3 (sT [(3,.d (.fn 99)),pR 9 3,(26,.d (.sl 2 (List.map e47 p.Knots))),(27,jI (p.Knots.length:Int)),(28,jI v),(32,.d (.fn 99)),(33,.agg [jI p1.Low,jI p1.High]),(34,.agg [.d (.bool (r0_1 0)),.d (.bool (r0_1 1)),.d (.bool (r0_1 2)),.d (.bool (r0_1 3)),.d (.bool (r0_1 4)),.d (.bool (r0_1 5)),.d (.bool (r0_1 6)),.d (.bool (r0_1 7)),.d (.bool (r0_1 8)),.d (.bool (r0_1 9)),.d (.bool (r0_1 10)),.d (.bool (r0_1 11)),.d (.bool (r0_1 12)),.d (.bool (r0_1 13)),.d (.bool (r0_1 14)),.d (.bool (r0_1 15))])] [(3,.var 118 [.d (.bool (r0_1 0)),.d (.bool (r0_1 1)),.d (.bool (r0_1 2)),.d (.bool (r0_1 3)),.d (.bool (r0_1 4)),.d (.bool (r0_1 5)),.d (.bool (r0_1 6)),.d (.bool (r0_1 7)),.d (.bool (r0_1 8)),.d (.bool (r0_1 9)),.d (.bool (r0_1 10)),.d (.bool (r0_1 11)),.d (.bool (r0_1 12)),.d (.bool (r0_1 13)),.d (.bool (r0_1 14)),.d (.bool (r0_1 15))]),(0,.mp (List.map m104_3 m0))] 5 1) ?_
   obtain ⟨r0_1_1,hx_16,h⟩:=bsome h
   refine RW.one fokW (r_callvZ (zr:=[]) trivial rfl (.fn _) (by kernel_rfl) rfl (k99 p1 r0_1 _ hx_16) trivial ⟨.refl _,.refl _,trivial⟩ rfl rfl rfl rfl (r_end ?_))
   refine RW.nil (hQ_15 _ ?_)
   refine AW.cond rfl (fun hb_17=>?_) (fun hb_17=>?_)
   ·have h:=ifT hb_17 h
    refine Sa (sT [(8,.d (.bool false))] [(0,.mp (List.map m104_3 m0))] 5 1) ?_
    obtain rfl:=Option.some.inj h
    have e_1:=hb_10 _ rfl
    subst e_1
    obtain rfl:=Aft.bk hk_10
    exact rT hR_0 (.cons (.tmp rfl) .nil)
   ·have h:=ifF hb_17 h
    refine AW.skip (hK_13 _ ?_)
    refine Ra (sT [(3,.d (.fn 99)),pR 9 3,(26,.d (.sl 2 (List.map e47 p.Knots))),(27,jI (p.Knots.length:Int)),(28,jI (wr (v+1)))] [(3,.var 118 [.d (.bool (r0_1 0)),.d (.bool (r0_1 1)),.d (.bool (r0_1 2)),.d (.bool (r0_1 3)),.d (.bool (r0_1 4)),.d (.bool (r0_1 5)),.d (.bool (r0_1 6)),.d (.bool (r0_1 7)),.d (.bool (r0_1 8)),.d (.bool (r0_1 9)),.d (.bool (r0_1 10)),.d (.bool (r0_1 11)),.d (.bool (r0_1 12)),.d (.bool (r0_1 13)),.d (.bool (r0_1 14)),.d (.bool (r0_1 15))]),(0,.mp (List.map m104_3 m0))] 5 1) ?_
    obtain rfl:=Option.some.inj h
    have ew:wr (v+1)=v+1:=inext (N:=(p.Knots.length:Int)) (by omega) (by omega) (by omega)
    rw [ew]
    exact hK_10 _ _ rfl (Can.kp (by kernel_rfl))
  ·subst hout
   have h:=Aft.nx hk_10
   refine Sa (sT [(3,.d (.fn 99)),pR 9 3,(26,.d (.sl 2 (List.map e47 p.Knots))),(27,jI (p.Knots.length:Int)),(28,jI v),(29,.d (.bool (decide (v<(p.Knots.length:Int)))))] [(3,.var 118 [.d (.bool (r0_1 0)),.d (.bool (r0_1 1)),.d (.bool (r0_1 2)),.d (.bool (r0_1 3)),.d (.bool (r0_1 4)),.d (.bool (r0_1 5)),.d (.bool (r0_1 6)),.d (.bool (r0_1 7)),.d (.bool (r0_1 8)),.d (.bool (r0_1 9)),.d (.bool (r0_1 10)),.d (.bool (r0_1 11)),.d (.bool (r0_1 12)),.d (.bool (r0_1 13)),.d (.bool (r0_1 14)),.d (.bool (r0_1 15))]),(0,.mp (List.map m104_3 m0))] 4 1) ?_
   refine AW.seqK (fun K_18 hK_18=>?_)
   refine AW.cond rfl (fun hb_19=>False.elim (by have:=of_decide_eq_true hb_19;omega)) (fun hb_19=>?_)
   refine AW.exit ?_
   refine hK_7 _ ?_
   refine Sa (sT [(8,.d (.bool true))] [(0,.mp (List.map m104_3 m0))] 4 1) ?_
   obtain rfl:=Option.some.inj h
   exact rT hR_0 (.cons (.tmp rfl) .nil)
end Go.Proofs.Tp
namespace Go.Proofs.Tp
open Go Go.Abs Go.Proofs
def g75_9 (b_K:PlankBook) (s:Plank_spot) (m0:List (Plank_spot×Int)):Int→Unit→Option (Ctl (Unit) (Int)):=fun v1 _=>(ixN 2 v1).bind fun j=>match j with | 0=>(g78 b_K s false m0).bind fun r0_4=>(bif r0_4 then (some true) else ((ixL b_K.Parts s.part).bind fun p=>bif p.Turns then ((g78 b_K s true m0).bind fun r0_4_1=>some r0_4_1) else (some false))).bind fun v2=>bif v2 then (some (.brk (wr (2 - v1)))) else (some (.next ())) | 1=>(g78a b_K s false m0).bind fun r0_4_2=>(bif r0_4_2 then (some true) else ((ixL b_K.Parts s.part).bind fun p1=>bif p1.Turns then ((g78a b_K s true m0).bind fun r0_4_3=>some r0_4_3) else (some false))).bind fun v3=>bif v3 then (some (.brk (wr (2 - v1)))) else (some (.next ())) | _=>none
def g75 (b_K:PlankBook) (s:Plank_spot) (m0:List (Plank_spot×Int)):Option (Int×(List (Plank_spot×Int))):=(bif (mget q104 m0 s).isSome then (some true) else (some (false != ((s.plank==(-1))&&((s.part==(-1))&&((s.at_==(-1))&&true)))))).bind fun v=>bif v then (some (((mget q104 m0 s).getD 0),m0)) else (((bindC (forC (g75_9 b_K s m0) (((2:Int) - 0).toNat) 0 ()) fun _=>some ((mget q104 m0 s).getD 0)).bind fun n1=>some n1).bind fun n=>(mput q104 m0 s n).bind fun m=>some (n,m))
def y3 (s:Plank_spot) (b_K:PlankBook) (m0:List (Plank_spot×Int)):List (Nat×Blk):=[(2,.var 104 [jI s.plank,jI s.part,jI s.at_]),(1,.var 67 (pbm b_K (.map 0))),(0,.mp (List.map m104_3 m0))]
def y4 (m0:List (Plank_spot×Int)) (s:Plank_spot) (b_K:PlankBook):List (Nat×Blk):=[(0,.mp (List.map m104_3 m0)),(2,.var 104 [jI s.plank,jI s.part,jI s.at_]),(1,.var 67 (pbm b_K (.map 0)))]
theorem k75 (b_K:PlankBook) (s:Plank_spot) (m0:List (Plank_spot×Int)) (r:Int×(List (Plank_spot×Int))) (h:g75 b_K s m0=some r):SCall Tryd.prog Gs 75 [.agg (pbm b_K (.map 0)),.agg [jI s.plank,jI s.part,jI s.at_]] [(0,.mp (List.map m104_3 m0))] 1 Fr.emp (match r with | (r0_1,m0_2)=>jI r0_1) (match r with | (r0_1,m0_2)=>[(0,.mp (List.map m104_3 m0_2))]) 1 Fr.emp:=by
 unfold g75 at h
 refine SCall.mkK Tryd.func75 c75 rfl rfl (by kernel_rfl) (fun Q_0 hR_0 hN_0=>?_)
 refine Sa (sT [pR 2 1,pR 3 2] (y3 s b_K m0) 3 1) ?_
 refine AW.srwK (fun Q_1 hQ_1=>?_)
 refine Au 3 (sT [pR 2 1,pR 3 2,(11,.map 0),(12,.agg [jI s.plank,jI s.part,jI s.at_])] (y3 s b_K m0) 3 1) ?_
 refine RW.one fokW (r_lookC q104 e104 (fun x=>I x) m0 s 0 trivial rfl rfl rfl ft104 q104_ok (fun _=>rfl) rfl (r_end ?_))
 refine Au 5 (sT [pR 2 1,pR 3 2,(5,jI ((mget q104 m0 s).getD 0)),(6,.d (.bool ((mget q104 m0 s).isSome)))] (y3 s b_K m0) 3 1) ?_
 refine RW.nil (hQ_1 _ ?_)
 refine AW.seqK fun K_2 hK_2=>AW.srwK fun Q_3 hQ_3=>?_
 refine Au 2 (sT [pR 2 1,pR 3 2,(5,jI ((mget q104 m0 s).getD 0)),(17,.d (.bool ((mget q104 m0 s).isSome)))] (y3 s b_K m0) 3 1) ?_
 obtain ⟨v,hx_4,h⟩:=bsome h
 refine RW.cut fokW 4 ((sT [pR 2 1,pR 3 2,(5,jI ((mget q104 m0 s).getD 0)),(21,.d (.bool v))] (y3 s b_K m0) 3 1)) ?_ ?_
 ·refine r_split 17 rfl (fun hb_5=>?_) (fun hb_5=>?_)
  ·have h:=ifT hb_5 hx_4
   refine aX 4 (sT [pR 2 1,pR 3 2,(5,jI ((mget q104 m0 s).getD 0)),(21,.d (.bool true))] (y3 s b_K m0) 3 1) ?_
   obtain rfl:=Option.some.inj h
   refine RunC.finJ (Can.kp (by kernel_rfl))
  ·have h:=ifF hb_5 hx_4
   refine aX 2 (sT [pR 2 1,pR 3 2,(5,jI ((mget q104 m0 s).getD 0)),(17,.d (.bool false)),(18,.agg [jI s.plank,jI s.part,jI s.at_]),(19,.agg [jI (-1),jI (-1),jI (-1)])] (y3 s b_K m0) 3 1) ?_
   refine r_aeq rfl rfl rfl rfl rfl ft104 rfl rfl rfl ?_
   refine aX 1 (sT [pR 2 1,pR 3 2,(5,jI ((mget q104 m0 s).getD 0)),(21,.d (.bool (false != ((s.plank==(-1))&&((s.part==(-1))&&((s.at_==(-1))&&true))))))] (y3 s b_K m0) 3 1) ?_
   obtain rfl:=Option.some.inj h
   refine RunC.finJ (Can.kp (by kernel_rfl))
 ·refine RW.nil (hQ_3 _ ?_)
  refine AW.cond rfl (fun hb_6=>?_) (fun hb_6=>?_)
  ·have h:=ifT hb_6 h
   refine Sa (sT [(4,jI ((mget q104 m0 s).getD 0))] [(0,.mp (List.map m104_3 m0))] 3 1) ?_
   obtain rfl:=Option.some.inj h
   exact rT hR_0 (.cons (.tmp rfl) .nil)
  ·have h:=ifF hb_6 h
   refine AW.skip (hK_2 _ ?_)
   obtain ⟨n,hx_7,h⟩:=bsome h
   refine AW.jnSK (fun (n:Int)=>(sT [pR 2 1,pR 3 2,(5,jI n)] (y4 m0 s b_K) 3 1)) (c:=n) (fun K_7 hK_7=>?_) ?_
   ·have h:=hx_7
    refine Sa (sT [pR 2 1,pR 3 2,(5,jI ((mget q104 m0 s).getD 0)),(23,.agg [.d (.fn 96),.d (.fn 99)]),(24,jI 0)] (y3 s b_K m0) 3 1) ?_
    obtain ⟨n1,hx_8,h⟩:=bsome h
    refine AW.jqSK (fun (n1:Int)=>(sT [pR 2 1,pR 3 2,(5,jI n1)] (y4 m0 s b_K) 3 1)) (c:=n1) (fun K_8 hK_8=>?_) ?_
    ·have h:=hx_8
     refine AW.block ?_
     have hN_9:(2:Int)≤9223372036854775807:=by decide
     obtain ⟨out_9,hx_9,hk_9⟩:=bsomeC h
     refine AW.lpCK (fun (v1:Int) (_:Unit)=>(sT [pR 2 1,pR 3 2,(5,jI ((mget q104 m0 s).getD 0)),(23,.agg [.d (.fn 96),.d (.fn 99)]),(24,jI v1)] (y3 s b_K m0) 3 1)) (g75_9 b_K s m0) (2) hx_9 (Can.kp (by kernel_rfl)) (fun v1 s_9 hi_9 hl_9 c_9 h hb_9 K_9 hK_9=>?_) (fun v1 s_9 hi_9 hl_9 hout=>?_)
     ·unfold g75_9 at h
      refine Sa (sT [pR 2 1,pR 3 2,(5,jI ((mget q104 m0 s).getD 0)),(23,.agg [.d (.fn 96),.d (.fn 99)]),(24,jI v1),(25,.d (.bool (decide (v1<2))))] (y3 s b_K m0) 3 1) ?_
      refine AW.seqK (fun K_10 hK_10=>?_)
      refine AW.cond rfl (fun hb_11=>?_) (fun hb_11=>False.elim (by have:=of_decide_eq_false hb_11;omega))
      refine AW.skip (hK_10 _ ?_)
      refine AW.seqK (fun K_12 hK_12=>?_)
      refine AW.block ?_
      refine AW.srwK (fun Q_13 hQ_13=>?_)
      refine Au 1 (sT [pR 2 1,pR 3 2,(5,jI ((mget q104 m0 s).getD 0)),(23,.agg [.d (.fn 96),.d (.fn 99)]),(24,jI v1),(26,jI v1)] (y3 s b_K m0) 3 1) ?_
      obtain ⟨j,hv_14,h⟩:=bsome h
      rcases j with _ | _ | j
      ·refine RW.one fokW (r_idx trivial rfl rfl (ixN_ok hv_14).1 (ixN_ok hv_14).2.1 (u:=.d (.fn 96)) (by rw [(ixN_ok hv_14).2.2];rfl) (r_end ?_))
       refine Au 2 (sT [pR 2 1,pR 3 2,(5,jI ((mget q104 m0 s).getD 0)),(7,jI v1),(8,.d (.fn 96)),(23,.agg [.d (.fn 96),.d (.fn 99)]),(24,jI v1)] (y3 s b_K m0) 3 1) ?_
       refine RW.nil (hQ_13 _ ?_)
       refine AW.srwK (fun Q_15 hQ_15=>?_)
       refine Au 3 (sT [pR 2 1,pR 3 2,(5,jI ((mget q104 m0 s).getD 0)),(7,jI v1),(8,.d (.fn 96)),(23,.agg [.d (.fn 96),.d (.fn 99)]),(24,jI v1),(28,.agg (pbm b_K (.map 0))),(29,.agg [jI s.plank,jI s.part,jI s.at_]),(30,.d (.fn 96))] (y3 s b_K m0) 3 1) ?_
       obtain ⟨r0_4,hx_16,h⟩:=bsome h
       refine RW.one fokW (r_callS (zr:=[]) [0] trivial rfl (k78 b_K s false m0 _ hx_16) ⟨rfl,trivial⟩ rfl rfl ⟨.refl _,.refl _,.refl _,.refl _,trivial⟩ rfl rfl rfl (r_end ?_))
       refine Au 1 (sT [pR 2 1,pR 3 2,(5,jI ((mget q104 m0 s).getD 0)),(7,jI v1),(8,.d (.fn 96)),(23,.agg [.d (.fn 96),.d (.fn 99)]),(24,jI v1),(32,.d (.bool r0_4))] (y4 m0 s b_K) 3 1) ?_
       obtain ⟨v2,hx_17,h⟩:=bsome h
       refine RW.cut fokW 15 ((sT [pR 2 1,pR 3 2,(5,jI ((mget q104 m0 s).getD 0)),(7,jI v1),(23,.agg [.d (.fn 96),.d (.fn 99)]),(24,jI v1),(47,.d (.bool v2))] (y4 m0 s b_K) 3 1)) ?_ ?_
       ·refine r_split 32 rfl (fun hb_21=>?_) (fun hb_21=>?_)
        ·have h:=ifT hb_21 hx_17
         refine aX 15 (sT [pR 2 1,pR 3 2,(5,jI ((mget q104 m0 s).getD 0)),(7,jI v1),(23,.agg [.d (.fn 96),.d (.fn 99)]),(24,jI v1),(47,.d (.bool true))] (y4 m0 s b_K) 3 1) ?_
         obtain rfl:=Option.some.inj h
         refine RunC.finJ (Can.kp (by kernel_rfl))
        ·have h:=ifF hb_21 hx_17
         refine aX 5 (sT [pR 2 1,pR 3 2,(5,jI ((mget q104 m0 s).getD 0)),(7,jI v1),(8,.d (.fn 96)),(23,.agg [.d (.fn 96),.d (.fn 99)]),(24,jI v1),(32,.d (.bool false)),(35,.d (.sl 3 (List.map e35 b_K.Parts))),(37,jI s.part)] (y4 m0 s b_K) 3 1) ?_
         obtain ⟨p,hv_18,h⟩:=bsome h
         refine r_iaD rfl rfl rfl (ixL_ok hv_18).1 (row:=e35 p) (mapget (ixL_ok hv_18).2) ?_
         refine aX 3 (sT [pR 2 1,pR 3 2,(5,jI ((mget q104 m0 s).getD 0)),(7,jI v1),(8,.d (.fn 96)),(23,.agg [.d (.fn 96),.d (.fn 99)]),(24,jI v1),(32,.d (.bool false)),(41,.d (.bool p.Turns))] (y4 m0 s b_K) 3 1) ?_
         refine r_split 41 rfl (fun hb_19=>?_) (fun hb_19=>?_)
         ·have h:=ifT hb_19 h
          refine aX 3 (sT [pR 2 1,pR 3 2,(5,jI ((mget q104 m0 s).getD 0)),(7,jI v1),(23,.agg [.d (.fn 96),.d (.fn 99)]),(24,jI v1),(32,.d (.bool false)),(41,.d (.bool true)),(42,.agg (pbm b_K (.map 0))),(43,.agg [jI s.plank,jI s.part,jI s.at_]),(44,.d (.fn 96))] (y4 m0 s b_K) 3 1) ?_
          obtain ⟨r0_4_1,hx_20,h⟩:=bsome h
          refine r_callS (zr:=[]) [0] rfl rfl (k78 b_K s true m0 _ hx_20) ⟨rfl,trivial⟩ rfl rfl ⟨.refl _,.refl _,.refl _,.refl _,trivial⟩ rfl rfl rfl ?_
          refine aX 2 (sT [pR 2 1,pR 3 2,(5,jI ((mget q104 m0 s).getD 0)),(7,jI v1),(23,.agg [.d (.fn 96),.d (.fn 99)]),(24,jI v1),(47,.d (.bool r0_4_1))] (y4 m0 s b_K) 3 1) ?_
          obtain rfl:=Option.some.inj h
          refine RunC.finJ (Can.kp (by kernel_rfl))
         ·have h:=ifF hb_19 h
          refine aX 6 (sT [pR 2 1,pR 3 2,(5,jI ((mget q104 m0 s).getD 0)),(7,jI v1),(23,.agg [.d (.fn 96),.d (.fn 99)]),(24,jI v1),(47,.d (.bool false))] (y4 m0 s b_K) 3 1) ?_
          obtain rfl:=Option.some.inj h
          refine RunC.finJ (Can.kp (by kernel_rfl))
       ·refine RW.nil (hQ_15 _ ?_)
        refine AW.cond rfl (fun hb_22=>?_) (fun hb_22=>?_)
        ·have h:=ifT hb_22 h
         refine Sa (sT [pR 2 1,pR 3 2,(5,jI (wr (2 - v1)))] (y4 m0 s b_K) 3 1) ?_
         refine AW.exit ?_
         obtain rfl:=Option.some.inj h
         have e_3:=hb_9 _ rfl
         subst e_3
         obtain rfl:=Aft.bk hk_9
         exact hK_8 _ (Can.kp (by kernel_rfl))
        ·have h:=ifF hb_22 h
         refine AW.skip (hK_12 _ ?_)
         refine Ra (sT [pR 2 1,pR 3 2,(5,jI ((mget q104 m0 s).getD 0)),(23,.agg [.d (.fn 96),.d (.fn 99)]),(24,jI (wr (v1+1)))] (y4 m0 s b_K) 3 1) ?_
         obtain rfl:=Option.some.inj h
         have ew:wr (v1+1)=v1+1:=inext (N:=2) (by omega) (by omega) (by omega)
         rw [ew]
         exact hK_9 _ _ rfl (Can.kp (by kernel_rfl))
      ·refine RW.one fokW (r_idx trivial rfl rfl (ixN_ok hv_14).1 (ixN_ok hv_14).2.1 (u:=.d (.fn 99)) (by rw [(ixN_ok hv_14).2.2];rfl) (r_end ?_))
       refine Au 2 (sT [pR 2 1,pR 3 2,(5,jI ((mget q104 m0 s).getD 0)),(7,jI v1),(8,.d (.fn 99)),(23,.agg [.d (.fn 96),.d (.fn 99)]),(24,jI v1)] (y3 s b_K m0) 3 1) ?_
       refine RW.nil (hQ_13 _ ?_)
       refine AW.srwK (fun Q_23 hQ_23=>?_)
       refine Au 3 (sT [pR 2 1,pR 3 2,(5,jI ((mget q104 m0 s).getD 0)),(7,jI v1),(8,.d (.fn 99)),(23,.agg [.d (.fn 96),.d (.fn 99)]),(24,jI v1),(28,.agg (pbm b_K (.map 0))),(29,.agg [jI s.plank,jI s.part,jI s.at_]),(30,.d (.fn 99))] (y3 s b_K m0) 3 1) ?_
       obtain ⟨r0_4_2,hx_24,h⟩:=bsome h
       refine RW.one fokW (r_callS (zr:=[]) [0] trivial rfl (k78a b_K s false m0 _ hx_24) ⟨rfl,trivial⟩ rfl rfl ⟨.refl _,.refl _,.refl _,.refl _,trivial⟩ rfl rfl rfl (r_end ?_))
       refine Au 1 (sT [pR 2 1,pR 3 2,(5,jI ((mget q104 m0 s).getD 0)),(7,jI v1),(8,.d (.fn 99)),(23,.agg [.d (.fn 96),.d (.fn 99)]),(24,jI v1),(32,.d (.bool r0_4_2))] (y4 m0 s b_K) 3 1) ?_
       obtain ⟨v3,hx_25,h⟩:=bsome h
       refine RW.cut fokW 15 ((sT [pR 2 1,pR 3 2,(5,jI ((mget q104 m0 s).getD 0)),(7,jI v1),(23,.agg [.d (.fn 96),.d (.fn 99)]),(24,jI v1),(47,.d (.bool v3))] (y4 m0 s b_K) 3 1)) ?_ ?_
       ·refine r_split 32 rfl (fun hb_29=>?_) (fun hb_29=>?_)
        ·have h:=ifT hb_29 hx_25
         refine aX 15 (sT [pR 2 1,pR 3 2,(5,jI ((mget q104 m0 s).getD 0)),(7,jI v1),(23,.agg [.d (.fn 96),.d (.fn 99)]),(24,jI v1),(47,.d (.bool true))] (y4 m0 s b_K) 3 1) ?_
         obtain rfl:=Option.some.inj h
         refine RunC.finJ (Can.kp (by kernel_rfl))
        ·have h:=ifF hb_29 hx_25
         refine aX 5 (sT [pR 2 1,pR 3 2,(5,jI ((mget q104 m0 s).getD 0)),(7,jI v1),(8,.d (.fn 99)),(23,.agg [.d (.fn 96),.d (.fn 99)]),(24,jI v1),(32,.d (.bool false)),(35,.d (.sl 3 (List.map e35 b_K.Parts))),(37,jI s.part)] (y4 m0 s b_K) 3 1) ?_
         obtain ⟨p1,hv_26,h⟩:=bsome h
         refine r_iaD rfl rfl rfl (ixL_ok hv_26).1 (row:=e35 p1) (mapget (ixL_ok hv_26).2) ?_
         refine aX 3 (sT [pR 2 1,pR 3 2,(5,jI ((mget q104 m0 s).getD 0)),(7,jI v1),(8,.d (.fn 99)),(23,.agg [.d (.fn 96),.d (.fn 99)]),(24,jI v1),(32,.d (.bool false)),(41,.d (.bool p1.Turns))] (y4 m0 s b_K) 3 1) ?_
         refine r_split 41 rfl (fun hb_27=>?_) (fun hb_27=>?_)
         ·have h:=ifT hb_27 h
          refine aX 3 (sT [pR 2 1,pR 3 2,(5,jI ((mget q104 m0 s).getD 0)),(7,jI v1),(23,.agg [.d (.fn 96),.d (.fn 99)]),(24,jI v1),(32,.d (.bool false)),(41,.d (.bool true)),(42,.agg (pbm b_K (.map 0))),(43,.agg [jI s.plank,jI s.part,jI s.at_]),(44,.d (.fn 99))] (y4 m0 s b_K) 3 1) ?_
          obtain ⟨r0_4_3,hx_28,h⟩:=bsome h
          refine r_callS (zr:=[]) [0] rfl rfl (k78a b_K s true m0 _ hx_28) ⟨rfl,trivial⟩ rfl rfl ⟨.refl _,.refl _,.refl _,.refl _,trivial⟩ rfl rfl rfl ?_
          refine aX 2 (sT [pR 2 1,pR 3 2,(5,jI ((mget q104 m0 s).getD 0)),(7,jI v1),(23,.agg [.d (.fn 96),.d (.fn 99)]),(24,jI v1),(47,.d (.bool r0_4_3))] (y4 m0 s b_K) 3 1) ?_
          obtain rfl:=Option.some.inj h
          refine RunC.finJ (Can.kp (by kernel_rfl))
         ·have h:=ifF hb_27 h
          refine aX 6 (sT [pR 2 1,pR 3 2,(5,jI ((mget q104 m0 s).getD 0)),(7,jI v1),(23,.agg [.d (.fn 96),.d (.fn 99)]),(24,jI v1),(47,.d (.bool false))] (y4 m0 s b_K) 3 1) ?_
          obtain rfl:=Option.some.inj h
          refine RunC.finJ (Can.kp (by kernel_rfl))
       ·refine RW.nil (hQ_23 _ ?_)
        refine AW.cond rfl (fun hb_30=>?_) (fun hb_30=>?_)
        ·have h:=ifT hb_30 h
         refine Sa (sT [pR 2 1,pR 3 2,(5,jI (wr (2 - v1)))] (y4 m0 s b_K) 3 1) ?_
         refine AW.exit ?_
         obtain rfl:=Option.some.inj h
         have e_3:=hb_9 _ rfl
         subst e_3
         obtain rfl:=Aft.bk hk_9
         exact hK_8 _ (Can.kp (by kernel_rfl))
        ·have h:=ifF hb_30 h
         refine AW.skip (hK_12 _ ?_)
         refine Ra (sT [pR 2 1,pR 3 2,(5,jI ((mget q104 m0 s).getD 0)),(23,.agg [.d (.fn 96),.d (.fn 99)]),(24,jI (wr (v1+1)))] (y4 m0 s b_K) 3 1) ?_
         obtain rfl:=Option.some.inj h
         have ew:wr (v1+1)=v1+1:=inext (N:=2) (by omega) (by omega) (by omega)
         rw [ew]
         exact hK_9 _ _ rfl (Can.kp (by kernel_rfl))
      ·cases h
     ·subst hout
      have h:=Aft.nx hk_9
      refine Sa (sT [pR 2 1,pR 3 2,(5,jI ((mget q104 m0 s).getD 0)),(23,.agg [.d (.fn 96),.d (.fn 99)]),(24,jI v1),(25,.d (.bool (decide (v1<2))))] (y3 s b_K m0) 3 1) ?_
      refine AW.seqK (fun K_31 hK_31=>?_)
      refine AW.cond rfl (fun hb_32=>False.elim (by have:=of_decide_eq_true hb_32;omega)) (fun hb_32=>?_)
      refine AW.exit ?_
      obtain rfl:=Option.some.inj h
      exact hK_8 _ (Can.kp (by kernel_rfl))
    ·obtain rfl:=Option.some.inj h
     exact hK_7 _ (Can.kp (by kernel_rfl))
   ·refine AW.srwK (fun Q_33 hQ_33=>?_)
    refine Au 4 (sT [(5,jI n),(52,.map 0),(53,.agg [jI s.plank,jI s.part,jI s.at_]),(54,jI n)] [(0,.mp (List.map m104_3 m0))] 3 1) ?_
    obtain ⟨m,hv_34,h⟩:=bsome h
    refine RW.one fokW (r_mput q104 e104 (fun x=>DV.c (I x)) trivial rfl rfl rfl rfl ft104 q104_ok (fun _=>rfl) rfl hv_34 (r_end ?_))
    refine RW.nil (hQ_33 _ ?_)
    refine Sa (sT [(4,jI n)] [(0,.mp (List.map m104_3 m))] 3 1) ?_
    obtain rfl:=Option.some.inj h
    exact rT hR_0 (.cons (.tmp rfl) .nil)
theorem mfd_mem {K W:Type} {q:K→K→Bool} {k:K}:∀ {m:List (K×W)} {i:Nat} {x:Nat×W},mfd q k m i=some x→∃ p,p∈m∧q k p.1=true∧p.2=x.2
 | [],i,x,h=>by cases h
 | p::m,i,x,h=>by
  rw [mfd] at h
  cases hq:q k p.1 with
  | true=>rw [hq] at h;cases h;exact ⟨p,by simp,hq,rfl⟩
  | false=>
   rw [hq] at h
   obtain ⟨p',h1,h2⟩:=mfd_mem (show mfd q k m (i+1)=some x from h)
   exact ⟨p',by simp [h1],h2⟩
theorem mget_mem {K W:Type} {q:K→K→Bool} {k:K} {m:List (K×W)} {w:W} (h:mget q m k=some w):∃ p,p∈m∧q k p.1=true∧p.2=w:=by
 unfold mget at h
 rw [Option.map_eq_some_iff] at h
 obtain ⟨x,h1,h2⟩:=h
 obtain ⟨p,p1,p2,p3⟩:=mfd_mem h1
 exact ⟨p,p1,p2,p3.trans h2⟩
theorem q104_eq {x y:Plank_spot} (h:q104 x y=true):x=y:=by
 cases x;cases y
 simp [q104] at h
 simp [h]
def canB (b:PlankBook) (s:Plank_spot):Bool:=match ixL b.Parts s.part with
 | some p=>p.Joints.isEmpty
 | none=>false
theorem canB_part {b:PlankBook} {s:Plank_spot} (h:canB b s=true):s.part≠-1∧∃ p,ixL b.Parts s.part=some p∧p.Joints=[]:=by
 unfold canB at h
 cases hp:ixL b.Parts s.part with
 | none=>rw [hp] at h;cases h
 | some p=>
  rw [hp] at h
  refine ⟨fun e=>?_,p,rfl,List.isEmpty_iff.1 h⟩
  rw [e] at hp;cases hp
theorem can_is {b:PlankBook} {s:Plank_spot} {m:List (Plank_spot×Int)} (h:canB b s=true) (hm:wimB m=true):∃ m',g75 b s m=some (2,m')∧wimB m'=true:=by
 obtain ⟨hp,p,hpp,hj⟩:=canB_part h
 have hb:((s.part==(-1)):Bool)=false:=beq_eq_false_iff_ne.2 hp
 cases hg:mget q104 m s with
 | some v=>
  refine ⟨m,?_,hm⟩
  obtain ⟨e,he,hq,hv⟩:=mget_mem hg
  have he2:=List.all_eq_true.1 hm e he
  have hv2:v=2:=by
   have:=q104_eq hq
   have hn:q104 e.1 (Plank_spot.mk (-1) (-1) (-1))=false:=by
    cases hx:q104 e.1 (Plank_spot.mk (-1) (-1) (-1)) with
    | false=>rfl
    | true=>
     have h1:=q104_eq hx
     rw [← this] at h1
     exact absurd (congrArg Plank_spot.part h1) hp
   rw [hn,Bool.or_false,decide_eq_true_eq] at he2
   exact hv.symm.trans he2
  unfold g75
  rw [hg,hv2]
  rfl
 | none=>
  refine ⟨m++[(s,2)],?_,?_⟩
  ·have e78:g78 b s false m=some true:=by
    unfold g78
    have e79:g79 b s false m=g69:=by
     unfold g79
     rw [hpp]
     show (g69.bind fun r0=>((eachS (g79_7 s false p) p.Joints 0 r0).bind fun l=>some l))=g69
     rw [hj]
     rfl
    rw [e79]
    rfl
   have e9:g75_9 b s m 0 ()=some (.brk 2):=by
    unfold g75_9
    rw [show ixN 2 0=some 0 from rfl]
    show ((g78 b s false m).bind fun r0_4=>_)=_
    rw [e78]
    rfl
   unfold g75
   rw [hg]
   show ((some (false != (((s.plank==(-1)):Bool)&&((s.part==(-1))&&((s.at_==(-1))&&true))))).bind fun v=>_)=_
   rw [hb,Bool.false_and,Bool.and_false]
   show ((((bindC (forC (g75_9 b s m) 2 0 ()) fun _=>_)).bind fun n1=>_).bind fun n=>_)=_
   rw [forC,e9]
   show (mput q104 m s 2).bind _=_
   unfold mput
   rw [hg]
   rfl
  ·unfold wimB
   rw [List.all_append]
   unfold wimB at hm
   rw [hm]
   rfl
def gW75 (b:PlankBook) (s:Plank_spot):Option Int:=(must (canB b s)).bind fun _=>some 2
theorem kW75 (g_:Nat) (fr_:Fr) (hW_:FrW g_ WI fr_) (b_K:PlankBook) (s:Plank_spot) (r:Int) (h:gW75 b_K s=some r):SCall Tryd.prog Gs 75 [.agg (pbm b_K (.wmp g_)),.agg [jI s.plank,jI s.part,jI s.at_]] [] 0 fr_ (jI r) [] 0 fr_:=by
 unfold gW75 at h
 obtain ⟨_,h1,h⟩:=bsome h
 cases h
 refine SCall.wild (vs':=[.agg (pbm b_K (.map 0)),.agg [jI s.plank,jI s.part,jI s.at_]]) WIm_pl hW_ rfl rfl rfl ?_
 rintro es ⟨m,rfl,hm⟩
 obtain ⟨m',e,hm'⟩:=can_is (must_ok h1) hm
 exact ⟨_,WIm_of hm',k75 b_K s m (2,m') e⟩
def g73_3 {S_:Type} (c_:Int→S_→Option (S_×Bool)) (o0_K:PlankBook) (o1:Int) (o2:Int):Int→S_→Option (Ctl (S_) (S_)):=fun v s_1=>(g74 o0_K (Plank_spot.mk o1 o2 v)).bind fun r0_1=>(bif (!r0_1) then (some true) else ((gW75 o0_K (Plank_spot.mk o1 o2 v)).bind fun r0=>some (decide (r0<2)))).bind fun v1=>bif v1 then (some (.next s_1)) else ((c_ v s_1).bind fun (s_2,go)=>bif (!go) then (some (.brk s_2)) else (some (.next s_2)))
def g73 {S_:Type} (c_:Int→S_→Option (S_×Bool)) (o0_K:PlankBook) (o1:Int) (o2:Int) (s_:S_):Option S_:=(ixL o0_K.Planks o1).bind fun p=>(must (decide (p.Long≤9223372036854775807))).bind fun _=>bindC (forC (g73_3 c_ o0_K o1 o2) (((p.Long:Int) - 0).toNat) 0 s_) fun s_1=>some s_1
def y5 (o0_K:PlankBook) (g_:Nat) (o1:Int) (o2:Int):List (Nat×Blk):=[(0,.var 67 (pbm o0_K (.wmp g_))),(1,.var 3 [jI o1]),(2,.var 3 [jI o2])]
def y6 (o1:Int) (o2:Int) (v:Int) (o0_K:PlankBook) (g_:Nat):List (Nat×Blk):=[(3,.var 104 [jI o1,jI o2,jI v]),(0,.var 67 (pbm o0_K (.wmp g_))),(1,.var 3 [jI o1]),(2,.var 3 [jI o2])]
theorem k73 (g_:Nat) {S_:Type} (fr_:S_→Fr) (hW_:∀ s,FrW g_ WI (fr_ s)) (c_:Int→S_→Option (S_×Bool)) (hc_:∀ (a0:Int) s s2 b,c_ a0 s=some (s2,b)→YCall Tryd.prog Gs (fr_ s) [jI a0] (.d (.bool b)) (fr_ s2)) (o0_K:PlankBook) (o1:Int) (o2:Int) (s_:S_) (r:S_) (h:g73 c_ o0_K o1 o2 s_=some r):SCall Tryd.prog Gs 73 [.yld,.ptr 0 0,.ptr 1 0,.ptr 2 0] [(0,.var 67 (pbm o0_K (.wmp g_))),(1,.var 3 [jI o1]),(2,.var 3 [jI o2])] 3 (fr_ s_) (.tup []) [(0,.var 67 (pbm o0_K (.wmp g_))),(1,.var 3 [jI o1]),(2,.var 3 [jI o2])] 3 (fr_ r):=by
 unfold g73 at h
 refine SCall.mkK Tryd.func73 c73 rfl rfl (by kernel_rfl) (fun Q_0 hR_0 hN_0=>?_)
 refine AW.scope ?_
 refine AW.seq (AW.skip ?_)
 refine AW.srwK (fun Q_1 hQ_1=>?_)
 refine Au 4 ⟨[(0,.yld),pR 1 0,pR 2 1,pR 3 2,(9,.d (.sl 2 (List.map e32 o0_K.Planks))),(10,jI o1)],(y5 o0_K g_ o1 o2),3,(fr_ s_),[],3⟩ ?_
 obtain ⟨p,hv_2,h⟩:=bsome h
 refine RW.one fokW (r_iaD trivial rfl rfl (ixL_ok hv_2).1 (row:=e32 p) (mapget (ixL_ok hv_2).2) (r_end ?_))
 refine Au 3 ⟨[(0,.yld),pR 1 0,pR 2 1,pR 3 2,(13,jI p.Long),(14,jI 0)],(y5 o0_K g_ o1 o2),3,(fr_ s_),[],3⟩ ?_
 refine RW.nil (hQ_1 _ ?_)
 refine AW.block ?_
 obtain ⟨_,hN_3,h⟩:=bsome h
 have hN_3:=of_decide_eq_true (must_ok hN_3)
 obtain ⟨out_3,hx_3,hk_3⟩:=bsomeC h
 refine AW.lpCK (fun (v:Int) (s_1:S_)=>⟨[(0,.yld),pR 1 0,pR 2 1,pR 3 2,(13,jI p.Long),(14,jI v)],(y5 o0_K g_ o1 o2),3,(fr_ s_1),[],3⟩) (g73_3 c_ o0_K o1 o2) (p.Long) hx_3 (Can.kp (by kernel_rfl)) (fun v s_1 hi_3 hl_3 c_3 h hb_3 K_3 hK_3=>?_) (fun v s_1 hi_3 hl_3 hout=>?_)
 ·unfold g73_3 at h
  refine Sa ⟨[(0,.yld),pR 1 0,pR 2 1,pR 3 2,(13,jI p.Long),(14,jI v),(15,.d (.bool (decide (v<p.Long))))],(y5 o0_K g_ o1 o2),3,(fr_ s_1),[],3⟩ ?_
  refine AW.seqK (fun K_4 hK_4=>?_)
  refine AW.cond rfl (fun hb_5=>?_) (fun hb_5=>False.elim (by have:=of_decide_eq_false hb_5;omega))
  refine AW.skip (hK_4 _ ?_)
  refine AW.seqK (fun K_6 hK_6=>?_)
  refine AW.block ?_
  refine Sa ⟨[(0,.yld),pR 1 0,pR 2 1,pR 3 2,(5,jI v),(13,jI p.Long),(14,jI v)],(y5 o0_K g_ o1 o2),3,(fr_ s_1),[],3⟩ ?_
  refine Sa ⟨[(0,.yld),pR 1 0,pR 2 1,pR 3 2,(5,jI v),pR 6 3,(13,jI p.Long),(14,jI v)],(y6 o1 o2 v o0_K g_),4,(fr_ s_1),[],3⟩ ?_
  refine AW.seqK fun K_7 hK_7=>AW.srwK fun Q_8 hQ_8=>?_
  refine Au 2 ⟨[(0,.yld),pR 1 0,pR 2 1,pR 3 2,(5,jI v),pR 6 3,(13,jI p.Long),(14,jI v),(21,.agg (pbm o0_K (.wmp g_))),(22,.agg [jI o1,jI o2,jI v])],(y6 o1 o2 v o0_K g_),4,(fr_ s_1),[],3⟩ ?_
  obtain ⟨r0_1,hx_9,h⟩:=bsome h
  refine RW.one fokW (r_callSW (zr:=[]) [] trivial rfl (k74 g_ (fr_ s_1) (hW_ s_1) o0_K (Plank_spot.mk o1 o2 v) _ hx_9) trivial rfl rfl ⟨.refl _,.refl _,trivial⟩ rfl rfl rfl (r_end ?_))
  refine Au 2 ⟨[(0,.yld),pR 1 0,pR 2 1,pR 3 2,(5,jI v),pR 6 3,(13,jI p.Long),(14,jI v),(25,.d (.bool (!r0_1)))],(y6 o1 o2 v o0_K g_),4,(fr_ s_1),[],3⟩ ?_
  obtain ⟨v1,hx_10,h⟩:=bsome h
  refine RW.cut fokW 5 (⟨[(0,.yld),pR 1 0,pR 2 1,pR 3 2,(5,jI v),(13,jI p.Long),(14,jI v),(30,.d (.bool v1))],(y5 o0_K g_ o1 o2),4,(fr_ s_1),[],3⟩) ?_ ?_
  ·refine r_split 25 rfl (fun hb_12=>?_) (fun hb_12=>?_)
   ·have h:=ifT hb_12 hx_10
    refine aX 5 ⟨[(0,.yld),pR 1 0,pR 2 1,pR 3 2,(5,jI v),(13,jI p.Long),(14,jI v),(30,.d (.bool true))],(y6 o1 o2 v o0_K g_),4,(fr_ s_1),[],3⟩ ?_
    obtain rfl:=Option.some.inj h
    refine RunC.finJ (Can.kp (by kernel_rfl))
   ·have h:=ifF hb_12 hx_10
    refine aX 2 ⟨[(0,.yld),pR 1 0,pR 2 1,pR 3 2,(5,jI v),(13,jI p.Long),(14,jI v),(25,.d (.bool false)),(26,.agg (pbm o0_K (.wmp g_))),(27,.agg [jI o1,jI o2,jI v])],(y6 o1 o2 v o0_K g_),4,(fr_ s_1),[],3⟩ ?_
    obtain ⟨r0,hx_11,h⟩:=bsome h
    refine r_callSW (zr:=[]) [] rfl rfl (kW75 g_ (fr_ s_1) (hW_ s_1) o0_K (Plank_spot.mk o1 o2 v) _ hx_11) trivial rfl rfl ⟨.refl _,.refl _,trivial⟩ rfl rfl rfl ?_
    refine aX 2 ⟨[(0,.yld),pR 1 0,pR 2 1,pR 3 2,(5,jI v),(13,jI p.Long),(14,jI v),(30,.d (.bool (decide (r0<2))))],(y6 o1 o2 v o0_K g_),4,(fr_ s_1),[],3⟩ ?_
    obtain rfl:=Option.some.inj h
    refine RunC.finJ (Can.kp (by kernel_rfl))
  ·refine RW.nil (hQ_8 _ ?_)
   refine AW.cond rfl (fun hb_13=>?_) (fun hb_13=>?_)
   ·have h:=ifT hb_13 h
    refine AW.exit ?_
    refine hK_6 _ ?_
    refine Ra ⟨[(0,.yld),pR 1 0,pR 2 1,pR 3 2,(13,jI p.Long),(14,jI (wr (v+1)))],(y5 o0_K g_ o1 o2),4,(fr_ s_1),[],3⟩ ?_
    obtain rfl:=Option.some.inj h
    have ew:wr (v+1)=v+1:=inext (N:=p.Long) (by omega) (by omega) (by omega)
    rw [ew]
    exact hK_3 _ _ rfl (Can.kp (by kernel_rfl))
   ·have h:=ifF hb_13 h
    refine AW.skip (hK_7 _ ?_)
    refine AW.srwK (fun Q_14 hQ_14=>?_)
    refine Au 2 ⟨[(0,.yld),pR 1 0,pR 2 1,pR 3 2,(13,jI p.Long),(14,jI v),(31,.yld),(32,jI v)],(y5 o0_K g_ o1 o2),4,(fr_ s_1),[],3⟩ ?_
    obtain ⟨⟨s_2,go⟩,hx_15,h⟩:=bsome h
    refine RW.one fokW (r_yield (zr:=[]) trivial rfl rfl (hc_ v _ _ _ hx_15) trivial ⟨.refl _,trivial⟩ rfl rfl rfl rfl (r_end ?_))
    refine Au 1 ⟨[(0,.yld),pR 1 0,pR 2 1,pR 3 2,(13,jI p.Long),(14,jI v),(34,.d (.bool (!go)))],(y5 o0_K g_ o1 o2),4,(fr_ s_2),[],3⟩ ?_
    refine RW.nil (hQ_14 _ ?_)
    refine AW.cond rfl (fun hb_16=>?_) (fun hb_16=>?_)
    ·have h:=ifT hb_16 h
     obtain rfl:=Option.some.inj h
     have e_1:=hb_3 _ rfl
     subst e_1
     obtain rfl:=Aft.bk hk_3
     exact rT hR_0 .nil
    ·have h:=ifF hb_16 h
     refine AW.skip (hK_6 _ ?_)
     refine Ra ⟨[(0,.yld),pR 1 0,pR 2 1,pR 3 2,(13,jI p.Long),(14,jI (wr (v+1)))],(y5 o0_K g_ o1 o2),4,(fr_ s_2),[],3⟩ ?_
     obtain rfl:=Option.some.inj h
     have ew:wr (v+1)=v+1:=inext (N:=p.Long) (by omega) (by omega) (by omega)
     rw [ew]
     exact hK_3 _ _ rfl (Can.kp (by kernel_rfl))
 ·subst hout
  have h:=Aft.nx hk_3
  refine Sa ⟨[(0,.yld),pR 1 0,pR 2 1,pR 3 2,(13,jI p.Long),(14,jI v),(15,.d (.bool (decide (v<p.Long))))],(y5 o0_K g_ o1 o2),3,(fr_ s_1),[],3⟩ ?_
  refine AW.seqK (fun K_17 hK_17=>?_)
  refine AW.cond rfl (fun hb_18=>False.elim (by have:=of_decide_eq_true hb_18;omega)) (fun hb_18=>?_)
  refine AW.exit ?_
  obtain rfl:=Option.some.inj h
  exact hN_0 _ (retX .nil (.refl _) rfl (by kernel_rfl) (by kernel_rfl))
def g66_17 (a:Int):Int→(Nat→Bool)→Option (Nat→Bool):=fun v1 next_=>(ixN 16 (wr (a+v1))).bind fun j=>some (aset next_ j true)
def g66_r9 (rec_:(Nat→Bool)→(List Int)→(List Int)→PlankBook→Int→Option ((List Int)×Bool)) (taken:(Nat→Bool)) (out:(List Int)) (o0:(List Int)) (o1_K:PlankBook) (o2:Int) (p:Int):Int→(Unit)→Option (Ctl (Unit) (List Int)):=fun a _=>(ixL o1_K.Parts p).bind fun p1=>(subA 16 taken a (wr (a+p1.Long))).bind fun l=>(g68 l true).bind fun r0=>bif r0 then (some (.next ())) else ((must (decide (p1.Long≤9223372036854775807))).bind fun _=>(forS (g66_17 a) (((p1.Long:Int) - 0).toNat) 0 taken).bind fun next_=>(slcL out 0 (out.length:Int)).bind fun l1=>(appL 8 l1 [a]).bind fun l2=>(rec_ next_ l2 o0 o1_K o2).bind fun (r0_4_1,r1_3_1)=>bif r1_3_1 then (some (.brk r0_4_1)) else (some (.next ())))
def g66:Nat→(Nat→Bool)→(List Int)→(List Int)→PlankBook→Int→Option ((List Int)×Bool)
 | 0,_,_,_,_,_=>none
 | n_+1,taken,out,o0,o1_K,o2=>bif (decide ((out.length:Int)=(o0.length:Int))) then (some (out,true)) else ((ixL o0 (out.length:Int)).bind fun p=>(g67 o1_K o2 p).bind fun (o0_K,o1,o2_1)=>(g73 (fun a s=>rndC (g66_r9 (g66 n_) taken out o0 o1_K o2 p) a s) o0_K o1 o2_1 (.next ())).bind fun out_9=>match out_9 with | .next _=>some ([],false) | .brk v=>some (v,true))
def y7 (out:(List Int)) (taken:(Nat→Bool)) (o0:(List Int)) (o1_K:PlankBook) (g_:Nat) (o2:Int):List (Nat×Blk):=[(7,.var 4 [.d (.bool false)]),(6,.var 33 [.d (.nilSl)]),(5,.var 33 [.d (q1 out)]),(4,.var 118 [.d (.bool (taken 0)),.d (.bool (taken 1)),.d (.bool (taken 2)),.d (.bool (taken 3)),.d (.bool (taken 4)),.d (.bool (taken 5)),.d (.bool (taken 6)),.d (.bool (taken 7)),.d (.bool (taken 8)),.d (.bool (taken 9)),.d (.bool (taken 10)),.d (.bool (taken 11)),.d (.bool (taken 12)),.d (.bool (taken 13)),.d (.bool (taken 14)),.d (.bool (taken 15))]),(0,.var 33 [.d (q1 o0)]),(1,.var 67 (pbm o1_K (.wmp g_))),(2,.var 3 [jI o2]),(3,.var 116 [.clo 66 [] [.ptr 0 0,.ptr 1 0,.ptr 2 0,.ptr 3 0]])]
theorem k66 (g_:Nat) (fr_:Fr) (hW_:FrW g_ WI fr_):∀ (n_:Nat) (taken:(Nat→Bool)) (out:(List Int)) (o0:(List Int)) (o1_K:PlankBook) (o2:Int) (r:(List Int)×Bool) (h:g66 n_ taken out o0 o1_K o2=some r),SCall Tryd.prog Gs 66 [.agg [.d (.bool (taken 0)),.d (.bool (taken 1)),.d (.bool (taken 2)),.d (.bool (taken 3)),.d (.bool (taken 4)),.d (.bool (taken 5)),.d (.bool (taken 6)),.d (.bool (taken 7)),.d (.bool (taken 8)),.d (.bool (taken 9)),.d (.bool (taken 10)),.d (.bool (taken 11)),.d (.bool (taken 12)),.d (.bool (taken 13)),.d (.bool (taken 14)),.d (.bool (taken 15))],.d (q1 out),.ptr 0 0,.ptr 1 0,.ptr 2 0,.ptr 3 0] [(0,.var 33 [.d (q1 o0)]),(1,.var 67 (pbm o1_K (.wmp g_))),(2,.var 3 [jI o2]),(3,.var 116 [.clo 66 [] [.ptr 0 0,.ptr 1 0,.ptr 2 0,.ptr 3 0]])] 4 fr_ (match r with | (r0_4,r1_3)=>.tup [.d (q1 r0_4),.d (.bool r1_3)]) (match r with | (r0_4,r1_3)=>[(0,.var 33 [.d (q1 o0)]),(1,.var 67 (pbm o1_K (.wmp g_))),(2,.var 3 [jI o2]),(3,.var 116 [.clo 66 [] [.ptr 0 0,.ptr 1 0,.ptr 2 0,.ptr 3 0]])]) 4 fr_:=by
 intro n_
 induction n_ with
 | zero=>intro taken out o0 o1_K o2 r h;cases h
 | succ n_ ih=>
  intro taken out o0 o1_K o2 r h
  rw [g66] at h
  refine SCall.mkK Tryd.func66 c66 rfl rfl (by kernel_rfl) (fun Q_0 hR_0 hN_0=>?_)
  refine Sa ⟨[pR 2 0,pR 3 1,pR 4 2,pR 5 3,pR 6 4,pR 7 5,pR 8 6,pR 9 7],(y7 out taken o0 o1_K g_ o2),8,fr_,[],4⟩ ?_
  refine AW.srwK (fun Q_1 hQ_1=>?_)
  refine Au 1 ⟨[pR 2 0,pR 3 1,pR 4 2,pR 5 3,pR 6 4,pR 7 5,pR 8 6,pR 9 7,(17,.d (q1 out))],(y7 out taken o0 o1_K g_ o2),8,fr_,[],4⟩ ?_
  refine rL rfl ?_
  refine Au 2 ⟨[pR 2 0,pR 3 1,pR 4 2,pR 5 3,pR 6 4,pR 7 5,pR 8 6,pR 9 7,pR 10 8],[(8,.var 3 [jI (out.length:Int)]),(7,.var 4 [.d (.bool false)]),(6,.var 33 [.d (.nilSl)]),(5,.var 33 [.d (q1 out)]),(4,.var 118 [.d (.bool (taken 0)),.d (.bool (taken 1)),.d (.bool (taken 2)),.d (.bool (taken 3)),.d (.bool (taken 4)),.d (.bool (taken 5)),.d (.bool (taken 6)),.d (.bool (taken 7)),.d (.bool (taken 8)),.d (.bool (taken 9)),.d (.bool (taken 10)),.d (.bool (taken 11)),.d (.bool (taken 12)),.d (.bool (taken 13)),.d (.bool (taken 14)),.d (.bool (taken 15))]),(0,.var 33 [.d (q1 o0)]),(1,.var 67 (pbm o1_K (.wmp g_))),(2,.var 3 [jI o2]),(3,.var 116 [.clo 66 [] [.ptr 0 0,.ptr 1 0,.ptr 2 0,.ptr 3 0]])],9,fr_,[],4⟩ ?_
  refine RW.nil (hQ_1 _ ?_)
  refine AW.seqK fun K_2 hK_2=>AW.srwK fun Q_3 hQ_3=>?_
  refine Au 2 ⟨[pR 2 0,pR 3 1,pR 4 2,pR 5 3,pR 6 4,pR 7 5,pR 8 6,pR 9 7,pR 10 8,(19,jI (out.length:Int)),(20,.d (q1 o0))],[(8,.var 3 [jI (out.length:Int)]),(7,.var 4 [.d (.bool false)]),(6,.var 33 [.d (.nilSl)]),(5,.var 33 [.d (q1 out)]),(4,.var 118 [.d (.bool (taken 0)),.d (.bool (taken 1)),.d (.bool (taken 2)),.d (.bool (taken 3)),.d (.bool (taken 4)),.d (.bool (taken 5)),.d (.bool (taken 6)),.d (.bool (taken 7)),.d (.bool (taken 8)),.d (.bool (taken 9)),.d (.bool (taken 10)),.d (.bool (taken 11)),.d (.bool (taken 12)),.d (.bool (taken 13)),.d (.bool (taken 14)),.d (.bool (taken 15))]),(0,.var 33 [.d (q1 o0)]),(1,.var 67 (pbm o1_K (.wmp g_))),(2,.var 3 [jI o2]),(3,.var 116 [.clo 66 [] [.ptr 0 0,.ptr 1 0,.ptr 2 0,.ptr 3 0]])],9,fr_,[],4⟩ ?_
  refine rL rfl ?_
  refine Au 1 ⟨[pR 2 0,pR 3 1,pR 4 2,pR 5 3,pR 6 4,pR 7 5,pR 8 6,pR 9 7,pR 10 8,(22,.d (.bool (decide ((out.length:Int)=(o0.length:Int)))))],[(8,.var 3 [jI (out.length:Int)]),(7,.var 4 [.d (.bool false)]),(6,.var 33 [.d (.nilSl)]),(5,.var 33 [.d (q1 out)]),(4,.var 118 [.d (.bool (taken 0)),.d (.bool (taken 1)),.d (.bool (taken 2)),.d (.bool (taken 3)),.d (.bool (taken 4)),.d (.bool (taken 5)),.d (.bool (taken 6)),.d (.bool (taken 7)),.d (.bool (taken 8)),.d (.bool (taken 9)),.d (.bool (taken 10)),.d (.bool (taken 11)),.d (.bool (taken 12)),.d (.bool (taken 13)),.d (.bool (taken 14)),.d (.bool (taken 15))]),(0,.var 33 [.d (q1 o0)]),(1,.var 67 (pbm o1_K (.wmp g_))),(2,.var 3 [jI o2]),(3,.var 116 [.clo 66 [] [.ptr 0 0,.ptr 1 0,.ptr 2 0,.ptr 3 0]])],9,fr_,[],4⟩ ?_
  refine RW.nil (hQ_3 _ ?_)
  refine AW.cond rfl (fun hb_4=>?_) (fun hb_4=>?_)
  ·have h:=ifT hb_4 h
   refine Sa ⟨[pR 8 6,pR 9 7],[(7,.var 4 [.d (.bool true)]),(6,.var 33 [.d (q1 out)]),(0,.var 33 [.d (q1 o0)]),(1,.var 67 (pbm o1_K (.wmp g_))),(2,.var 3 [jI o2]),(3,.var 116 [.clo 66 [] [.ptr 0 0,.ptr 1 0,.ptr 2 0,.ptr 3 0]])],9,fr_,[],4⟩ ?_
   obtain rfl:=Option.some.inj h
   exact rT hR_0 (.cons (.one rfl rfl rfl) (.cons (.one rfl rfl rfl) .nil))
  ·have h:=ifF hb_4 h
   refine AW.skip (hK_2 _ ?_)
   refine AW.seqK (fun K_5 hK_5=>?_)
   refine AW.sdrwK fokW (fun Q_6 hQ_6=>?_)
   refine aX 4 ⟨[pR 2 0,pR 3 1,pR 5 3,pR 6 4,pR 7 5,pR 8 6,pR 9 7,pR 10 8,(24,.agg (pbm o1_K (.wmp g_))),(25,jI o2),(26,.d (q1 o0)),(27,jI (out.length:Int))],[(8,.var 3 [jI (out.length:Int)]),(7,.var 4 [.d (.bool false)]),(6,.var 33 [.d (.nilSl)]),(5,.var 33 [.d (q1 out)]),(4,.var 118 [.d (.bool (taken 0)),.d (.bool (taken 1)),.d (.bool (taken 2)),.d (.bool (taken 3)),.d (.bool (taken 4)),.d (.bool (taken 5)),.d (.bool (taken 6)),.d (.bool (taken 7)),.d (.bool (taken 8)),.d (.bool (taken 9)),.d (.bool (taken 10)),.d (.bool (taken 11)),.d (.bool (taken 12)),.d (.bool (taken 13)),.d (.bool (taken 14)),.d (.bool (taken 15))]),(0,.var 33 [.d (q1 o0)]),(1,.var 67 (pbm o1_K (.wmp g_))),(2,.var 3 [jI o2]),(3,.var 116 [.clo 66 [] [.ptr 0 0,.ptr 1 0,.ptr 2 0,.ptr 3 0]])],9,fr_,[],4⟩ ?_
   obtain ⟨p,hv_7,h⟩:=bsome h
   refine r_iaD trivial rfl rfl (ixL_ok hv_7).1 (row:=e3 p) (mapget (ixL_ok hv_7).2) ?_
   refine aX 1 ⟨[pR 2 0,pR 3 1,pR 5 3,pR 6 4,pR 7 5,pR 8 6,pR 9 7,pR 10 8,(24,.agg (pbm o1_K (.wmp g_))),(25,jI o2),(29,jI p)],[(8,.var 3 [jI (out.length:Int)]),(7,.var 4 [.d (.bool false)]),(6,.var 33 [.d (.nilSl)]),(5,.var 33 [.d (q1 out)]),(4,.var 118 [.d (.bool (taken 0)),.d (.bool (taken 1)),.d (.bool (taken 2)),.d (.bool (taken 3)),.d (.bool (taken 4)),.d (.bool (taken 5)),.d (.bool (taken 6)),.d (.bool (taken 7)),.d (.bool (taken 8)),.d (.bool (taken 9)),.d (.bool (taken 10)),.d (.bool (taken 11)),.d (.bool (taken 12)),.d (.bool (taken 13)),.d (.bool (taken 14)),.d (.bool (taken 15))]),(0,.var 33 [.d (q1 o0)]),(1,.var 67 (pbm o1_K (.wmp g_))),(2,.var 3 [jI o2]),(3,.var 116 [.clo 66 [] [.ptr 0 0,.ptr 1 0,.ptr 2 0,.ptr 3 0]])],9,fr_,[],4⟩ ?_
   obtain ⟨⟨o0_K,o1,o2_1⟩,hx_8,h⟩:=bsome h
   refine r_callSW (zr:=[]) [] trivial rfl (k67 g_ fr_ hW_ o1_K o2 p _ hx_8) trivial rfl rfl ⟨.refl _,.refl _,.refl _,trivial⟩ rfl rfl rfl ?_
   refine Fi ⟨[pR 2 0,pR 3 1,pR 5 3,pR 6 4,pR 7 5,pR 8 6,pR 9 7,pR 10 8,(30,.clo 73 [] [.ptr 9 0,.ptr 10 0,.ptr 11 0])],[(9,.var 67 (pbm o0_K (.wmp g_))),(10,.var 3 [jI o1]),(11,.var 3 [jI o2_1]),(8,.var 3 [jI (out.length:Int)]),(7,.var 4 [.d (.bool false)]),(6,.var 33 [.d (.nilSl)]),(5,.var 33 [.d (q1 out)]),(4,.var 118 [.d (.bool (taken 0)),.d (.bool (taken 1)),.d (.bool (taken 2)),.d (.bool (taken 3)),.d (.bool (taken 4)),.d (.bool (taken 5)),.d (.bool (taken 6)),.d (.bool (taken 7)),.d (.bool (taken 8)),.d (.bool (taken 9)),.d (.bool (taken 10)),.d (.bool (taken 11)),.d (.bool (taken 12)),.d (.bool (taken 13)),.d (.bool (taken 14)),.d (.bool (taken 15))]),(0,.var 33 [.d (q1 o0)]),(1,.var 67 (pbm o1_K (.wmp g_))),(2,.var 3 [jI o2]),(3,.var 116 [.clo 66 [] [.ptr 0 0,.ptr 1 0,.ptr 2 0,.ptr 3 0]])],12,fr_,[],4⟩ ?_
   refine hQ_6 _ ?_
   refine AW.block ?_
   obtain ⟨out_9,hx_9,h⟩:=bsome h
   refine AW.rfXW (fun (_:Unit)=>[(12,.dm),(8,.var 3 [jI (out.length:Int)]),(7,.var 4 [.d (.bool false)]),(6,.var 33 [.d (.nilSl)]),(5,.var 33 [.d (q1 out)]),(4,.var 118 [.d (.bool (taken 0)),.d (.bool (taken 1)),.d (.bool (taken 2)),.d (.bool (taken 3)),.d (.bool (taken 4)),.d (.bool (taken 5)),.d (.bool (taken 6)),.d (.bool (taken 7)),.d (.bool (taken 8)),.d (.bool (taken 9)),.d (.bool (taken 10)),.d (.bool (taken 11)),.d (.bool (taken 12)),.d (.bool (taken 13)),.d (.bool (taken 14)),.d (.bool (taken 15))]),(0,.var 33 [.d (q1 o0)]),(1,.var 67 (pbm o1_K (.wmp g_))),(2,.var 3 [jI o2]),(3,.var 116 [.clo 66 [] [.ptr 0 0,.ptr 1 0,.ptr 2 0,.ptr 3 0]])]) (fun (v:List Int)=>[(12,.dm),(7,.var 4 [.d (.bool true)]),(6,.var 33 [.d (q1 v)]),(0,.var 33 [.d (q1 o0)]),(1,.var 67 (pbm o1_K (.wmp g_))),(2,.var 3 [jI o2]),(3,.var 116 [.clo 66 [] [.ptr 0 0,.ptr 1 0,.ptr 2 0,.ptr 3 0]]),(8,.var 3 [jI (out.length:Int)]),(5,.var 33 [.d (q1 out)]),(4,.var 118 [.d (.bool (taken 0)),.d (.bool (taken 1)),.d (.bool (taken 2)),.d (.bool (taken 3)),.d (.bool (taken 4)),.d (.bool (taken 5)),.d (.bool (taken 6)),.d (.bool (taken 7)),.d (.bool (taken 8)),.d (.bool (taken 9)),.d (.bool (taken 10)),.d (.bool (taken 11)),.d (.bool (taken 12)),.d (.bool (taken 13)),.d (.bool (taken 14)),.d (.bool (taken 15))])]) (fun _=>some .ret) (g66_r9 (g66 n_) taken out o0 o1_K o2 p) (fun (a:Int)=>[jI a]) (s0:=()) (out:=out_9) [pR 2 0,pR 3 1,pR 5 3,pR 6 4,pR 7 5,pR 8 6,pR 9 7,pR 10 8] [(8,.var 3 [jI (out.length:Int)]),(7,.var 4 [.d (.bool false)]),(6,.var 33 [.d (.nilSl)]),(5,.var 33 [.d (q1 out)]),(4,.var 118 [.d (.bool (taken 0)),.d (.bool (taken 1)),.d (.bool (taken 2)),.d (.bool (taken 3)),.d (.bool (taken 4)),.d (.bool (taken 5)),.d (.bool (taken 6)),.d (.bool (taken 7)),.d (.bool (taken 8)),.d (.bool (taken 9)),.d (.bool (taken 10)),.d (.bool (taken 11)),.d (.bool (taken 12)),.d (.bool (taken 13)),.d (.bool (taken 14)),.d (.bool (taken 15))]),(0,.var 33 [.d (q1 o0)]),(1,.var 67 (pbm o1_K (.wmp g_))),(2,.var 3 [jI o2]),(3,.var 116 [.clo 66 [] [.ptr 0 0,.ptr 1 0,.ptr 2 0,.ptr 3 0]])] [9,10,11] rfl (.clo _ _ _) (by kernel_rfl) (by kernel_rfl) (fun fq_ hq_ hY_9=>k73 g_ fq_ (fun s=>hq_ g_ WI s hW_) _ (fun a s s2 b h=>hY_9 a s s2 b h) o0_K o1 o2_1 (.next ()) _ hx_9) (by kernel_rfl) ⟨rfl,rfl,rfl,trivial⟩ rfl ⟨rfl,rfl⟩ rfl rfl (fun _=>rfl) (fun _=>rfl) (fun a_9 s_9 c_9 h l_9=>?_) (fun _=>rfl) ?_
   ·have ⟨a,e_9⟩:∃ x,x=a_9:=⟨_,rfl⟩
    subst e_9
    unfold g66_r9 at h
    refine AW.ra (fokR l_9) [] ⟨[pR 2 0,pR 3 1,pR 5 3,pR 6 4,pR 7 5,pR 8 6,pR 9 7,pR 10 8,(11,jI a)],[(12,.dm),(8,.var 3 [jI (out.length:Int)]),(7,.var 4 [.d (.bool false)]),(6,.var 33 [.d (.nilSl)]),(5,.var 33 [.d (q1 out)]),(4,.var 118 [.d (.bool (taken 0)),.d (.bool (taken 1)),.d (.bool (taken 2)),.d (.bool (taken 3)),.d (.bool (taken 4)),.d (.bool (taken 5)),.d (.bool (taken 6)),.d (.bool (taken 7)),.d (.bool (taken 8)),.d (.bool (taken 9)),.d (.bool (taken 10)),.d (.bool (taken 11)),.d (.bool (taken 12)),.d (.bool (taken 13)),.d (.bool (taken 14)),.d (.bool (taken 15))]),(0,.var 33 [.d (q1 o0)]),(1,.var 67 (pbm o1_K (.wmp g_))),(2,.var 3 [jI o2]),(3,.var 116 [.clo 66 [] [.ptr 0 0,.ptr 1 0,.ptr 2 0,.ptr 3 0]])],13,fr_,[],13⟩ (by kernel_rfl) ?_
    refine AW.block ?_
    refine AW.sa (fokR l_9) [] ⟨[pR 2 0,pR 3 1,pR 5 3,pR 6 4,pR 7 5,pR 8 6,pR 9 7,pR 10 8,(11,jI a),pR 12 13],[(13,.var 118 [.d (.bool (taken 0)),.d (.bool (taken 1)),.d (.bool (taken 2)),.d (.bool (taken 3)),.d (.bool (taken 4)),.d (.bool (taken 5)),.d (.bool (taken 6)),.d (.bool (taken 7)),.d (.bool (taken 8)),.d (.bool (taken 9)),.d (.bool (taken 10)),.d (.bool (taken 11)),.d (.bool (taken 12)),.d (.bool (taken 13)),.d (.bool (taken 14)),.d (.bool (taken 15))]),(12,.dm),(8,.var 3 [jI (out.length:Int)]),(7,.var 4 [.d (.bool false)]),(6,.var 33 [.d (.nilSl)]),(5,.var 33 [.d (q1 out)]),(4,.var 118 [.d (.bool (taken 0)),.d (.bool (taken 1)),.d (.bool (taken 2)),.d (.bool (taken 3)),.d (.bool (taken 4)),.d (.bool (taken 5)),.d (.bool (taken 6)),.d (.bool (taken 7)),.d (.bool (taken 8)),.d (.bool (taken 9)),.d (.bool (taken 10)),.d (.bool (taken 11)),.d (.bool (taken 12)),.d (.bool (taken 13)),.d (.bool (taken 14)),.d (.bool (taken 15))]),(0,.var 33 [.d (q1 o0)]),(1,.var 67 (pbm o1_K (.wmp g_))),(2,.var 3 [jI o2]),(3,.var 116 [.clo 66 [] [.ptr 0 0,.ptr 1 0,.ptr 2 0,.ptr 3 0]])],14,fr_,[],13⟩ (by kernel_rfl) ?_
    refine AW.seqK (fun K_10 hK_10=>?_)
    refine AW.sdrwK (fokR l_9) (fun Q_11 hQ_11=>?_)
    refine aX 5 ⟨[pR 5 3,pR 6 4,pR 7 5,pR 8 6,pR 9 7,pR 10 8,(11,jI a),pR 12 13,(35,.d (.sl 3 (List.map e35 o1_K.Parts))),(36,.d (q1 o0)),(37,jI (out.length:Int))],[(13,.var 118 [.d (.bool (taken 0)),.d (.bool (taken 1)),.d (.bool (taken 2)),.d (.bool (taken 3)),.d (.bool (taken 4)),.d (.bool (taken 5)),.d (.bool (taken 6)),.d (.bool (taken 7)),.d (.bool (taken 8)),.d (.bool (taken 9)),.d (.bool (taken 10)),.d (.bool (taken 11)),.d (.bool (taken 12)),.d (.bool (taken 13)),.d (.bool (taken 14)),.d (.bool (taken 15))]),(12,.dm),(8,.var 3 [jI (out.length:Int)]),(7,.var 4 [.d (.bool false)]),(6,.var 33 [.d (.nilSl)]),(5,.var 33 [.d (q1 out)]),(4,.var 118 [.d (.bool (taken 0)),.d (.bool (taken 1)),.d (.bool (taken 2)),.d (.bool (taken 3)),.d (.bool (taken 4)),.d (.bool (taken 5)),.d (.bool (taken 6)),.d (.bool (taken 7)),.d (.bool (taken 8)),.d (.bool (taken 9)),.d (.bool (taken 10)),.d (.bool (taken 11)),.d (.bool (taken 12)),.d (.bool (taken 13)),.d (.bool (taken 14)),.d (.bool (taken 15))]),(0,.var 33 [.d (q1 o0)]),(1,.var 67 (pbm o1_K (.wmp g_))),(2,.var 3 [jI o2]),(3,.var 116 [.clo 66 [] [.ptr 0 0,.ptr 1 0,.ptr 2 0,.ptr 3 0]])],14,fr_,[],13⟩ ?_
    refine r_iaD trivial rfl rfl (ixL_ok hv_7).1 (row:=e3 p) (mapget (ixL_ok hv_7).2) ?_
    refine aX 1 ⟨[pR 5 3,pR 6 4,pR 7 5,pR 8 6,pR 9 7,pR 10 8,(11,jI a),pR 12 13,(35,.d (.sl 3 (List.map e35 o1_K.Parts))),(39,jI p)],[(13,.var 118 [.d (.bool (taken 0)),.d (.bool (taken 1)),.d (.bool (taken 2)),.d (.bool (taken 3)),.d (.bool (taken 4)),.d (.bool (taken 5)),.d (.bool (taken 6)),.d (.bool (taken 7)),.d (.bool (taken 8)),.d (.bool (taken 9)),.d (.bool (taken 10)),.d (.bool (taken 11)),.d (.bool (taken 12)),.d (.bool (taken 13)),.d (.bool (taken 14)),.d (.bool (taken 15))]),(12,.dm),(8,.var 3 [jI (out.length:Int)]),(7,.var 4 [.d (.bool false)]),(6,.var 33 [.d (.nilSl)]),(5,.var 33 [.d (q1 out)]),(4,.var 118 [.d (.bool (taken 0)),.d (.bool (taken 1)),.d (.bool (taken 2)),.d (.bool (taken 3)),.d (.bool (taken 4)),.d (.bool (taken 5)),.d (.bool (taken 6)),.d (.bool (taken 7)),.d (.bool (taken 8)),.d (.bool (taken 9)),.d (.bool (taken 10)),.d (.bool (taken 11)),.d (.bool (taken 12)),.d (.bool (taken 13)),.d (.bool (taken 14)),.d (.bool (taken 15))]),(0,.var 33 [.d (q1 o0)]),(1,.var 67 (pbm o1_K (.wmp g_))),(2,.var 3 [jI o2]),(3,.var 116 [.clo 66 [] [.ptr 0 0,.ptr 1 0,.ptr 2 0,.ptr 3 0]])],14,fr_,[],13⟩ ?_
    obtain ⟨p1,hv_12,h⟩:=bsome h
    refine r_iaD trivial rfl rfl (ixL_ok hv_12).1 (row:=e35 p1) (mapget (ixL_ok hv_12).2) ?_
    refine aX 3 ⟨[pR 5 3,pR 6 4,pR 7 5,pR 8 6,pR 9 7,pR 10 8,(11,jI a),pR 12 13,(13,jI p1.Long)],[(13,.var 118 [.d (.bool (taken 0)),.d (.bool (taken 1)),.d (.bool (taken 2)),.d (.bool (taken 3)),.d (.bool (taken 4)),.d (.bool (taken 5)),.d (.bool (taken 6)),.d (.bool (taken 7)),.d (.bool (taken 8)),.d (.bool (taken 9)),.d (.bool (taken 10)),.d (.bool (taken 11)),.d (.bool (taken 12)),.d (.bool (taken 13)),.d (.bool (taken 14)),.d (.bool (taken 15))]),(12,.dm),(8,.var 3 [jI (out.length:Int)]),(7,.var 4 [.d (.bool false)]),(6,.var 33 [.d (.nilSl)]),(5,.var 33 [.d (q1 out)]),(4,.var 118 [.d (.bool (taken 0)),.d (.bool (taken 1)),.d (.bool (taken 2)),.d (.bool (taken 3)),.d (.bool (taken 4)),.d (.bool (taken 5)),.d (.bool (taken 6)),.d (.bool (taken 7)),.d (.bool (taken 8)),.d (.bool (taken 9)),.d (.bool (taken 10)),.d (.bool (taken 11)),.d (.bool (taken 12)),.d (.bool (taken 13)),.d (.bool (taken 14)),.d (.bool (taken 15))]),(0,.var 33 [.d (q1 o0)]),(1,.var 67 (pbm o1_K (.wmp g_))),(2,.var 3 [jI o2]),(3,.var 116 [.clo 66 [] [.ptr 0 0,.ptr 1 0,.ptr 2 0,.ptr 3 0]])],14,fr_,[],13⟩ ?_
    refine Fi ⟨[pR 5 3,pR 6 4,pR 7 5,pR 8 6,pR 9 7,pR 10 8,(11,jI a),pR 12 13,(13,jI p1.Long)],[(13,.var 118 [.d (.bool (taken 0)),.d (.bool (taken 1)),.d (.bool (taken 2)),.d (.bool (taken 3)),.d (.bool (taken 4)),.d (.bool (taken 5)),.d (.bool (taken 6)),.d (.bool (taken 7)),.d (.bool (taken 8)),.d (.bool (taken 9)),.d (.bool (taken 10)),.d (.bool (taken 11)),.d (.bool (taken 12)),.d (.bool (taken 13)),.d (.bool (taken 14)),.d (.bool (taken 15))]),(12,.dm),(8,.var 3 [jI (out.length:Int)]),(7,.var 4 [.d (.bool false)]),(6,.var 33 [.d (.nilSl)]),(5,.var 33 [.d (q1 out)]),(4,.var 118 [.d (.bool (taken 0)),.d (.bool (taken 1)),.d (.bool (taken 2)),.d (.bool (taken 3)),.d (.bool (taken 4)),.d (.bool (taken 5)),.d (.bool (taken 6)),.d (.bool (taken 7)),.d (.bool (taken 8)),.d (.bool (taken 9)),.d (.bool (taken 10)),.d (.bool (taken 11)),.d (.bool (taken 12)),.d (.bool (taken 13)),.d (.bool (taken 14)),.d (.bool (taken 15))]),(0,.var 33 [.d (q1 o0)]),(1,.var 67 (pbm o1_K (.wmp g_))),(2,.var 3 [jI o2]),(3,.var 116 [.clo 66 [] [.ptr 0 0,.ptr 1 0,.ptr 2 0,.ptr 3 0]])],14,fr_,[],13⟩ ?_
    refine hQ_11 _ ?_
    refine AW.srwK (fun Q_13 hQ_13=>?_)
    refine RW.au (fokR l_9) 4 [] ⟨[pR 5 3,pR 6 4,pR 7 5,pR 8 6,pR 9 7,pR 10 8,(11,jI a),pR 12 13,(13,jI p1.Long),(43,jI a),(46,jI (wr (a+p1.Long)))],[(13,.var 118 [.d (.bool (taken 0)),.d (.bool (taken 1)),.d (.bool (taken 2)),.d (.bool (taken 3)),.d (.bool (taken 4)),.d (.bool (taken 5)),.d (.bool (taken 6)),.d (.bool (taken 7)),.d (.bool (taken 8)),.d (.bool (taken 9)),.d (.bool (taken 10)),.d (.bool (taken 11)),.d (.bool (taken 12)),.d (.bool (taken 13)),.d (.bool (taken 14)),.d (.bool (taken 15))]),(12,.dm),(8,.var 3 [jI (out.length:Int)]),(7,.var 4 [.d (.bool false)]),(6,.var 33 [.d (.nilSl)]),(5,.var 33 [.d (q1 out)]),(4,.var 118 [.d (.bool (taken 0)),.d (.bool (taken 1)),.d (.bool (taken 2)),.d (.bool (taken 3)),.d (.bool (taken 4)),.d (.bool (taken 5)),.d (.bool (taken 6)),.d (.bool (taken 7)),.d (.bool (taken 8)),.d (.bool (taken 9)),.d (.bool (taken 10)),.d (.bool (taken 11)),.d (.bool (taken 12)),.d (.bool (taken 13)),.d (.bool (taken 14)),.d (.bool (taken 15))]),(0,.var 33 [.d (q1 o0)]),(1,.var 67 (pbm o1_K (.wmp g_))),(2,.var 3 [jI o2]),(3,.var 116 [.clo 66 [] [.ptr 0 0,.ptr 1 0,.ptr 2 0,.ptr 3 0]])],14,fr_,[],13⟩ (by kernel_rfl) ?_
    obtain ⟨l,hv_14,h⟩:=bsome h
    refine RW.one (fokR l_9) (r_slcA hv_14 trivial rfl rfl rfl rfl rfl (r_end ?_))
    obtain ⟨r0,hx_15,h⟩:=bsome h
    refine RW.one (fokR l_9) (r_callB (rs:=[(4,.var 118 [.d (.bool (taken 0)),.d (.bool (taken 1)),.d (.bool (taken 2)),.d (.bool (taken 3)),.d (.bool (taken 4)),.d (.bool (taken 5)),.d (.bool (taken 6)),.d (.bool (taken 7)),.d (.bool (taken 8)),.d (.bool (taken 9)),.d (.bool (taken 10)),.d (.bool (taken 11)),.d (.bool (taken 12)),.d (.bool (taken 13)),.d (.bool (taken 14)),.d (.bool (taken 15))])]) trivial rfl (k68 l true _ hx_15) ⟨rfl,trivial⟩ ⟨brw_arr (c:=fun z=>.bool z) hv_14 rfl (Nat.sub_le_sub_right (show ((wr (a+p1.Long)):Int).toNat≤16 from by have:=subA_ok hv_14;omega) _),.refl _,trivial⟩ rfl rfl rfl (r_end ?_))
    refine RW.nil (hQ_13 _ ?_)
    refine AW.cond rfl (fun hb_16=>?_) (fun hb_16=>?_)
    ·have h:=ifT hb_16 h
     refine AW.exit ?_
     obtain rfl:=Option.some.inj h
     exact ⟨⟨[],[(12,.dm),(8,.var 3 [jI (out.length:Int)]),(7,.var 4 [.d (.bool false)]),(6,.var 33 [.d (.nilSl)]),(5,.var 33 [.d (q1 out)]),(4,.var 118 [.d (.bool (taken 0)),.d (.bool (taken 1)),.d (.bool (taken 2)),.d (.bool (taken 3)),.d (.bool (taken 4)),.d (.bool (taken 5)),.d (.bool (taken 6)),.d (.bool (taken 7)),.d (.bool (taken 8)),.d (.bool (taken 9)),.d (.bool (taken 10)),.d (.bool (taken 11)),.d (.bool (taken 12)),.d (.bool (taken 13)),.d (.bool (taken 14)),.d (.bool (taken 15))]),(0,.var 33 [.d (q1 o0)]),(1,.var 67 (pbm o1_K (.wmp g_))),(2,.var 3 [jI o2]),(3,.var 116 [.clo 66 [] [.ptr 0 0,.ptr 1 0,.ptr 2 0,.ptr 3 0]])],13,fr_,[],13⟩,Can.kp (by kernel_rfl),rdX trivial rfl (by kernel_rfl) (by kernel_rfl)⟩
    ·have h:=ifF hb_16 h
     refine AW.sa (fokR l_9) [] ⟨[pR 5 3,pR 7 5,pR 8 6,pR 9 7,pR 10 8,(11,jI a),pR 12 13,(49,jI p1.Long),(50,jI 0)],[(13,.var 118 [.d (.bool (taken 0)),.d (.bool (taken 1)),.d (.bool (taken 2)),.d (.bool (taken 3)),.d (.bool (taken 4)),.d (.bool (taken 5)),.d (.bool (taken 6)),.d (.bool (taken 7)),.d (.bool (taken 8)),.d (.bool (taken 9)),.d (.bool (taken 10)),.d (.bool (taken 11)),.d (.bool (taken 12)),.d (.bool (taken 13)),.d (.bool (taken 14)),.d (.bool (taken 15))]),(12,.dm),(8,.var 3 [jI (out.length:Int)]),(7,.var 4 [.d (.bool false)]),(6,.var 33 [.d (.nilSl)]),(5,.var 33 [.d (q1 out)]),(4,.var 118 [.d (.bool (taken 0)),.d (.bool (taken 1)),.d (.bool (taken 2)),.d (.bool (taken 3)),.d (.bool (taken 4)),.d (.bool (taken 5)),.d (.bool (taken 6)),.d (.bool (taken 7)),.d (.bool (taken 8)),.d (.bool (taken 9)),.d (.bool (taken 10)),.d (.bool (taken 11)),.d (.bool (taken 12)),.d (.bool (taken 13)),.d (.bool (taken 14)),.d (.bool (taken 15))]),(0,.var 33 [.d (q1 o0)]),(1,.var 67 (pbm o1_K (.wmp g_))),(2,.var 3 [jI o2]),(3,.var 116 [.clo 66 [] [.ptr 0 0,.ptr 1 0,.ptr 2 0,.ptr 3 0]])],14,fr_,[],13⟩ (by kernel_rfl) ?_
     refine AW.block ?_
     obtain ⟨_,hN_17,h⟩:=bsome h
     have hN_17:=of_decide_eq_true (must_ok hN_17)
     obtain ⟨out_17,hx_17,h⟩:=bsome h
     refine AW.lpSK (fun (v1:Int) (next_:(Nat→Bool))=>⟨[pR 5 3,pR 7 5,pR 8 6,pR 9 7,pR 10 8,(11,jI a),pR 12 13,(49,jI p1.Long),(50,jI v1)],[(13,.var 118 [.d (.bool (next_ 0)),.d (.bool (next_ 1)),.d (.bool (next_ 2)),.d (.bool (next_ 3)),.d (.bool (next_ 4)),.d (.bool (next_ 5)),.d (.bool (next_ 6)),.d (.bool (next_ 7)),.d (.bool (next_ 8)),.d (.bool (next_ 9)),.d (.bool (next_ 10)),.d (.bool (next_ 11)),.d (.bool (next_ 12)),.d (.bool (next_ 13)),.d (.bool (next_ 14)),.d (.bool (next_ 15))]),(12,.dm),(8,.var 3 [jI (out.length:Int)]),(7,.var 4 [.d (.bool false)]),(6,.var 33 [.d (.nilSl)]),(5,.var 33 [.d (q1 out)]),(4,.var 118 [.d (.bool (taken 0)),.d (.bool (taken 1)),.d (.bool (taken 2)),.d (.bool (taken 3)),.d (.bool (taken 4)),.d (.bool (taken 5)),.d (.bool (taken 6)),.d (.bool (taken 7)),.d (.bool (taken 8)),.d (.bool (taken 9)),.d (.bool (taken 10)),.d (.bool (taken 11)),.d (.bool (taken 12)),.d (.bool (taken 13)),.d (.bool (taken 14)),.d (.bool (taken 15))]),(0,.var 33 [.d (q1 o0)]),(1,.var 67 (pbm o1_K (.wmp g_))),(2,.var 3 [jI o2]),(3,.var 116 [.clo 66 [] [.ptr 0 0,.ptr 1 0,.ptr 2 0,.ptr 3 0]])],14,fr_,[],13⟩) (g66_17 a) (p1.Long) hx_17 (Can.kp (by kernel_rfl)) (fun v1 next_ hi_17 hl_17 c_17 h K_17 hK_17=>?_) (fun v1 next_ hi_17 hl_17 hout=>?_)
     ·unfold g66_17 at h
      refine AW.sa (fokR l_9) [] ⟨[pR 5 3,pR 7 5,pR 8 6,pR 9 7,pR 10 8,(11,jI a),pR 12 13,(49,jI p1.Long),(50,jI v1),(51,.d (.bool (decide (v1<p1.Long))))],[(13,.var 118 [.d (.bool (next_ 0)),.d (.bool (next_ 1)),.d (.bool (next_ 2)),.d (.bool (next_ 3)),.d (.bool (next_ 4)),.d (.bool (next_ 5)),.d (.bool (next_ 6)),.d (.bool (next_ 7)),.d (.bool (next_ 8)),.d (.bool (next_ 9)),.d (.bool (next_ 10)),.d (.bool (next_ 11)),.d (.bool (next_ 12)),.d (.bool (next_ 13)),.d (.bool (next_ 14)),.d (.bool (next_ 15))]),(12,.dm),(8,.var 3 [jI (out.length:Int)]),(7,.var 4 [.d (.bool false)]),(6,.var 33 [.d (.nilSl)]),(5,.var 33 [.d (q1 out)]),(4,.var 118 [.d (.bool (taken 0)),.d (.bool (taken 1)),.d (.bool (taken 2)),.d (.bool (taken 3)),.d (.bool (taken 4)),.d (.bool (taken 5)),.d (.bool (taken 6)),.d (.bool (taken 7)),.d (.bool (taken 8)),.d (.bool (taken 9)),.d (.bool (taken 10)),.d (.bool (taken 11)),.d (.bool (taken 12)),.d (.bool (taken 13)),.d (.bool (taken 14)),.d (.bool (taken 15))]),(0,.var 33 [.d (q1 o0)]),(1,.var 67 (pbm o1_K (.wmp g_))),(2,.var 3 [jI o2]),(3,.var 116 [.clo 66 [] [.ptr 0 0,.ptr 1 0,.ptr 2 0,.ptr 3 0]])],14,fr_,[],13⟩ (by kernel_rfl) ?_
      refine AW.seqK (fun K_18 hK_18=>?_)
      refine AW.cond rfl (fun hb_19=>?_) (fun hb_19=>False.elim (by have:=of_decide_eq_false hb_19;omega))
      refine AW.skip (hK_18 _ ?_)
      refine AW.seqK (fun K_20 hK_20=>?_)
      refine AW.block ?_
      refine AW.sa (fokR l_9) [] ⟨[pR 5 3,pR 7 5,pR 8 6,pR 9 7,pR 10 8,(11,jI a),pR 12 13,(14,jI v1),(49,jI p1.Long),(50,jI v1)],[(13,.var 118 [.d (.bool (next_ 0)),.d (.bool (next_ 1)),.d (.bool (next_ 2)),.d (.bool (next_ 3)),.d (.bool (next_ 4)),.d (.bool (next_ 5)),.d (.bool (next_ 6)),.d (.bool (next_ 7)),.d (.bool (next_ 8)),.d (.bool (next_ 9)),.d (.bool (next_ 10)),.d (.bool (next_ 11)),.d (.bool (next_ 12)),.d (.bool (next_ 13)),.d (.bool (next_ 14)),.d (.bool (next_ 15))]),(12,.dm),(8,.var 3 [jI (out.length:Int)]),(7,.var 4 [.d (.bool false)]),(6,.var 33 [.d (.nilSl)]),(5,.var 33 [.d (q1 out)]),(4,.var 118 [.d (.bool (taken 0)),.d (.bool (taken 1)),.d (.bool (taken 2)),.d (.bool (taken 3)),.d (.bool (taken 4)),.d (.bool (taken 5)),.d (.bool (taken 6)),.d (.bool (taken 7)),.d (.bool (taken 8)),.d (.bool (taken 9)),.d (.bool (taken 10)),.d (.bool (taken 11)),.d (.bool (taken 12)),.d (.bool (taken 13)),.d (.bool (taken 14)),.d (.bool (taken 15))]),(0,.var 33 [.d (q1 o0)]),(1,.var 67 (pbm o1_K (.wmp g_))),(2,.var 3 [jI o2]),(3,.var 116 [.clo 66 [] [.ptr 0 0,.ptr 1 0,.ptr 2 0,.ptr 3 0]])],14,fr_,[],13⟩ (by kernel_rfl) ?_
      refine AW.rw ?_
      refine RW.au (fokR l_9) 3 [] ⟨[pR 5 3,pR 7 5,pR 8 6,pR 9 7,pR 10 8,(11,jI a),pR 12 13,(49,jI p1.Long),(50,jI v1),(55,jI (wr (a+v1)))],[(13,.var 118 [.d (.bool (next_ 0)),.d (.bool (next_ 1)),.d (.bool (next_ 2)),.d (.bool (next_ 3)),.d (.bool (next_ 4)),.d (.bool (next_ 5)),.d (.bool (next_ 6)),.d (.bool (next_ 7)),.d (.bool (next_ 8)),.d (.bool (next_ 9)),.d (.bool (next_ 10)),.d (.bool (next_ 11)),.d (.bool (next_ 12)),.d (.bool (next_ 13)),.d (.bool (next_ 14)),.d (.bool (next_ 15))]),(12,.dm),(8,.var 3 [jI (out.length:Int)]),(7,.var 4 [.d (.bool false)]),(6,.var 33 [.d (.nilSl)]),(5,.var 33 [.d (q1 out)]),(4,.var 118 [.d (.bool (taken 0)),.d (.bool (taken 1)),.d (.bool (taken 2)),.d (.bool (taken 3)),.d (.bool (taken 4)),.d (.bool (taken 5)),.d (.bool (taken 6)),.d (.bool (taken 7)),.d (.bool (taken 8)),.d (.bool (taken 9)),.d (.bool (taken 10)),.d (.bool (taken 11)),.d (.bool (taken 12)),.d (.bool (taken 13)),.d (.bool (taken 14)),.d (.bool (taken 15))]),(0,.var 33 [.d (q1 o0)]),(1,.var 67 (pbm o1_K (.wmp g_))),(2,.var 3 [jI o2]),(3,.var 116 [.clo 66 [] [.ptr 0 0,.ptr 1 0,.ptr 2 0,.ptr 3 0]])],14,fr_,[],13⟩ (by kernel_rfl) ?_
      obtain ⟨j,hv_22,h⟩:=bsome h
      refine RW.one (fokR l_9) (r_iaV trivial rfl rfl rfl (ixN_ok hv_22).1 (ixN_ok hv_22).2.1 (r_end ?_))
      refine RW.one (fokR l_9) (r_stX trivial rfl rfl rfl rfl rfl (aslot hv_22 rfl) (cs':=[.d (.bool ((aset next_ j true) 0)),.d (.bool ((aset next_ j true) 1)),.d (.bool ((aset next_ j true) 2)),.d (.bool ((aset next_ j true) 3)),.d (.bool ((aset next_ j true) 4)),.d (.bool ((aset next_ j true) 5)),.d (.bool ((aset next_ j true) 6)),.d (.bool ((aset next_ j true) 7)),.d (.bool ((aset next_ j true) 8)),.d (.bool ((aset next_ j true) 9)),.d (.bool ((aset next_ j true) 10)),.d (.bool ((aset next_ j true) 11)),.d (.bool ((aset next_ j true) 12)),.d (.bool ((aset next_ j true) 13)),.d (.bool ((aset next_ j true) 14)),.d (.bool ((aset next_ j true) 15))]) (ast (w:=next_) (c:=fun z=>.d (.bool z)) hv_22) (r_end ?_))
      refine RW.nil ?_
      refine hK_20 _ ?_
      refine AW.ra (fokR l_9) [] ⟨[pR 5 3,pR 7 5,pR 8 6,pR 9 7,pR 10 8,(11,jI a),pR 12 13,(49,jI p1.Long),(50,jI (wr (v1+1)))],[(13,.var 118 [.d (.bool ((aset next_ j true) 0)),.d (.bool ((aset next_ j true) 1)),.d (.bool ((aset next_ j true) 2)),.d (.bool ((aset next_ j true) 3)),.d (.bool ((aset next_ j true) 4)),.d (.bool ((aset next_ j true) 5)),.d (.bool ((aset next_ j true) 6)),.d (.bool ((aset next_ j true) 7)),.d (.bool ((aset next_ j true) 8)),.d (.bool ((aset next_ j true) 9)),.d (.bool ((aset next_ j true) 10)),.d (.bool ((aset next_ j true) 11)),.d (.bool ((aset next_ j true) 12)),.d (.bool ((aset next_ j true) 13)),.d (.bool ((aset next_ j true) 14)),.d (.bool ((aset next_ j true) 15))]),(12,.dm),(8,.var 3 [jI (out.length:Int)]),(7,.var 4 [.d (.bool false)]),(6,.var 33 [.d (.nilSl)]),(5,.var 33 [.d (q1 out)]),(4,.var 118 [.d (.bool (taken 0)),.d (.bool (taken 1)),.d (.bool (taken 2)),.d (.bool (taken 3)),.d (.bool (taken 4)),.d (.bool (taken 5)),.d (.bool (taken 6)),.d (.bool (taken 7)),.d (.bool (taken 8)),.d (.bool (taken 9)),.d (.bool (taken 10)),.d (.bool (taken 11)),.d (.bool (taken 12)),.d (.bool (taken 13)),.d (.bool (taken 14)),.d (.bool (taken 15))]),(0,.var 33 [.d (q1 o0)]),(1,.var 67 (pbm o1_K (.wmp g_))),(2,.var 3 [jI o2]),(3,.var 116 [.clo 66 [] [.ptr 0 0,.ptr 1 0,.ptr 2 0,.ptr 3 0]])],14,fr_,[],13⟩ (by kernel_rfl) ?_
      obtain rfl:=Option.some.inj h
      have ew:wr (v1+1)=v1+1:=inext (N:=p1.Long) (by omega) (by omega) (by omega)
      rw [ew]
      exact hK_17 _ (Can.kp (by kernel_rfl))
     ·subst hout
      refine AW.sa (fokR l_9) [] ⟨[pR 5 3,pR 7 5,pR 8 6,pR 9 7,pR 10 8,(11,jI a),pR 12 13,(49,jI p1.Long),(50,jI v1),(51,.d (.bool (decide (v1<p1.Long))))],[(13,.var 118 [.d (.bool (next_ 0)),.d (.bool (next_ 1)),.d (.bool (next_ 2)),.d (.bool (next_ 3)),.d (.bool (next_ 4)),.d (.bool (next_ 5)),.d (.bool (next_ 6)),.d (.bool (next_ 7)),.d (.bool (next_ 8)),.d (.bool (next_ 9)),.d (.bool (next_ 10)),.d (.bool (next_ 11)),.d (.bool (next_ 12)),.d (.bool (next_ 13)),.d (.bool (next_ 14)),.d (.bool (next_ 15))]),(12,.dm),(8,.var 3 [jI (out.length:Int)]),(7,.var 4 [.d (.bool false)]),(6,.var 33 [.d (.nilSl)]),(5,.var 33 [.d (q1 out)]),(4,.var 118 [.d (.bool (taken 0)),.d (.bool (taken 1)),.d (.bool (taken 2)),.d (.bool (taken 3)),.d (.bool (taken 4)),.d (.bool (taken 5)),.d (.bool (taken 6)),.d (.bool (taken 7)),.d (.bool (taken 8)),.d (.bool (taken 9)),.d (.bool (taken 10)),.d (.bool (taken 11)),.d (.bool (taken 12)),.d (.bool (taken 13)),.d (.bool (taken 14)),.d (.bool (taken 15))]),(0,.var 33 [.d (q1 o0)]),(1,.var 67 (pbm o1_K (.wmp g_))),(2,.var 3 [jI o2]),(3,.var 116 [.clo 66 [] [.ptr 0 0,.ptr 1 0,.ptr 2 0,.ptr 3 0]])],14,fr_,[],13⟩ (by kernel_rfl) ?_
      refine AW.seqK (fun K_23 hK_23=>?_)
      refine AW.cond rfl (fun hb_24=>False.elim (by have:=of_decide_eq_true hb_24;omega)) (fun hb_24=>?_)
      refine AW.exit ?_
      refine hK_10 _ ?_
      refine AW.sdrwK (fokR l_9) (fun Q_25 hQ_25=>?_)
      refine aX 5 ⟨[pR 8 6,pR 9 7,(11,jI a),(59,.clo 66 [] [.ptr 0 0,.ptr 1 0,.ptr 2 0,.ptr 3 0]),(60,.agg [.d (.bool (next_ 0)),.d (.bool (next_ 1)),.d (.bool (next_ 2)),.d (.bool (next_ 3)),.d (.bool (next_ 4)),.d (.bool (next_ 5)),.d (.bool (next_ 6)),.d (.bool (next_ 7)),.d (.bool (next_ 8)),.d (.bool (next_ 9)),.d (.bool (next_ 10)),.d (.bool (next_ 11)),.d (.bool (next_ 12)),.d (.bool (next_ 13)),.d (.bool (next_ 14)),.d (.bool (next_ 15))]),(61,.d (q1 out)),(62,jI (out.length:Int)),(63,jI (out.length:Int))],[(13,.var 118 [.d (.bool (next_ 0)),.d (.bool (next_ 1)),.d (.bool (next_ 2)),.d (.bool (next_ 3)),.d (.bool (next_ 4)),.d (.bool (next_ 5)),.d (.bool (next_ 6)),.d (.bool (next_ 7)),.d (.bool (next_ 8)),.d (.bool (next_ 9)),.d (.bool (next_ 10)),.d (.bool (next_ 11)),.d (.bool (next_ 12)),.d (.bool (next_ 13)),.d (.bool (next_ 14)),.d (.bool (next_ 15))]),(12,.dm),(8,.var 3 [jI (out.length:Int)]),(7,.var 4 [.d (.bool false)]),(6,.var 33 [.d (.nilSl)]),(5,.var 33 [.d (q1 out)]),(4,.var 118 [.d (.bool (taken 0)),.d (.bool (taken 1)),.d (.bool (taken 2)),.d (.bool (taken 3)),.d (.bool (taken 4)),.d (.bool (taken 5)),.d (.bool (taken 6)),.d (.bool (taken 7)),.d (.bool (taken 8)),.d (.bool (taken 9)),.d (.bool (taken 10)),.d (.bool (taken 11)),.d (.bool (taken 12)),.d (.bool (taken 13)),.d (.bool (taken 14)),.d (.bool (taken 15))]),(0,.var 33 [.d (q1 o0)]),(1,.var 67 (pbm o1_K (.wmp g_))),(2,.var 3 [jI o2]),(3,.var 116 [.clo 66 [] [.ptr 0 0,.ptr 1 0,.ptr 2 0,.ptr 3 0]])],14,fr_,[],13⟩ ?_
      obtain ⟨l1,hv_26,h⟩:=bsome h
      refine r_slN trivial rfl rfl rfl DSl.d (slcL_ok hv_26).2.1 (by rw [List.length_map];exact (slcL_ok hv_26).2.2.1) rfl (slz hv_26 e3) ?_
      refine aX 2 ⟨[pR 8 6,pR 9 7,(59,.clo 66 [] [.ptr 0 0,.ptr 1 0,.ptr 2 0,.ptr 3 0]),(60,.agg [.d (.bool (next_ 0)),.d (.bool (next_ 1)),.d (.bool (next_ 2)),.d (.bool (next_ 3)),.d (.bool (next_ 4)),.d (.bool (next_ 5)),.d (.bool (next_ 6)),.d (.bool (next_ 7)),.d (.bool (next_ 8)),.d (.bool (next_ 9)),.d (.bool (next_ 10)),.d (.bool (next_ 11)),.d (.bool (next_ 12)),.d (.bool (next_ 13)),.d (.bool (next_ 14)),.d (.bool (next_ 15))]),(64,.fsl 1 (List.map e3 l1)),(66,.own 14 (List.map e3 [a]).length)],[(14,.row 3 1 (List.map e3 [a])),(13,.var 118 [.d (.bool (next_ 0)),.d (.bool (next_ 1)),.d (.bool (next_ 2)),.d (.bool (next_ 3)),.d (.bool (next_ 4)),.d (.bool (next_ 5)),.d (.bool (next_ 6)),.d (.bool (next_ 7)),.d (.bool (next_ 8)),.d (.bool (next_ 9)),.d (.bool (next_ 10)),.d (.bool (next_ 11)),.d (.bool (next_ 12)),.d (.bool (next_ 13)),.d (.bool (next_ 14)),.d (.bool (next_ 15))]),(12,.dm),(8,.var 3 [jI (out.length:Int)]),(7,.var 4 [.d (.bool false)]),(6,.var 33 [.d (.nilSl)]),(5,.var 33 [.d (q1 out)]),(4,.var 118 [.d (.bool (taken 0)),.d (.bool (taken 1)),.d (.bool (taken 2)),.d (.bool (taken 3)),.d (.bool (taken 4)),.d (.bool (taken 5)),.d (.bool (taken 6)),.d (.bool (taken 7)),.d (.bool (taken 8)),.d (.bool (taken 9)),.d (.bool (taken 10)),.d (.bool (taken 11)),.d (.bool (taken 12)),.d (.bool (taken 13)),.d (.bool (taken 14)),.d (.bool (taken 15))]),(0,.var 33 [.d (q1 o0)]),(1,.var 67 (pbm o1_K (.wmp g_))),(2,.var 3 [jI o2]),(3,.var 116 [.clo 66 [] [.ptr 0 0,.ptr 1 0,.ptr 2 0,.ptr 3 0]])],15,fr_,[],13⟩ ?_
      obtain ⟨l2,hv_27,h⟩:=bsome h
      refine r_apF trivial rfl rfl rfl rfl (by simp) (zs:=List.map e3 l2) (apz hv_27 e3) (apr hv_27 e3) ?_
      obtain ⟨⟨r0_4_1,r1_3_1⟩,hx_28,h⟩:=bsome h
      refine r_callvS (zr:=[(15,.row 3 1 (List.map e3 l2))]) [0,1,2,3] trivial rfl (.clo _ _ _) (by kernel_rfl) rfl (ih next_ l2 o0 o1_K o2 _ hx_28) ⟨rfl,rfl,rfl,rfl,rfl,trivial⟩ rfl rfl ⟨.refl _,(.own rfl rfl),.refl _,.refl _,.refl _,.refl _,trivial⟩ rfl rfl rfl ?_
      refine aX 5 ⟨[pR 8 6,pR 9 7,(15,.d (q1 r0_4_1)),(16,.d (.bool r1_3_1))],[(0,.var 33 [.d (q1 o0)]),(1,.var 67 (pbm o1_K (.wmp g_))),(2,.var 3 [jI o2]),(3,.var 116 [.clo 66 [] [.ptr 0 0,.ptr 1 0,.ptr 2 0,.ptr 3 0]]),(15,.dead),(14,.row 3 1 (List.map e3 [a])),(13,.var 118 [.d (.bool (next_ 0)),.d (.bool (next_ 1)),.d (.bool (next_ 2)),.d (.bool (next_ 3)),.d (.bool (next_ 4)),.d (.bool (next_ 5)),.d (.bool (next_ 6)),.d (.bool (next_ 7)),.d (.bool (next_ 8)),.d (.bool (next_ 9)),.d (.bool (next_ 10)),.d (.bool (next_ 11)),.d (.bool (next_ 12)),.d (.bool (next_ 13)),.d (.bool (next_ 14)),.d (.bool (next_ 15))]),(12,.dm),(8,.var 3 [jI (out.length:Int)]),(7,.var 4 [.d (.bool false)]),(6,.var 33 [.d (.nilSl)]),(5,.var 33 [.d (q1 out)]),(4,.var 118 [.d (.bool (taken 0)),.d (.bool (taken 1)),.d (.bool (taken 2)),.d (.bool (taken 3)),.d (.bool (taken 4)),.d (.bool (taken 5)),.d (.bool (taken 6)),.d (.bool (taken 7)),.d (.bool (taken 8)),.d (.bool (taken 9)),.d (.bool (taken 10)),.d (.bool (taken 11)),.d (.bool (taken 12)),.d (.bool (taken 13)),.d (.bool (taken 14)),.d (.bool (taken 15))])],16,fr_,[],13⟩ ?_
      refine Fi ⟨[pR 8 6,pR 9 7,(15,.d (q1 r0_4_1)),(16,.d (.bool r1_3_1))],[(0,.var 33 [.d (q1 o0)]),(1,.var 67 (pbm o1_K (.wmp g_))),(2,.var 3 [jI o2]),(3,.var 116 [.clo 66 [] [.ptr 0 0,.ptr 1 0,.ptr 2 0,.ptr 3 0]]),(12,.dm),(8,.var 3 [jI (out.length:Int)]),(7,.var 4 [.d (.bool false)]),(6,.var 33 [.d (.nilSl)]),(5,.var 33 [.d (q1 out)]),(4,.var 118 [.d (.bool (taken 0)),.d (.bool (taken 1)),.d (.bool (taken 2)),.d (.bool (taken 3)),.d (.bool (taken 4)),.d (.bool (taken 5)),.d (.bool (taken 6)),.d (.bool (taken 7)),.d (.bool (taken 8)),.d (.bool (taken 9)),.d (.bool (taken 10)),.d (.bool (taken 11)),.d (.bool (taken 12)),.d (.bool (taken 13)),.d (.bool (taken 14)),.d (.bool (taken 15))])],16,fr_,[],13⟩ ?_
      refine hQ_25 _ ?_
      refine AW.sa (fokR l_9) [] ⟨[pR 8 6,pR 9 7,(15,.d (q1 r0_4_1)),(71,.d (.bool r1_3_1))],[(0,.var 33 [.d (q1 o0)]),(1,.var 67 (pbm o1_K (.wmp g_))),(2,.var 3 [jI o2]),(3,.var 116 [.clo 66 [] [.ptr 0 0,.ptr 1 0,.ptr 2 0,.ptr 3 0]]),(12,.dm),(8,.var 3 [jI (out.length:Int)]),(7,.var 4 [.d (.bool false)]),(6,.var 33 [.d (.nilSl)]),(5,.var 33 [.d (q1 out)]),(4,.var 118 [.d (.bool (taken 0)),.d (.bool (taken 1)),.d (.bool (taken 2)),.d (.bool (taken 3)),.d (.bool (taken 4)),.d (.bool (taken 5)),.d (.bool (taken 6)),.d (.bool (taken 7)),.d (.bool (taken 8)),.d (.bool (taken 9)),.d (.bool (taken 10)),.d (.bool (taken 11)),.d (.bool (taken 12)),.d (.bool (taken 13)),.d (.bool (taken 14)),.d (.bool (taken 15))])],16,fr_,[],13⟩ (by kernel_rfl) ?_
      refine AW.cond rfl (fun hb_29=>?_) (fun hb_29=>?_)
      ·have h:=ifT hb_29 h
       refine AW.sa (fokR l_9) [] ⟨[pR 8 6,pR 9 7],[(7,.var 4 [.d (.bool true)]),(6,.var 33 [.d (q1 r0_4_1)]),(0,.var 33 [.d (q1 o0)]),(1,.var 67 (pbm o1_K (.wmp g_))),(2,.var 3 [jI o2]),(3,.var 116 [.clo 66 [] [.ptr 0 0,.ptr 1 0,.ptr 2 0,.ptr 3 0]]),(12,.dm),(8,.var 3 [jI (out.length:Int)]),(5,.var 33 [.d (q1 out)]),(4,.var 118 [.d (.bool (taken 0)),.d (.bool (taken 1)),.d (.bool (taken 2)),.d (.bool (taken 3)),.d (.bool (taken 4)),.d (.bool (taken 5)),.d (.bool (taken 6)),.d (.bool (taken 7)),.d (.bool (taken 8)),.d (.bool (taken 9)),.d (.bool (taken 10)),.d (.bool (taken 11)),.d (.bool (taken 12)),.d (.bool (taken 13)),.d (.bool (taken 14)),.d (.bool (taken 15))])],16,fr_,[],13⟩ (by kernel_rfl) ?_
       refine AW.ret ?_
       obtain rfl:=Option.some.inj h
       exact ⟨⟨[],[(12,.dm),(7,.var 4 [.d (.bool true)]),(6,.var 33 [.d (q1 r0_4_1)]),(0,.var 33 [.d (q1 o0)]),(1,.var 67 (pbm o1_K (.wmp g_))),(2,.var 3 [jI o2]),(3,.var 116 [.clo 66 [] [.ptr 0 0,.ptr 1 0,.ptr 2 0,.ptr 3 0]]),(8,.var 3 [jI (out.length:Int)]),(5,.var 33 [.d (q1 out)]),(4,.var 118 [.d (.bool (taken 0)),.d (.bool (taken 1)),.d (.bool (taken 2)),.d (.bool (taken 3)),.d (.bool (taken 4)),.d (.bool (taken 5)),.d (.bool (taken 6)),.d (.bool (taken 7)),.d (.bool (taken 8)),.d (.bool (taken 9)),.d (.bool (taken 10)),.d (.bool (taken 11)),.d (.bool (taken 12)),.d (.bool (taken 13)),.d (.bool (taken 14)),.d (.bool (taken 15))])],13,fr_,[],13⟩,Can.kp (by kernel_rfl),rdX trivial rfl (by kernel_rfl) (by kernel_rfl)⟩
      ·have h:=ifF hb_29 h
       refine AW.skip ?_
       obtain rfl:=Option.some.inj h
       exact ⟨⟨[],[(12,.dm),(8,.var 3 [jI (out.length:Int)]),(7,.var 4 [.d (.bool false)]),(6,.var 33 [.d (.nilSl)]),(5,.var 33 [.d (q1 out)]),(4,.var 118 [.d (.bool (taken 0)),.d (.bool (taken 1)),.d (.bool (taken 2)),.d (.bool (taken 3)),.d (.bool (taken 4)),.d (.bool (taken 5)),.d (.bool (taken 6)),.d (.bool (taken 7)),.d (.bool (taken 8)),.d (.bool (taken 9)),.d (.bool (taken 10)),.d (.bool (taken 11)),.d (.bool (taken 12)),.d (.bool (taken 13)),.d (.bool (taken 14)),.d (.bool (taken 15))]),(0,.var 33 [.d (q1 o0)]),(1,.var 67 (pbm o1_K (.wmp g_))),(2,.var 3 [jI o2]),(3,.var 116 [.clo 66 [] [.ptr 0 0,.ptr 1 0,.ptr 2 0,.ptr 3 0]])],13,fr_,[],13⟩,Can.kp (by kernel_rfl),rdX trivial rfl (by kernel_rfl) (by kernel_rfl)⟩
   ·rcases out_9 with _ | v
    ·refine hK_5 _ ?_
     refine Sa ⟨[pR 8 6,pR 9 7],[(7,.var 4 [.d (.bool false)]),(6,.var 33 [.d (.nilSl)]),(12,.dm),(0,.var 33 [.d (q1 o0)]),(1,.var 67 (pbm o1_K (.wmp g_))),(2,.var 3 [jI o2]),(3,.var 116 [.clo 66 [] [.ptr 0 0,.ptr 1 0,.ptr 2 0,.ptr 3 0]])],13,fr_,[12],4⟩ ?_
     obtain rfl:=Option.some.inj h
     exact AW.ret (hR_0 _ (retX (.cons (.one rfl rfl rfl) (.cons (.one rfl rfl rfl) .nil)) (Frz.tup_of ⟨.nil 1,.refl _,trivial⟩) rfl (by kernel_rfl) (by kernel_rfl)))
    ·obtain rfl:=Option.some.inj h
     exact hR_0 _ (retX (.cons (.one rfl rfl rfl) (.cons (.one rfl rfl rfl) .nil)) (.refl _) rfl (by kernel_rfl) (by kernel_rfl))
def g53 (b_K:PlankBook) (plank:Int) (parts:(List Int)):Option ((List Int)×Bool):=(g69).bind fun r0=>(g66 1000 r0 ([]:(List Int)) parts b_K plank).bind fun (r0_4,r1_3)=>some (r0_4,r1_3)
def y8 (parts:(List Int)) (plank:Int) (b_K:PlankBook) (g_:Nat):List (Nat×Blk):=[(3,.var 116 [.clo 66 [] [.ptr 2 0,.ptr 0 0,.ptr 1 0,.ptr 3 0]]),(2,.var 33 [.d (q1 parts)]),(1,.var 3 [jI plank]),(0,.var 67 (pbm b_K (.wmp g_)))]
theorem k53 (g_:Nat) (fr_:Fr) (hW_:FrW g_ WI fr_) (b_K:PlankBook) (plank:Int) (parts:(List Int)) (r:(List Int)×Bool) (h:g53 b_K plank parts=some r):SCall Tryd.prog Gs 53 [.agg (pbm b_K (.wmp g_)),jI plank,.d (q1 parts)] [] 0 fr_ (match r with | (r0_1,r1)=>.tup [.d (q1 r0_1),.d (.bool r1)]) [] 0 fr_:=by
 unfold g53 at h
 refine SCall.mkK Tryd.func53 c53 rfl rfl (by kernel_rfl) (fun Q_0 hR_0 hN_0=>?_)
 refine Sa ⟨[pR 3 0,pR 4 1,pR 5 2],[(2,.var 33 [.d (q1 parts)]),(1,.var 3 [jI plank]),(0,.var 67 (pbm b_K (.wmp g_)))],3,fr_,[],0⟩ ?_
 refine Sa ⟨[pR 3 0,pR 4 1,pR 5 2,pR 8 3],[(3,.var 116 [.d (.nilFn)]),(2,.var 33 [.d (q1 parts)]),(1,.var 3 [jI plank]),(0,.var 67 (pbm b_K (.wmp g_)))],4,fr_,[],0⟩ ?_
 refine Sa ⟨[pR 8 3],(y8 parts plank b_K g_),4,fr_,[],0⟩ ?_
 refine AW.sdrwK fokW (fun Q_1 hQ_1=>?_)
 refine aX 1 ⟨[(10,.clo 66 [] [.ptr 2 0,.ptr 0 0,.ptr 1 0,.ptr 3 0])],(y8 parts plank b_K g_),4,fr_,[],0⟩ ?_
 obtain ⟨r0,hx_2,h⟩:=bsome h
 refine r_call trivial rfl (k69 _ hx_2) rfl rfl ?_
 obtain ⟨⟨r0_4,r1_3⟩,hx_3,h⟩:=bsome h
 refine r_callvS (zr:=[]) [2,0,1,3] trivial rfl (.clo _ _ _) (by kernel_rfl) rfl (k66 g_ fr_ hW_ 1000 r0 ([]:(List Int)) parts b_K plank _ hx_3) ⟨rfl,rfl,rfl,rfl,trivial⟩ rfl rfl ⟨.refl _,(.nil 1),.refl _,.refl _,.refl _,.refl _,trivial⟩ rfl rfl rfl ?_
 refine aX 4 ⟨[(6,.d (q1 r0_4)),(7,.d (.bool r1_3))],[(2,.var 33 [.d (q1 parts)]),(0,.var 67 (pbm b_K (.wmp g_))),(1,.var 3 [jI plank]),(3,.var 116 [.clo 66 [] [.ptr 2 0,.ptr 0 0,.ptr 1 0,.ptr 3 0]])],4,fr_,[],0⟩ ?_
 refine Fi ⟨[(6,.d (q1 r0_4)),(7,.d (.bool r1_3))],[],4,fr_,[],0⟩ ?_
 refine hQ_1 _ ?_
 obtain rfl:=Option.some.inj h
 exact rT hR_0 (.cons (.tmp rfl) (.cons (.tmp rfl) .nil))
def g27_7 (rec_:PlankBook→Int→(List Int)→Option Bool) (b_K:PlankBook) (set_:Int) (planks:(List Int)):Int→Option (Ctl (Int) (Ctl (Unit) (Bool))):=fun  some_=>bindC ((ixL planks 0).bind fun p=>(g29 some_).bind fun r0=>(g53 b_K p r0).bind fun (r0_1,r1)=>bif r1 then ((slcL planks 1 (planks.length:Int)).bind fun l=>(rec_ b_K (bAndN set_ some_) l).bind fun r0_6_1=>bif r0_6_1 then (some (.brk (.brk (.brk true)))) else (some (.next ()))) else (some (.next ())):Option (Ctl (Unit) (Ctl (Int) (Ctl (Unit) (Bool))))) fun _=>bif (decide (some_=0)) then (some (.brk (.brk false))) else (some (.next (bAnd (wr (some_ - 1)) set_)))
def g27:Nat→PlankBook→Int→(List Int)→Option Bool
 | 0,_,_,_=>none
 | n_+1,b_K,set_,planks=>bif (decide (set_=0)) then (some true) else (bif (decide ((planks.length:Int)=0)) then (some false) else (bindC (whileC (g27_7 (g27 n_) b_K set_ planks) 1000 set_:Option (Ctl (Unit) (Bool))) fun _=>none))
theorem k27 (g_:Nat) (fr_:Fr) (hW_:FrW g_ WI fr_):∀ (n_:Nat) (b_K:PlankBook) (set_:Int) (planks:(List Int)) (r:Bool) (h:g27 n_ b_K set_ planks=some r),SCall Tryd.prog Gs 27 [.agg (pbm b_K (.wmp g_)),jI set_,.d (q1 planks)] [] 0 fr_ (.d (.bool r)) [] 0 fr_:=by
 intro n_
 induction n_ with
 | zero=>intro b_K set_ planks r h;cases h
 | succ n_ ih=>
  intro b_K set_ planks r h
  rw [g27] at h
  refine SCall.mkK Tryd.func27 c27 rfl rfl (by kernel_rfl) (fun Q_0 hR_0 hN_0=>?_)
  refine Sa ⟨[(1,jI set_),(2,.d (q1 planks)),pR 3 0],[(0,.var 67 (pbm b_K (.wmp g_)))],1,fr_,[],0⟩ ?_
  refine AW.seqK (fun K_1 hK_1=>?_)
  refine Sa ⟨[(1,jI set_),(2,.d (q1 planks)),pR 3 0,(11,.d (.bool (decide (set_=0))))],[(0,.var 67 (pbm b_K (.wmp g_)))],1,fr_,[],0⟩ ?_
  refine AW.cond rfl (fun hb_2=>?_) (fun hb_2=>?_)
  ·have h:=ifT hb_2 h
   refine Sa ⟨[(6,.d (.bool true))],[],1,fr_,[],0⟩ ?_
   obtain rfl:=Option.some.inj h
   exact rT hR_0 (.cons (.tmp rfl) .nil)
  ·have h:=ifF hb_2 h
   refine AW.skip (hK_1 _ ?_)
   refine AW.seqK fun K_3 hK_3=>AW.srwK fun Q_4 hQ_4=>?_
   refine Au 1 ⟨[(1,jI set_),(2,.d (q1 planks)),pR 3 0,(12,.d (q1 planks))],[(0,.var 67 (pbm b_K (.wmp g_)))],1,fr_,[],0⟩ ?_
   refine rL rfl ?_
   refine Au 1 ⟨[(1,jI set_),(2,.d (q1 planks)),pR 3 0,(14,.d (.bool (decide ((planks.length:Int)=0))))],[(0,.var 67 (pbm b_K (.wmp g_)))],1,fr_,[],0⟩ ?_
   refine RW.nil (hQ_4 _ ?_)
   refine AW.cond rfl (fun hb_5=>?_) (fun hb_5=>?_)
   ·have h:=ifT hb_5 h
    refine Sa ⟨[(6,.d (.bool false))],[],1,fr_,[],0⟩ ?_
    obtain rfl:=Option.some.inj h
    exact rT hR_0 (.cons (.tmp rfl) .nil)
   ·have h:=ifF hb_5 h
    refine AW.skip (hK_3 _ ?_)
    refine Sa ⟨[(1,jI set_),(2,.d (q1 planks)),pR 3 0,(7,jI set_)],[(0,.var 67 (pbm b_K (.wmp g_)))],1,fr_,[],0⟩ ?_
    obtain ⟨c_6,hx_6,hk_6⟩:=bsomeC h
    refine AW.jqK (fun (_:Unit)=>⟨[],[],1,fr_,[],0⟩) (c:=c_6) (fun K_6 hK_6=>?_) (fun j_6 hj_6=>?_)
    ·have h:=hx_6
     refine AW.block ?_
     refine AW.whK (fun (some_:Int)=>⟨[(1,jI set_),(2,.d (q1 planks)),pR 3 0,(7,jI some_)],[(0,.var 67 (pbm b_K (.wmp g_)))],1,fr_,[],0⟩) (g27_7 (g27 n_) b_K set_ planks) h (Can.kp (by kernel_rfl)) (fun some_ c_7 h hb_7 K_7 hK_7=>?_)
     unfold g27_7 at h
     refine AW.seqK (fun K_8 hK_8=>?_)
     refine AW.block ?_
     obtain ⟨c_9,hx_9,hk_9⟩:=bsomeC h
     refine AW.jnK (fun (_:Unit)=>⟨[(1,jI set_),(2,.d (q1 planks)),pR 3 0,(7,jI some_)],[(0,.var 67 (pbm b_K (.wmp g_)))],1,fr_,[],0⟩) (c:=c_9) (fun K_9 hK_9=>?_) (fun j_9 hj_9=>?_)
     ·have h:=hx_9
      refine AW.sdrwK fokW (fun Q_10 hQ_10=>?_)
      refine aX 2 ⟨[(1,jI set_),(2,.d (q1 planks)),pR 3 0,(7,jI some_),(21,.agg (pbm b_K (.wmp g_))),(22,.d (q1 planks))],[(0,.var 67 (pbm b_K (.wmp g_)))],1,fr_,[],0⟩ ?_
      obtain ⟨p,hv_11,h⟩:=bsome h
      refine r_iaD trivial rfl rfl (ixL_ok hv_11).1 (row:=e3 p) (mapget (ixL_ok hv_11).2) ?_
      refine aX 2 ⟨[(1,jI set_),(2,.d (q1 planks)),pR 3 0,(7,jI some_),(21,.agg (pbm b_K (.wmp g_))),(24,jI p),(25,jI some_)],[(0,.var 67 (pbm b_K (.wmp g_)))],1,fr_,[],0⟩ ?_
      obtain ⟨r0,hx_12,h⟩:=bsome h
      refine r_call trivial rfl (k29 some_ _ hx_12) rfl rfl ?_
      obtain ⟨⟨r0_1,r1⟩,hx_13,h⟩:=bsome h
      refine r_callSW (zr:=[]) [] trivial rfl (k53 g_ fr_ hW_ b_K p r0 _ hx_13) trivial rfl rfl ⟨.refl _,.refl _,.refl _,trivial⟩ rfl rfl rfl ?_
      refine aX 5 ⟨[(1,jI set_),(2,.d (q1 planks)),pR 3 0,(7,jI some_),(9,.d (.bool r1))],[(0,.var 67 (pbm b_K (.wmp g_)))],1,fr_,[],0⟩ ?_
      refine Fi ⟨[(1,jI set_),(2,.d (q1 planks)),pR 3 0,(7,jI some_),(9,.d (.bool r1))],[(0,.var 67 (pbm b_K (.wmp g_)))],1,fr_,[],0⟩ ?_
      refine hQ_10 _ ?_
      refine AW.sdrwK fokW (fun Q_14 hQ_14=>?_)
      refine aX 2 ⟨[(1,jI set_),(2,.d (q1 planks)),pR 3 0,(7,jI some_),(31,.d (.bool r1))],[(0,.var 67 (pbm b_K (.wmp g_)))],1,fr_,[],0⟩ ?_
      refine r_split 31 rfl (fun hb_15=>?_) (fun hb_15=>?_)
      ·have h:=ifT hb_15 h
       refine aX 3 ⟨[(1,jI set_),(2,.d (q1 planks)),pR 3 0,(7,jI some_),(31,.d (.bool true)),(32,.agg (pbm b_K (.wmp g_))),(33,jI set_),(34,jI some_)],[(0,.var 67 (pbm b_K (.wmp g_)))],1,fr_,[],0⟩ ?_
       refine r_andN rfl rfl rfl ?_
       refine aX 1 ⟨[(1,jI set_),(2,.d (q1 planks)),pR 3 0,(7,jI some_),(31,.d (.bool true)),(32,.agg (pbm b_K (.wmp g_))),(35,jI (bAndN set_ some_)),(36,.d (q1 planks))],[(0,.var 67 (pbm b_K (.wmp g_)))],1,fr_,[],0⟩ ?_
       obtain ⟨l,hv_16,h⟩:=bsome h
       refine r_slL rfl rfl rfl DSl.d (slhL hv_16 e3).1 (slhL hv_16 e3).2 (slzL hv_16 e3) ?_
       obtain ⟨r0_6_1,hx_17,h⟩:=bsome h
       refine r_callSW (zr:=[]) [] rfl rfl (ih b_K (bAndN set_ some_) l _ hx_17) trivial rfl rfl ⟨.refl _,.refl _,.refl _,trivial⟩ rfl rfl rfl ?_
       refine aX 1 ⟨[(1,jI set_),(2,.d (q1 planks)),pR 3 0,(7,jI some_),(39,.d (.bool r0_6_1))],[(0,.var 67 (pbm b_K (.wmp g_)))],1,fr_,[],0⟩ ?_
       refine Fi ⟨[(1,jI set_),(2,.d (q1 planks)),pR 3 0,(7,jI some_),(39,.d (.bool r0_6_1))],[(0,.var 67 (pbm b_K (.wmp g_)))],1,fr_,[],0⟩ ?_
       refine hQ_14 _ ?_
       refine AW.cond rfl (fun hb_18=>?_) (fun hb_18=>?_)
       ·have h:=ifT hb_18 h
        refine Sa ⟨[(6,.d (.bool true))],[],1,fr_,[],0⟩ ?_
        obtain rfl:=Option.some.inj h
        obtain rfl:=Aft.bk hk_9
        obtain rfl:=hb_7 _ rfl
        obtain rfl:=Aft.bk hk_6
        exact rT hR_0 (.cons (.tmp rfl) .nil)
       ·have h:=ifF hb_18 h
        refine AW.skip ?_
        obtain rfl:=Option.some.inj h
        exact hK_9 _ _ rfl (Can.kp (by kernel_rfl))
      ·have h:=ifF hb_15 h
       refine aX 8 ⟨[(1,jI set_),(2,.d (q1 planks)),pR 3 0,(7,jI some_),(39,.d (.bool false))],[(0,.var 67 (pbm b_K (.wmp g_)))],1,fr_,[],0⟩ ?_
       refine Fi ⟨[(1,jI set_),(2,.d (q1 planks)),pR 3 0,(7,jI some_),(39,.d (.bool false))],[(0,.var 67 (pbm b_K (.wmp g_)))],1,fr_,[],0⟩ ?_
       refine hQ_14 _ ?_
       refine AW.condF rfl ?_
       refine AW.skip ?_
       obtain rfl:=Option.some.inj h
       exact hK_9 _ _ rfl (Can.kp (by kernel_rfl))
     ·subst hj_9
      have h:=Aft.nx hk_9
      refine Sa ⟨[(1,jI set_),(2,.d (q1 planks)),pR 3 0,(7,jI some_),(41,.d (.bool (decide (some_=0))))],[(0,.var 67 (pbm b_K (.wmp g_)))],1,fr_,[],0⟩ ?_
      refine AW.cond rfl (fun hb_19=>?_) (fun hb_19=>?_)
      ·have h:=ifT hb_19 h
       refine Sa ⟨[(6,.d (.bool false))],[],1,fr_,[],0⟩ ?_
       obtain rfl:=Option.some.inj h
       obtain rfl:=hb_7 _ rfl
       obtain rfl:=Aft.bk hk_6
       exact rT hR_0 (.cons (.tmp rfl) .nil)
      ·have h:=ifF hb_19 h
       refine AW.skip (hK_8 _ ?_)
       refine Ra ⟨[(1,jI set_),(2,.d (q1 planks)),pR 3 0,(7,jI (bAnd (wr (some_ - 1)) set_))],[(0,.var 67 (pbm b_K (.wmp g_)))],1,fr_,[],0⟩ ?_
       obtain rfl:=Option.some.inj h
       exact hK_7 _ _ rfl (Can.kp (by kernel_rfl))
    ·subst hj_6
     have h:=Aft.nx hk_6
     cases h
def g26 (set_:Int) (o0_K:PlankBook):Option Bool:=(g28 o0_K).bind fun r0=>(g29 set_).bind fun r0_1=>(g27 1000 o0_K r0 r0_1).bind fun r0_6=>some r0_6
theorem k26 (g_:Nat) (fr_:Fr) (hW_:FrW g_ WI fr_) (set_:Int) (o0_K:PlankBook) (r:Bool) (h:g26 set_ o0_K=some r):SCall Tryd.prog Gs 26 [jI set_,.ptr 0 0] [(0,.var 67 (pbm o0_K (.wmp g_)))] 1 fr_ (.d (.bool r)) [(0,.var 67 (pbm o0_K (.wmp g_)))] 1 fr_:=by
 unfold g26 at h
 refine SCall.mkK Tryd.func26 c26 rfl rfl (by kernel_rfl) (fun Q_0 hR_0 hN_0=>?_)
 refine Sa ⟨[(0,jI set_),pR 1 0],[(0,.var 67 (pbm o0_K (.wmp g_)))],1,fr_,[],1⟩ ?_
 refine AW.sdrwK fokW (fun Q_1 hQ_1=>?_)
 refine aX 2 ⟨[(0,jI set_),(4,.agg (pbm o0_K (.wmp g_))),(5,.agg (pbm o0_K (.wmp g_)))],[(0,.var 67 (pbm o0_K (.wmp g_)))],1,fr_,[],1⟩ ?_
 obtain ⟨r0,hx_2,h⟩:=bsome h
 refine r_callSW (zr:=[]) [] trivial rfl (k28 g_ fr_ hW_ o0_K _ hx_2) trivial rfl rfl ⟨.refl _,trivial⟩ rfl rfl rfl ?_
 refine aX 1 ⟨[(4,.agg (pbm o0_K (.wmp g_))),(6,jI r0),(7,jI set_)],[(0,.var 67 (pbm o0_K (.wmp g_)))],1,fr_,[],1⟩ ?_
 obtain ⟨r0_1,hx_3,h⟩:=bsome h
 refine r_call trivial rfl (k29 set_ _ hx_3) rfl rfl ?_
 obtain ⟨r0_6,hx_4,h⟩:=bsome h
 refine r_callSW (zr:=[]) [] trivial rfl (k27 g_ fr_ hW_ 1000 o0_K r0 r0_1 _ hx_4) trivial rfl rfl ⟨.refl _,.refl _,.refl _,trivial⟩ rfl rfl rfl ?_
 refine aX 1 ⟨[(3,.d (.bool r0_6))],[(0,.var 67 (pbm o0_K (.wmp g_)))],1,fr_,[],1⟩ ?_
 refine Fi ⟨[(3,.d (.bool r0_6))],[(0,.var 67 (pbm o0_K (.wmp g_)))],1,fr_,[],1⟩ ?_
 refine hQ_1 _ ?_
 obtain rfl:=Option.some.inj h
 exact rT hR_0 (.cons (.tmp rfl) .nil)
def g71 (x:Int):Option Bool:=some (decide (x≠x))
theorem k71 (x:Int) (r:Bool) (h:g71 x=some r):SCall Tryd.prog Gs 71 [jI x] [] 0 Fr.emp (.d (.bool r)) [] 0 Fr.emp:=by
 unfold g71 at h
 refine SCall.mkK Tryd.func71 c71 rfl rfl (by kernel_rfl) (fun Q_0 hR_0 hN_0=>?_)
 refine Sa (sT [(0,jI x)] [] 0 0) ?_
 refine Sa (sT [(2,.d (.bool (decide (x≠x))))] [] 0 0) ?_
 obtain rfl:=Option.some.inj h
 exact rT hR_0 (.cons (.tmp rfl) .nil)
def g62 (x:Int) (y:Int):Option Int:=(g71 x).bind fun r0=>(g71 y).bind fun r0_1=>bif r0 then (bif r0_1 then (some 0) else (some (-1))) else (bif r0_1 then (some 1) else (bif (decide (x<y)) then (some (-1)) else (bif (decide (y<x)) then (some 1) else (some 0))))
theorem k62 (x:Int) (y:Int) (r:Int) (h:g62 x y=some r):SCall Tryd.prog Gs 62 [jI x,jI y] [] 0 Fr.emp (jI r) [] 0 Fr.emp:=by
 unfold g62 at h
 refine SCall.mkK Tryd.func62 c62 rfl rfl (by kernel_rfl) (fun Q_0 hR_0 hN_0=>?_)
 refine Sa (sT [(0,jI x),(1,jI y)] [] 0 0) ?_
 refine AW.srwK (fun Q_1 hQ_1=>?_)
 refine Au 1 (sT [(0,jI x),(1,jI y),(7,jI x)] [] 0 0) ?_
 obtain ⟨r0,hx_2,h⟩:=bsome h
 refine rC (k71 x _ hx_2) ?_
 refine Au 1 (sT [(0,jI x),(1,jI y),(5,.d (.bool r0))] [] 0 0) ?_
 refine RW.nil (hQ_1 _ ?_)
 refine AW.srwK (fun Q_3 hQ_3=>?_)
 refine Au 1 (sT [(0,jI x),(1,jI y),(5,.d (.bool r0)),(9,jI y)] [] 0 0) ?_
 obtain ⟨r0_1,hx_4,h⟩:=bsome h
 refine rC (k71 y _ hx_4) ?_
 refine Au 1 (sT [(0,jI x),(1,jI y),(5,.d (.bool r0)),(6,.d (.bool r0_1))] [] 0 0) ?_
 refine RW.nil (hQ_3 _ ?_)
 refine AW.seqK (fun K_5 hK_5=>?_)
 refine Sa (sT [(0,jI x),(1,jI y),(6,.d (.bool r0_1)),(11,.d (.bool r0))] [] 0 0) ?_
 refine AW.cond rfl (fun hb_6=>?_) (fun hb_6=>?_)
 ·have h:=ifT hb_6 h
  refine AW.seqK (fun K_7 hK_7=>?_)
  refine Sa (sT [(12,.d (.bool r0_1))] [] 0 0) ?_
  refine AW.cond rfl (fun hb_8=>?_) (fun hb_8=>?_)
  ·have h:=ifT hb_8 h
   refine Sa (sT [(4,jI 0)] [] 0 0) ?_
   obtain rfl:=Option.some.inj h
   exact rT hR_0 (.cons (.tmp rfl) .nil)
  ·have h:=ifF hb_8 h
   refine AW.skip (hK_7 _ ?_)
   refine Sa (sT [(4,jI (-1))] [] 0 0) ?_
   obtain rfl:=Option.some.inj h
   exact rT hR_0 (.cons (.tmp rfl) .nil)
 ·have h:=ifF hb_6 h
  refine AW.skip (hK_5 _ ?_)
  refine AW.seqK (fun K_9 hK_9=>?_)
  refine Sa (sT [(0,jI x),(1,jI y),(13,.d (.bool r0_1))] [] 0 0) ?_
  refine AW.cond rfl (fun hb_10=>?_) (fun hb_10=>?_)
  ·have h:=ifT hb_10 h
   refine Sa (sT [(4,jI 1)] [] 0 0) ?_
   obtain rfl:=Option.some.inj h
   exact rT hR_0 (.cons (.tmp rfl) .nil)
  ·have h:=ifF hb_10 h
   refine AW.skip (hK_9 _ ?_)
   refine AW.seqK (fun K_11 hK_11=>?_)
   refine Sa (sT [(0,jI x),(1,jI y),(16,.d (.bool (decide (x<y))))] [] 0 0) ?_
   refine AW.cond rfl (fun hb_12=>?_) (fun hb_12=>?_)
   ·have h:=ifT hb_12 h
    refine Sa (sT [(4,jI (-1))] [] 0 0) ?_
    obtain rfl:=Option.some.inj h
    exact rT hR_0 (.cons (.tmp rfl) .nil)
   ·have h:=ifF hb_12 h
    refine AW.skip (hK_11 _ ?_)
    refine AW.seqK (fun K_13 hK_13=>?_)
    refine Sa (sT [(19,.d (.bool (decide (y<x))))] [] 0 0) ?_
    refine AW.cond rfl (fun hb_14=>?_) (fun hb_14=>?_)
    ·have h:=ifT hb_14 h
     refine Sa (sT [(4,jI 1)] [] 0 0) ?_
     obtain rfl:=Option.some.inj h
     exact rT hR_0 (.cons (.tmp rfl) .nil)
    ·have h:=ifF hb_14 h
     refine AW.skip (hK_13 _ ?_)
     refine Sa (sT [(4,jI 0)] [] 0 0) ?_
     obtain rfl:=Option.some.inj h
     exact rT hR_0 (.cons (.tmp rfl) .nil)
def g41_3 (s2:(List Int)):Int→Int→Unit→Option (Ctl (Unit) (Int)):=fun v p _=>bif (decide ((s2.length:Int)≤v)) then (some (.brk 1)) else ((ixL s2 v).bind fun p1=>(g62 p p1).bind fun r0_7=>bif (decide (r0_7≠0)) then (some (.brk r0_7)) else (some (.next ())))
def g41 (s1:(List Int)) (s2:(List Int)):Option Int:=bindC (eachC (g41_3 s2) s1 0 ()) fun _=>bif (decide ((s1.length:Int)<(s2.length:Int))) then (some (-1)) else (some 0)
theorem k41 (s1:(List Int)) (s2:(List Int)) (r:Int) (h:g41 s1 s2=some r):SCall Tryd.prog Gs 41 [.d (q1 s1),.d (q1 s2)] [] 0 Fr.emp (jI r) [] 0 Fr.emp:=by
 unfold g41 at h
 refine SCall.mkK Tryd.func41 c41 rfl rfl (by kernel_rfl) (fun Q_0 hR_0 hN_0=>?_)
 refine Sa (sT [(0,.d (q1 s1)),(1,.d (q1 s2))] [] 0 0) ?_
 refine AW.seqK fun K_1 hK_1=>AW.srwK fun Q_2 hQ_2=>?_
 refine Au 1 (sT [(0,.d (q1 s1)),(1,.d (q1 s2)),(9,.d (q1 s1))] [] 0 0) ?_
 refine rL rfl ?_
 refine Au 1 (sT [(0,.d (q1 s1)),(1,.d (q1 s2)),(9,.d (q1 s1)),(10,jI (s1.length:Int)),(11,jI 0)] [] 0 0) ?_
 refine RW.nil (hQ_2 _ ?_)
 refine AW.block ?_
 refine AW.sln (t:=0) rfl (fun hN_3=>?_)
 rw [List.length_map] at hN_3
 obtain ⟨out_3,hx_3,hk_3⟩:=bsomeC h
 refine AW.evCK (fun (v:Int) (_:Unit)=>(sT [(0,.d (q1 s1)),(1,.d (q1 s2)),(9,.d (q1 s1)),(10,jI (s1.length:Int)),(11,jI v)] [] 0 0)) (g41_3 s2) hx_3 (Can.kp (by kernel_rfl)) (fun v p s_3 hi_3 hl_3 hp_3 c_3 h hb_3 K_3 hK_3=>?_) (fun v s_3 hi_3 hl_3 hout=>?_)
 ·unfold g41_3 at h
  refine Sa (sT [(0,.d (q1 s1)),(1,.d (q1 s2)),(9,.d (q1 s1)),(10,jI (s1.length:Int)),(11,jI v),(12,.d (.bool (decide (v<(s1.length:Int)))))] [] 0 0) ?_
  refine AW.seqK (fun K_4 hK_4=>?_)
  refine AW.cond rfl (fun hb_5=>?_) (fun hb_5=>False.elim (by have:=of_decide_eq_false hb_5;omega))
  refine AW.skip (hK_4 _ ?_)
  refine AW.seqK (fun K_6 hK_6=>?_)
  refine AW.block ?_
  refine AW.srwK (fun Q_7 hQ_7=>?_)
  refine Au 1 (sT [(0,.d (q1 s1)),(1,.d (q1 s2)),(9,.d (q1 s1)),(10,jI (s1.length:Int)),(11,jI v),(13,jI v)] [] 0 0) ?_
  refine RW.one fokW (r_iaD trivial rfl rfl hi_3 (row:=e3 p) (mapget hp_3) (r_end ?_))
  refine Au 3 (sT [(0,.d (q1 s1)),(1,.d (q1 s2)),(5,jI v),(6,jI p),(9,.d (q1 s1)),(10,jI (s1.length:Int)),(11,jI v)] [] 0 0) ?_
  refine RW.nil (hQ_7 _ ?_)
  refine AW.seqK fun K_8 hK_8=>AW.srwK fun Q_9 hQ_9=>?_
  refine Au 2 (sT [(0,.d (q1 s1)),(1,.d (q1 s2)),(5,jI v),(6,jI p),(9,.d (q1 s1)),(10,jI (s1.length:Int)),(11,jI v),(16,jI v),(17,.d (q1 s2))] [] 0 0) ?_
  refine rL rfl ?_
  refine Au 1 (sT [(0,.d (q1 s1)),(1,.d (q1 s2)),(5,jI v),(6,jI p),(9,.d (q1 s1)),(10,jI (s1.length:Int)),(11,jI v),(19,.d (.bool (decide ((s2.length:Int)≤v))))] [] 0 0) ?_
  refine RW.nil (hQ_9 _ ?_)
  refine AW.cond rfl (fun hb_10=>?_) (fun hb_10=>?_)
  ·have h:=ifT hb_10 h
   refine Sa (sT [(4,jI 1)] [] 0 0) ?_
   obtain rfl:=Option.some.inj h
   have e_1:=hb_3 _ rfl
   subst e_1
   obtain rfl:=Aft.bk hk_3
   exact rT hR_0 (.cons (.tmp rfl) .nil)
  ·have h:=ifF hb_10 h
   refine AW.skip (hK_8 _ ?_)
   refine AW.srwK (fun Q_11 hQ_11=>?_)
   refine Au 2 (sT [(0,.d (q1 s1)),(1,.d (q1 s2)),(6,jI p),(9,.d (q1 s1)),(10,jI (s1.length:Int)),(11,jI v),(20,.d (q1 s2)),(21,jI v)] [] 0 0) ?_
   obtain ⟨p1,hv_12,h⟩:=bsome h
   refine RW.one fokW (r_iaD trivial rfl rfl (ixL_ok hv_12).1 (row:=e3 p1) (mapget (ixL_ok hv_12).2) (r_end ?_))
   refine Au 2 (sT [(0,.d (q1 s1)),(1,.d (q1 s2)),(6,jI p),(7,jI p1),(9,.d (q1 s1)),(10,jI (s1.length:Int)),(11,jI v)] [] 0 0) ?_
   refine RW.nil (hQ_11 _ ?_)
   refine AW.srwK (fun Q_13 hQ_13=>?_)
   refine Au 2 (sT [(0,.d (q1 s1)),(1,.d (q1 s2)),(9,.d (q1 s1)),(10,jI (s1.length:Int)),(11,jI v),(24,jI p),(25,jI p1)] [] 0 0) ?_
   obtain ⟨r0_7,hx_14,h⟩:=bsome h
   refine rC (k62 p p1 _ hx_14) ?_
   refine Au 1 (sT [(0,.d (q1 s1)),(1,.d (q1 s2)),(8,jI r0_7),(9,.d (q1 s1)),(10,jI (s1.length:Int)),(11,jI v)] [] 0 0) ?_
   refine RW.nil (hQ_13 _ ?_)
   refine Sa (sT [(0,.d (q1 s1)),(1,.d (q1 s2)),(8,jI r0_7),(9,.d (q1 s1)),(10,jI (s1.length:Int)),(11,jI v),(28,.d (.bool (decide (r0_7≠0))))] [] 0 0) ?_
   refine AW.cond rfl (fun hb_15=>?_) (fun hb_15=>?_)
   ·have h:=ifT hb_15 h
    refine Sa (sT [(4,jI r0_7)] [] 0 0) ?_
    obtain rfl:=Option.some.inj h
    have e_1:=hb_3 _ rfl
    subst e_1
    obtain rfl:=Aft.bk hk_3
    exact rT hR_0 (.cons (.tmp rfl) .nil)
   ·have h:=ifF hb_15 h
    refine AW.skip (hK_6 _ ?_)
    refine Ra (sT [(0,.d (q1 s1)),(1,.d (q1 s2)),(9,.d (q1 s1)),(10,jI (s1.length:Int)),(11,jI (wr (v+1)))] [] 0 0) ?_
    obtain rfl:=Option.some.inj h
    have ew:wr (v+1)=v+1:=inext (N:=(s1.length:Int)) (by omega) (by omega) (by omega)
    rw [ew]
    exact hK_3 _ _ rfl (Can.kp (by kernel_rfl))
 ·subst hout
  have h:=Aft.nx hk_3
  refine Sa (sT [(0,.d (q1 s1)),(1,.d (q1 s2)),(9,.d (q1 s1)),(10,jI (s1.length:Int)),(11,jI v),(12,.d (.bool (decide (v<(s1.length:Int)))))] [] 0 0) ?_
  refine AW.seqK (fun K_16 hK_16=>?_)
  refine AW.cond rfl (fun hb_17=>False.elim (by have:=of_decide_eq_true hb_17;omega)) (fun hb_17=>?_)
  refine AW.exit ?_
  refine hK_1 _ ?_
  refine AW.seqK fun K_18 hK_18=>AW.srwK fun Q_19 hQ_19=>?_
  refine Au 1 (sT [(1,.d (q1 s2)),(31,.d (q1 s1))] [] 0 0) ?_
  refine rL rfl ?_
  refine Au 1 (sT [(32,jI (s1.length:Int)),(33,.d (q1 s2))] [] 0 0) ?_
  refine rL rfl ?_
  refine Au 1 (sT [(35,.d (.bool (decide ((s1.length:Int)<(s2.length:Int)))))] [] 0 0) ?_
  refine RW.nil (hQ_19 _ ?_)
  refine AW.cond rfl (fun hb_20=>?_) (fun hb_20=>?_)
  ·have h:=ifT hb_20 h
   refine Sa (sT [(4,jI (-1))] [] 0 0) ?_
   obtain rfl:=Option.some.inj h
   exact rT hR_0 (.cons (.tmp rfl) .nil)
  ·have h:=ifF hb_20 h
   refine AW.skip (hK_18 _ ?_)
   refine Sa (sT [(4,jI 0)] [] 0 0) ?_
   obtain rfl:=Option.some.inj h
   exact rT hR_0 (.cons (.tmp rfl) .nil)
def g54 (l:(List Int)) (m:(List Int)):Option Bool:=(bif (decide ((l.length:Int)<(m.length:Int))) then (some true) else (bif (decide ((l.length:Int)=(m.length:Int))) then ((g41 l m).bind fun r0_3=>some (decide (r0_3<0))) else (some false))).bind fun v=>some v
theorem k54 (l:(List Int)) (m:(List Int)) (r:Bool) (h:g54 l m=some r):SCall Tryd.prog Gs 54 [.d (q1 l),.d (q1 m)] [] 0 Fr.emp (.d (.bool r)) [] 0 Fr.emp:=by
 unfold g54 at h
 refine SCall.mkK Tryd.func54 c54 rfl rfl (by kernel_rfl) (fun Q_0 hR_0 hN_0=>?_)
 refine Sa (sT [(0,.d (q1 l)),(1,.d (q1 m))] [] 0 0) ?_
 refine AW.srwK (fun Q_1 hQ_1=>?_)
 refine Au 1 (sT [(0,.d (q1 l)),(1,.d (q1 m)),(5,.d (q1 l))] [] 0 0) ?_
 refine rL rfl ?_
 refine Au 1 (sT [(0,.d (q1 l)),(1,.d (q1 m)),(6,jI (l.length:Int)),(7,.d (q1 m))] [] 0 0) ?_
 refine rL rfl ?_
 refine Au 2 (sT [(0,.d (q1 l)),(1,.d (q1 m)),(10,.d (.bool (decide ((l.length:Int)<(m.length:Int)))))] [] 0 0) ?_
 obtain ⟨v,hx_2,h⟩:=bsome h
 refine RW.cut fokW 12 ((sT [(22,.d (.bool v))] [] 0 0)) ?_ ?_
 ·refine r_split 10 rfl (fun hb_5=>?_) (fun hb_5=>?_)
  ·have h:=ifT hb_5 hx_2
   refine aX 12 (sT [(22,.d (.bool true))] [] 0 0) ?_
   obtain rfl:=Option.some.inj h
   refine RunC.finJ (Can.kp (by kernel_rfl))
  ·have h:=ifF hb_5 hx_2
   refine aX 1 (sT [(0,.d (q1 l)),(1,.d (q1 m)),(10,.d (.bool false)),(11,.d (q1 l))] [] 0 0) ?_
   refine r_lenX rfl rfl lenm ?_
   refine aX 1 (sT [(0,.d (q1 l)),(1,.d (q1 m)),(10,.d (.bool false)),(12,jI (l.length:Int)),(13,.d (q1 m))] [] 0 0) ?_
   refine r_lenX rfl rfl lenm ?_
   refine aX 2 (sT [(0,.d (q1 l)),(1,.d (q1 m)),(10,.d (.bool false)),(16,.d (.bool (decide ((l.length:Int)=(m.length:Int)))))] [] 0 0) ?_
   refine r_split 16 rfl (fun hb_3=>?_) (fun hb_3=>?_)
   ·have h:=ifT hb_3 h
    refine aX 2 (sT [(10,.d (.bool false)),(16,.d (.bool true)),(17,.d (q1 l)),(18,.d (q1 m))] [] 0 0) ?_
    obtain ⟨r0_3,hx_4,h⟩:=bsome h
    refine r_call rfl rfl (k41 l m _ hx_4) rfl rfl ?_
    refine aX 3 (sT [(22,.d (.bool (decide (r0_3<0))))] [] 0 0) ?_
    obtain rfl:=Option.some.inj h
    refine RunC.finJ (Can.kp (by kernel_rfl))
   ·have h:=ifF hb_3 h
    refine aX 6 (sT [(22,.d (.bool false))] [] 0 0) ?_
    obtain rfl:=Option.some.inj h
    refine RunC.finJ (Can.kp (by kernel_rfl))
 ·refine Au 1 (sT [(4,.d (.bool v))] [] 0 0) ?_
  refine RW.nil (hQ_1 _ ?_)
  obtain rfl:=Option.some.inj h
  exact rT hR_0 (.cons (.tmp rfl) .nil)
end Go.Proofs.Tp
