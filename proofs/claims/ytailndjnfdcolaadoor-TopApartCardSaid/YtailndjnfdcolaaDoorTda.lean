/- Told functions, and that the program does so, part 1. Conditions: none. -/
import Derived.Test.YtailndjnfdcolaaDoorDa
set_option linter.unusedVariables false
set_option linter.unusedSimpArgs false
namespace Go.Proofs.Ta
open Go Go.Abs Go.Proofs
def g28 (n:Int) (first:Int) (last:Int):Option Bool:=some ((decide (first≤n))&&(decide (n≤last)))
theorem k28 (n:Int) (first:Int) (last:Int) (r:Bool) (h:g28 n first last=some r):SCall Tryd.prog Gs 28 [jI n,jI first,jI last] [] 0 Fr.emp (.d (.bool r)) [] 0 Fr.emp:=by
 unfold g28 at h
 refine SCall.mkK Tryd.func28 c28 rfl rfl (by kernel_rfl) (fun Q_0 hR_0 hN_0=>?_)
 refine Sa (sT [(0,jI n),(1,jI first),(2,jI last)] [] 0 0) ?_
 refine AW.sa fokW [10] (sT [(6,.d (.bool ((decide (first≤n))&&(decide (n≤last)))))] [] 0 0) (by kernel_rfl) ?_
 obtain rfl:=Option.some.inj h
 exact rT hR_0 (.cons (.tmp rfl) .nil)
def g13_17:Int→Int→Bool→Option Bool:=fun v3 p1 ok1=>(bif ok1 then ((g28 p1 1 15).bind fun r0_2=>some r0_2) else (some false)).bind fun v4=>some v4
def g13_8 (b:DappleBook):Int→(List Int)→Bool→Option Bool:=fun v1 p ok=>(bif ok then (some (decide ((p.length:Int)=b.Round))) else (some false)).bind fun v2=>(eachS g13_17 p 0 v2).bind fun ok1=>some ok1
def g13 (b:DappleBook):Option Int:=(g28 b.Round 1 8).bind fun r0=>(bif r0 then ((g28 (b.Horses.length:Int) 1 6).bind fun r0_1=>some r0_1) else (some false)).bind fun v=>(eachS (g13_8 b) b.Horses 0 v).bind fun ok=>bif (!ok) then (some 70) else (some 0)
theorem k13 (b:DappleBook) (r:Int) (h:g13 b=some r):SCall Tryd.prog Gs 13 [.agg [jI b.Round,.d (.sl 1 (List.map e29 b.Horses))]] [] 0 Fr.emp (jI r) [] 0 Fr.emp:=by
 unfold g13 at h
 refine SCall.mkK Tryd.func13 c13 rfl rfl (by kernel_rfl) (fun Q_0 hR_0 hN_0=>?_)
 refine Sa (sT [pR 1 0] [(0,.var 24 [jI b.Round,.d (.sl 1 (List.map e29 b.Horses))])] 1 0) ?_
 refine AW.srwK (fun Q_1 hQ_1=>?_)
 refine Au 2 (sT [pR 1 0,(9,jI b.Round)] [(0,.var 24 [jI b.Round,.d (.sl 1 (List.map e29 b.Horses))])] 1 0) ?_
 obtain ⟨r0,hx_2,h⟩:=bsome h
 refine rC (k28 b.Round 1 8 _ hx_2) ?_
 refine Au 1 (sT [pR 1 0,(11,.d (.bool r0))] [(0,.var 24 [jI b.Round,.d (.sl 1 (List.map e29 b.Horses))])] 1 0) ?_
 obtain ⟨v,hx_3,h⟩:=bsome h
 refine RW.cut fokW 5 ((sT [pR 1 0,(16,.d (.bool v))] [(0,.var 24 [jI b.Round,.d (.sl 1 (List.map e29 b.Horses))])] 1 0)) ?_ ?_
 ·refine r_split 11 rfl (fun hb_5=>?_) (fun hb_5=>?_)
  ·have h:=ifT hb_5 hx_3
   refine aX 2 (sT [pR 1 0,(11,.d (.bool true)),(13,.d (.sl 1 (List.map e29 b.Horses)))] [(0,.var 24 [jI b.Round,.d (.sl 1 (List.map e29 b.Horses))])] 1 0) ?_
   refine r_lenX rfl rfl lenm ?_
   obtain ⟨r0_1,hx_4,h⟩:=bsome h
   refine r_call rfl rfl (k28 (b.Horses.length:Int) 1 6 _ hx_4) rfl rfl ?_
   refine aX 1 (sT [pR 1 0,(16,.d (.bool r0_1))] [(0,.var 24 [jI b.Round,.d (.sl 1 (List.map e29 b.Horses))])] 1 0) ?_
   obtain rfl:=Option.some.inj h
   refine RunC.finJ (Can.kp (by kernel_rfl))
  ·have h:=ifF hb_5 hx_3
   refine aX 5 (sT [pR 1 0,(16,.d (.bool false))] [(0,.var 24 [jI b.Round,.d (.sl 1 (List.map e29 b.Horses))])] 1 0) ?_
   obtain rfl:=Option.some.inj h
   refine RunC.finJ (Can.kp (by kernel_rfl))
 ·refine Au 1 (sT [pR 1 0,(3,.d (.bool v))] [(0,.var 24 [jI b.Round,.d (.sl 1 (List.map e29 b.Horses))])] 1 0) ?_
  refine RW.nil (hQ_1 _ ?_)
  refine AW.seqK fun K_6 hK_6=>AW.srwK fun Q_7 hQ_7=>?_
  refine Au 2 (sT [pR 1 0,(3,.d (.bool v)),(18,.d (.sl 1 (List.map e29 b.Horses)))] [(0,.var 24 [jI b.Round,.d (.sl 1 (List.map e29 b.Horses))])] 1 0) ?_
  refine rL rfl ?_
  refine Au 1 (sT [pR 1 0,(3,.d (.bool v)),(18,.d (.sl 1 (List.map e29 b.Horses))),(19,jI (b.Horses.length:Int)),(20,jI 0)] [(0,.var 24 [jI b.Round,.d (.sl 1 (List.map e29 b.Horses))])] 1 0) ?_
  refine RW.nil (hQ_7 _ ?_)
  refine AW.block ?_
  refine AW.sln (t:=18) rfl (fun hN_8=>?_)
  rw [List.length_map] at hN_8
  obtain ⟨out_8,hx_8,h⟩:=bsome h
  refine AW.evSK (fun (v1:Int) (ok:Bool)=>(sT [pR 1 0,(3,.d (.bool ok)),(18,.d (.sl 1 (List.map e29 b.Horses))),(19,jI (b.Horses.length:Int)),(20,jI v1)] [(0,.var 24 [jI b.Round,.d (.sl 1 (List.map e29 b.Horses))])] 1 0)) (g13_8 b) hx_8 (Can.kp (by kernel_rfl)) (fun v1 p ok hi_8 hl_8 hp_8 c_8 h K_8 hK_8=>?_) (fun v1 ok hi_8 hl_8 hout=>?_)
  ·unfold g13_8 at h
   refine Sa (sT [pR 1 0,(3,.d (.bool ok)),(18,.d (.sl 1 (List.map e29 b.Horses))),(19,jI (b.Horses.length:Int)),(20,jI v1),(21,.d (.bool (decide (v1<(b.Horses.length:Int)))))] [(0,.var 24 [jI b.Round,.d (.sl 1 (List.map e29 b.Horses))])] 1 0) ?_
   refine AW.seqK (fun K_9 hK_9=>?_)
   refine AW.cond rfl (fun hb_10=>?_) (fun hb_10=>False.elim (by have:=of_decide_eq_false hb_10;omega))
   refine AW.skip (hK_9 _ ?_)
   refine AW.seqK (fun K_11 hK_11=>?_)
   refine AW.block ?_
   refine AW.srwK (fun Q_12 hQ_12=>?_)
   refine RW.one fokW (r_iaD trivial rfl rfl hi_8 (row:=e29 p) (mapget hp_8) (r_end ?_))
   refine Au 2 (sT [pR 1 0,(3,.d (.bool ok)),(5,.d (.sl 1 (List.map e3 p))),(18,.d (.sl 1 (List.map e29 b.Horses))),(19,jI (b.Horses.length:Int)),(20,jI v1)] [(0,.var 24 [jI b.Round,.d (.sl 1 (List.map e29 b.Horses))])] 1 0) ?_
   refine RW.nil (hQ_12 _ ?_)
   refine AW.srwK (fun Q_13 hQ_13=>?_)
   refine Au 2 (sT [pR 1 0,(5,.d (.sl 1 (List.map e3 p))),(18,.d (.sl 1 (List.map e29 b.Horses))),(19,jI (b.Horses.length:Int)),(20,jI v1),(25,.d (.bool ok))] [(0,.var 24 [jI b.Round,.d (.sl 1 (List.map e29 b.Horses))])] 1 0) ?_
   obtain ⟨v2,hx_14,h⟩:=bsome h
   refine RW.cut fokW 6 ((sT [pR 1 0,(5,.d (.sl 1 (List.map e3 p))),(18,.d (.sl 1 (List.map e29 b.Horses))),(19,jI (b.Horses.length:Int)),(20,jI v1),(31,.d (.bool v2))] [(0,.var 24 [jI b.Round,.d (.sl 1 (List.map e29 b.Horses))])] 1 0)) ?_ ?_
   ·refine r_split 25 rfl (fun hb_15=>?_) (fun hb_15=>?_)
    ·have h:=ifT hb_15 hx_14
     refine aX 1 (sT [pR 1 0,(5,.d (.sl 1 (List.map e3 p))),(18,.d (.sl 1 (List.map e29 b.Horses))),(19,jI (b.Horses.length:Int)),(20,jI v1),(25,.d (.bool true)),(26,.d (.sl 1 (List.map e3 p)))] [(0,.var 24 [jI b.Round,.d (.sl 1 (List.map e29 b.Horses))])] 1 0) ?_
     refine r_lenX rfl rfl lenm ?_
     refine aX 4 (sT [pR 1 0,(5,.d (.sl 1 (List.map e3 p))),(18,.d (.sl 1 (List.map e29 b.Horses))),(19,jI (b.Horses.length:Int)),(20,jI v1),(31,.d (.bool (decide ((p.length:Int)=b.Round))))] [(0,.var 24 [jI b.Round,.d (.sl 1 (List.map e29 b.Horses))])] 1 0) ?_
     obtain rfl:=Option.some.inj h
     refine RunC.finJ (Can.kp (by kernel_rfl))
    ·have h:=ifF hb_15 hx_14
     refine aX 6 (sT [pR 1 0,(5,.d (.sl 1 (List.map e3 p))),(18,.d (.sl 1 (List.map e29 b.Horses))),(19,jI (b.Horses.length:Int)),(20,jI v1),(31,.d (.bool false))] [(0,.var 24 [jI b.Round,.d (.sl 1 (List.map e29 b.Horses))])] 1 0) ?_
     obtain rfl:=Option.some.inj h
     refine RunC.finJ (Can.kp (by kernel_rfl))
   ·refine Au 1 (sT [pR 1 0,(3,.d (.bool v2)),(5,.d (.sl 1 (List.map e3 p))),(18,.d (.sl 1 (List.map e29 b.Horses))),(19,jI (b.Horses.length:Int)),(20,jI v1)] [(0,.var 24 [jI b.Round,.d (.sl 1 (List.map e29 b.Horses))])] 1 0) ?_
    refine RW.nil (hQ_13 _ ?_)
    refine AW.srwK (fun Q_16 hQ_16=>?_)
    refine Au 1 (sT [pR 1 0,(3,.d (.bool v2)),(18,.d (.sl 1 (List.map e29 b.Horses))),(19,jI (b.Horses.length:Int)),(20,jI v1),(32,.d (.sl 1 (List.map e3 p)))] [(0,.var 24 [jI b.Round,.d (.sl 1 (List.map e29 b.Horses))])] 1 0) ?_
    refine rL rfl ?_
    refine Au 1 (sT [pR 1 0,(3,.d (.bool v2)),(18,.d (.sl 1 (List.map e29 b.Horses))),(19,jI (b.Horses.length:Int)),(20,jI v1),(32,.d (.sl 1 (List.map e3 p))),(33,jI (p.length:Int)),(34,jI 0)] [(0,.var 24 [jI b.Round,.d (.sl 1 (List.map e29 b.Horses))])] 1 0) ?_
    refine RW.nil (hQ_16 _ ?_)
    refine AW.block ?_
    refine AW.sln (t:=32) rfl (fun hN_17=>?_)
    rw [List.length_map] at hN_17
    obtain ⟨out_17,hx_17,h⟩:=bsome h
    refine AW.evSK (fun (v3:Int) (ok1:Bool)=>(sT [pR 1 0,(3,.d (.bool ok1)),(18,.d (.sl 1 (List.map e29 b.Horses))),(19,jI (b.Horses.length:Int)),(20,jI v1),(32,.d (.sl 1 (List.map e3 p))),(33,jI (p.length:Int)),(34,jI v3)] [(0,.var 24 [jI b.Round,.d (.sl 1 (List.map e29 b.Horses))])] 1 0)) g13_17 hx_17 (Can.kp (by kernel_rfl)) (fun v3 p1 ok1 hi_17 hl_17 hp_17 c_17 h K_17 hK_17=>?_) (fun v3 ok1 hi_17 hl_17 hout=>?_)
    ·unfold g13_17 at h
     refine Sa (sT [pR 1 0,(3,.d (.bool ok1)),(18,.d (.sl 1 (List.map e29 b.Horses))),(19,jI (b.Horses.length:Int)),(20,jI v1),(32,.d (.sl 1 (List.map e3 p))),(33,jI (p.length:Int)),(34,jI v3),(35,.d (.bool (decide (v3<(p.length:Int)))))] [(0,.var 24 [jI b.Round,.d (.sl 1 (List.map e29 b.Horses))])] 1 0) ?_
     refine AW.seqK (fun K_18 hK_18=>?_)
     refine AW.cond rfl (fun hb_19=>?_) (fun hb_19=>False.elim (by have:=of_decide_eq_false hb_19;omega))
     refine AW.skip (hK_18 _ ?_)
     refine AW.seqK (fun K_20 hK_20=>?_)
     refine AW.block ?_
     refine AW.srwK (fun Q_21 hQ_21=>?_)
     refine RW.one fokW (r_iaD trivial rfl rfl hi_17 (row:=e3 p1) (mapget hp_17) (r_end ?_))
     refine Au 2 (sT [pR 1 0,(3,.d (.bool ok1)),(7,jI p1),(18,.d (.sl 1 (List.map e29 b.Horses))),(19,jI (b.Horses.length:Int)),(20,jI v1),(32,.d (.sl 1 (List.map e3 p))),(33,jI (p.length:Int)),(34,jI v3)] [(0,.var 24 [jI b.Round,.d (.sl 1 (List.map e29 b.Horses))])] 1 0) ?_
     refine RW.nil (hQ_21 _ ?_)
     refine AW.rw ?_
     refine Au 2 (sT [pR 1 0,(7,jI p1),(18,.d (.sl 1 (List.map e29 b.Horses))),(19,jI (b.Horses.length:Int)),(20,jI v1),(32,.d (.sl 1 (List.map e3 p))),(33,jI (p.length:Int)),(34,jI v3),(39,.d (.bool ok1))] [(0,.var 24 [jI b.Round,.d (.sl 1 (List.map e29 b.Horses))])] 1 0) ?_
     obtain ⟨v4,hx_23,h⟩:=bsome h
     refine RW.cut fokW 3 ((sT [pR 1 0,(18,.d (.sl 1 (List.map e29 b.Horses))),(19,jI (b.Horses.length:Int)),(20,jI v1),(32,.d (.sl 1 (List.map e3 p))),(33,jI (p.length:Int)),(34,jI v3),(42,.d (.bool v4))] [(0,.var 24 [jI b.Round,.d (.sl 1 (List.map e29 b.Horses))])] 1 0)) ?_ ?_
     ·refine r_split 39 rfl (fun hb_25=>?_) (fun hb_25=>?_)
      ·have h:=ifT hb_25 hx_23
       refine aX 1 (sT [pR 1 0,(18,.d (.sl 1 (List.map e29 b.Horses))),(19,jI (b.Horses.length:Int)),(20,jI v1),(32,.d (.sl 1 (List.map e3 p))),(33,jI (p.length:Int)),(34,jI v3),(39,.d (.bool true)),(40,jI p1)] [(0,.var 24 [jI b.Round,.d (.sl 1 (List.map e29 b.Horses))])] 1 0) ?_
       obtain ⟨r0_2,hx_24,h⟩:=bsome h
       refine r_call rfl rfl (k28 p1 1 15 _ hx_24) rfl rfl ?_
       refine aX 1 (sT [pR 1 0,(18,.d (.sl 1 (List.map e29 b.Horses))),(19,jI (b.Horses.length:Int)),(20,jI v1),(32,.d (.sl 1 (List.map e3 p))),(33,jI (p.length:Int)),(34,jI v3),(42,.d (.bool r0_2))] [(0,.var 24 [jI b.Round,.d (.sl 1 (List.map e29 b.Horses))])] 1 0) ?_
       obtain rfl:=Option.some.inj h
       refine RunC.finJ (Can.kp (by kernel_rfl))
      ·have h:=ifF hb_25 hx_23
       refine aX 3 (sT [pR 1 0,(18,.d (.sl 1 (List.map e29 b.Horses))),(19,jI (b.Horses.length:Int)),(20,jI v1),(32,.d (.sl 1 (List.map e3 p))),(33,jI (p.length:Int)),(34,jI v3),(42,.d (.bool false))] [(0,.var 24 [jI b.Round,.d (.sl 1 (List.map e29 b.Horses))])] 1 0) ?_
       obtain rfl:=Option.some.inj h
       refine RunC.finJ (Can.kp (by kernel_rfl))
     ·refine Au 1 (sT [pR 1 0,(3,.d (.bool v4)),(18,.d (.sl 1 (List.map e29 b.Horses))),(19,jI (b.Horses.length:Int)),(20,jI v1),(32,.d (.sl 1 (List.map e3 p))),(33,jI (p.length:Int)),(34,jI v3)] [(0,.var 24 [jI b.Round,.d (.sl 1 (List.map e29 b.Horses))])] 1 0) ?_
      refine RW.nil ?_
      refine hK_20 _ ?_
      refine Ra (sT [pR 1 0,(3,.d (.bool v4)),(18,.d (.sl 1 (List.map e29 b.Horses))),(19,jI (b.Horses.length:Int)),(20,jI v1),(32,.d (.sl 1 (List.map e3 p))),(33,jI (p.length:Int)),(34,jI (wr (v3+1)))] [(0,.var 24 [jI b.Round,.d (.sl 1 (List.map e29 b.Horses))])] 1 0) ?_
      obtain rfl:=Option.some.inj h
      have ew:wr (v3+1)=v3+1:=inext (N:=(p.length:Int)) (by omega) (by omega) (by omega)
      rw [ew]
      exact hK_17 _ (Can.kp (by kernel_rfl))
    ·subst hout
     refine Sa (sT [pR 1 0,(3,.d (.bool ok1)),(18,.d (.sl 1 (List.map e29 b.Horses))),(19,jI (b.Horses.length:Int)),(20,jI v1),(32,.d (.sl 1 (List.map e3 p))),(33,jI (p.length:Int)),(34,jI v3),(35,.d (.bool (decide (v3<(p.length:Int)))))] [(0,.var 24 [jI b.Round,.d (.sl 1 (List.map e29 b.Horses))])] 1 0) ?_
     refine AW.seqK (fun K_26 hK_26=>?_)
     refine AW.cond rfl (fun hb_27=>False.elim (by have:=of_decide_eq_true hb_27;omega)) (fun hb_27=>?_)
     refine AW.exit ?_
     refine hK_11 _ ?_
     refine Ra (sT [pR 1 0,(3,.d (.bool ok1)),(18,.d (.sl 1 (List.map e29 b.Horses))),(19,jI (b.Horses.length:Int)),(20,jI (wr (v1+1)))] [(0,.var 24 [jI b.Round,.d (.sl 1 (List.map e29 b.Horses))])] 1 0) ?_
     obtain rfl:=Option.some.inj h
     have ew:wr (v1+1)=v1+1:=inext (N:=(b.Horses.length:Int)) (by omega) (by omega) (by omega)
     rw [ew]
     exact hK_8 _ (Can.kp (by kernel_rfl))
  ·subst hout
   refine Sa (sT [pR 1 0,(3,.d (.bool ok)),(18,.d (.sl 1 (List.map e29 b.Horses))),(19,jI (b.Horses.length:Int)),(20,jI v1),(21,.d (.bool (decide (v1<(b.Horses.length:Int)))))] [(0,.var 24 [jI b.Round,.d (.sl 1 (List.map e29 b.Horses))])] 1 0) ?_
   refine AW.seqK (fun K_28 hK_28=>?_)
   refine AW.cond rfl (fun hb_29=>False.elim (by have:=of_decide_eq_true hb_29;omega)) (fun hb_29=>?_)
   refine AW.exit ?_
   refine hK_6 _ ?_
   refine AW.seqK (fun K_30 hK_30=>?_)
   refine Sa (sT [(46,.d (.bool (!ok)))] [] 1 0) ?_
   refine AW.cond rfl (fun hb_31=>?_) (fun hb_31=>?_)
   ·have h:=ifT hb_31 h
    refine Sa (sT [(2,jI 70)] [] 1 0) ?_
    obtain rfl:=Option.some.inj h
    exact rT hR_0 (.cons (.tmp rfl) .nil)
   ·have h:=ifF hb_31 h
    refine AW.skip (hK_30 _ ?_)
    refine Sa (sT [(2,jI 0)] [] 1 0) ?_
    obtain rfl:=Option.some.inj h
    exact rT hR_0 (.cons (.tmp rfl) .nil)
def g14 (n:Int) (first:Int) (last:Int):Option Bool:=some ((decide (first≤n))&&(decide (n≤last)))
theorem k14 (n:Int) (first:Int) (last:Int) (r:Bool) (h:g14 n first last=some r):SCall Tryd.prog Gs 14 [jI n,jI first,jI last] [] 0 Fr.emp (.d (.bool r)) [] 0 Fr.emp:=by
 unfold g14 at h
 refine SCall.mkK Tryd.func14 c14 rfl rfl (by kernel_rfl) (fun Q_0 hR_0 hN_0=>?_)
 refine Sa (sT [(0,jI n),(1,jI first),(2,jI last)] [] 0 0) ?_
 refine AW.sa fokW [10] (sT [(6,.d (.bool ((decide (first≤n))&&(decide (n≤last)))))] [] 0 0) (by kernel_rfl) ?_
 obtain rfl:=Option.some.inj h
 exact rT hR_0 (.cons (.tmp rfl) .nil)
def g4_21 (b:DappleBook) (p:(List Int)):(Bool×Int)→Option (Ctl (Bool×Int) (Bool)):=fun  (ok5,p1)=>bif (ok5&&(decide (p1<b.Round))) then ((ixL p p1).bind fun p2=>(g14 p2 1 15).bind fun r0_2=>some (.next (r0_2,(wr (p1+1))))) else (some (.brk ok5))
def g4_11 (b:DappleBook):(Bool×Int)→Option (Ctl (Bool×Int) (Bool)):=fun  (ok2,h_)=>(bif ok2 then (some (decide (h_<(b.Horses.length:Int)))) else (some false)).bind fun v2=>bif v2 then (((ixL b.Horses h_).bind fun p=>(whileC (g4_21 b p) 1000 ((decide ((p.length:Int)=b.Round)),0)).bind fun ok4=>some ok4).bind fun ok3=>some (.next (ok3,(wr (h_+1))))) else (some (.brk ok2))
def g4 (b:DappleBook):Option Bool:=(g13 b).bind fun r0_4=>(bif (decide (r0_4=0)) then ((g14 b.Round 1 6).bind fun r0=>some r0) else (some false)).bind fun v=>(bif v then ((g14 (b.Horses.length:Int) 1 5).bind fun r0_1=>some r0_1) else (some false)).bind fun v1=>((whileC (g4_11 b) 1000 (v1,0)).bind fun ok1=>some ok1).bind fun ok=>some ok
theorem k4 (b:DappleBook) (r:Bool) (h:g4 b=some r):SCall Tryd.prog Gs 4 [.agg [jI b.Round,.d (.sl 1 (List.map e29 b.Horses))]] [] 0 Fr.emp (.d (.bool r)) [] 0 Fr.emp:=by
 unfold g4 at h
 refine SCall.mkK Tryd.func4 c4 rfl rfl (by kernel_rfl) (fun Q_0 hR_0 hN_0=>?_)
 refine Sa (sT [pR 1 0] [(0,.var 24 [jI b.Round,.d (.sl 1 (List.map e29 b.Horses))])] 1 0) ?_
 refine AW.srwK (fun Q_1 hQ_1=>?_)
 refine Au 1 (sT [pR 1 0,(6,.agg [jI b.Round,.d (.sl 1 (List.map e29 b.Horses))])] [(0,.var 24 [jI b.Round,.d (.sl 1 (List.map e29 b.Horses))])] 1 0) ?_
 obtain ⟨r0_4,hx_2,h⟩:=bsome h
 refine rC (k13 b _ hx_2) ?_
 refine Au 2 (sT [pR 1 0,(9,.d (.bool (decide (r0_4=0))))] [(0,.var 24 [jI b.Round,.d (.sl 1 (List.map e29 b.Horses))])] 1 0) ?_
 obtain ⟨v,hx_3,h⟩:=bsome h
 refine RW.cut fokW 4 ((sT [pR 1 0,(13,.d (.bool v))] [(0,.var 24 [jI b.Round,.d (.sl 1 (List.map e29 b.Horses))])] 1 0)) ?_ ?_
 ·refine r_split 9 rfl (fun hb_5=>?_) (fun hb_5=>?_)
  ·have h:=ifT hb_5 hx_3
   refine aX 2 (sT [pR 1 0,(9,.d (.bool true)),(11,jI b.Round)] [(0,.var 24 [jI b.Round,.d (.sl 1 (List.map e29 b.Horses))])] 1 0) ?_
   obtain ⟨r0,hx_4,h⟩:=bsome h
   refine r_call rfl rfl (k14 b.Round 1 6 _ hx_4) rfl rfl ?_
   refine aX 1 (sT [pR 1 0,(13,.d (.bool r0))] [(0,.var 24 [jI b.Round,.d (.sl 1 (List.map e29 b.Horses))])] 1 0) ?_
   obtain rfl:=Option.some.inj h
   refine RunC.finJ (Can.kp (by kernel_rfl))
  ·have h:=ifF hb_5 hx_3
   refine aX 4 (sT [pR 1 0,(13,.d (.bool false))] [(0,.var 24 [jI b.Round,.d (.sl 1 (List.map e29 b.Horses))])] 1 0) ?_
   obtain rfl:=Option.some.inj h
   refine RunC.finJ (Can.kp (by kernel_rfl))
 ·refine Au 1 (sT [pR 1 0,(14,.d (.bool v))] [(0,.var 24 [jI b.Round,.d (.sl 1 (List.map e29 b.Horses))])] 1 0) ?_
  obtain ⟨v1,hx_6,h⟩:=bsome h
  refine RW.cut fokW 5 ((sT [pR 1 0,(19,.d (.bool v1))] [(0,.var 24 [jI b.Round,.d (.sl 1 (List.map e29 b.Horses))])] 1 0)) ?_ ?_
  ·refine r_split 14 rfl (fun hb_8=>?_) (fun hb_8=>?_)
   ·have h:=ifT hb_8 hx_6
    refine aX 2 (sT [pR 1 0,(14,.d (.bool true)),(16,.d (.sl 1 (List.map e29 b.Horses)))] [(0,.var 24 [jI b.Round,.d (.sl 1 (List.map e29 b.Horses))])] 1 0) ?_
    refine r_lenX rfl rfl lenm ?_
    obtain ⟨r0_1,hx_7,h⟩:=bsome h
    refine r_call rfl rfl (k14 (b.Horses.length:Int) 1 5 _ hx_7) rfl rfl ?_
    refine aX 1 (sT [pR 1 0,(19,.d (.bool r0_1))] [(0,.var 24 [jI b.Round,.d (.sl 1 (List.map e29 b.Horses))])] 1 0) ?_
    obtain rfl:=Option.some.inj h
    refine RunC.finJ (Can.kp (by kernel_rfl))
   ·have h:=ifF hb_8 hx_6
    refine aX 5 (sT [pR 1 0,(19,.d (.bool false))] [(0,.var 24 [jI b.Round,.d (.sl 1 (List.map e29 b.Horses))])] 1 0) ?_
    obtain rfl:=Option.some.inj h
    refine RunC.finJ (Can.kp (by kernel_rfl))
  ·refine Au 1 (sT [pR 1 0,(3,.d (.bool v1))] [(0,.var 24 [jI b.Round,.d (.sl 1 (List.map e29 b.Horses))])] 1 0) ?_
   refine RW.nil (hQ_1 _ ?_)
   obtain ⟨ok,hx_9,h⟩:=bsome h
   refine AW.jnSK (fun (ok:Bool)=>(sT [(3,.d (.bool ok))] [] 1 0)) (c:=ok) (fun K_9 hK_9=>?_) ?_
   ·have h:=hx_9
    refine Sa (sT [pR 1 0,(3,.d (.bool v1)),(4,jI 0)] [(0,.var 24 [jI b.Round,.d (.sl 1 (List.map e29 b.Horses))])] 1 0) ?_
    obtain ⟨ok1,hx_10,h⟩:=bsome h
    refine AW.jqSK (fun (ok1:Bool)=>(sT [(3,.d (.bool ok1))] [] 1 0)) (c:=ok1) (fun K_10 hK_10=>?_) ?_
    ·have h:=hx_10
     refine AW.block ?_
     refine AW.whK (fun (⟨ok2,h_⟩:Bool×Int)=>(sT [pR 1 0,(3,.d (.bool ok2)),(4,jI h_)] [(0,.var 24 [jI b.Round,.d (.sl 1 (List.map e29 b.Horses))])] 1 0)) (g4_11 b) h (Can.kp (by kernel_rfl)) (fun s_11 c_11 h hb_11 K_11 hK_11=>?_)
     obtain ⟨ok2,h_⟩:=s_11
     unfold g4_11 at h
     refine AW.seqK fun K_12 hK_12=>AW.srwK fun Q_13 hQ_13=>?_
     refine Au 2 (sT [pR 1 0,(3,.d (.bool ok2)),(4,jI h_),(21,.d (.bool ok2))] [(0,.var 24 [jI b.Round,.d (.sl 1 (List.map e29 b.Horses))])] 1 0) ?_
     obtain ⟨v2,hx_14,h⟩:=bsome h
     refine RW.cut fokW 6 ((sT [pR 1 0,(3,.d (.bool ok2)),(4,jI h_),(27,.d (.bool v2))] [(0,.var 24 [jI b.Round,.d (.sl 1 (List.map e29 b.Horses))])] 1 0)) ?_ ?_
     ·refine r_split 21 rfl (fun hb_15=>?_) (fun hb_15=>?_)
      ·have h:=ifT hb_15 hx_14
       refine aX 3 (sT [pR 1 0,(3,.d (.bool ok2)),(4,jI h_),(21,.d (.bool true)),(22,jI h_),(24,.d (.sl 1 (List.map e29 b.Horses)))] [(0,.var 24 [jI b.Round,.d (.sl 1 (List.map e29 b.Horses))])] 1 0) ?_
       refine r_lenX rfl rfl lenm ?_
       refine aX 2 (sT [pR 1 0,(3,.d (.bool ok2)),(4,jI h_),(27,.d (.bool (decide (h_<(b.Horses.length:Int)))))] [(0,.var 24 [jI b.Round,.d (.sl 1 (List.map e29 b.Horses))])] 1 0) ?_
       obtain rfl:=Option.some.inj h
       refine RunC.finJ (Can.kp (by kernel_rfl))
      ·have h:=ifF hb_15 hx_14
       refine aX 6 (sT [pR 1 0,(3,.d (.bool ok2)),(4,jI h_),(27,.d (.bool false))] [(0,.var 24 [jI b.Round,.d (.sl 1 (List.map e29 b.Horses))])] 1 0) ?_
       obtain rfl:=Option.some.inj h
       refine RunC.finJ (Can.kp (by kernel_rfl))
     ·refine RW.nil (hQ_13 _ ?_)
      refine AW.cond rfl (fun hb_16=>?_) (fun hb_16=>?_)
      ·have h:=ifT hb_16 h
       refine AW.skip (hK_12 _ ?_)
       obtain ⟨ok3,hx_17,h⟩:=bsome h
       refine AW.jnSK (fun (ok3:Bool)=>(sT [pR 1 0,(3,.d (.bool ok3)),(4,jI h_)] [(0,.var 24 [jI b.Round,.d (.sl 1 (List.map e29 b.Horses))])] 1 0)) (c:=ok3) (fun K_17 hK_17=>?_) ?_
       ·have h:=hx_17
        refine AW.block ?_
        refine AW.sdrwK fokW (fun Q_18 hQ_18=>?_)
        refine aX 3 (sT [pR 1 0,(4,jI h_),(31,.d (.sl 1 (List.map e29 b.Horses))),(32,jI h_)] [(0,.var 24 [jI b.Round,.d (.sl 1 (List.map e29 b.Horses))])] 1 0) ?_
        obtain ⟨p,hv_19,h⟩:=bsome h
        refine r_iaD trivial rfl rfl (ixL_ok hv_19).1 (row:=e29 p) (mapget (ixL_ok hv_19).2) ?_
        refine aX 1 (sT [pR 1 0,(4,jI h_),(34,.d (.sl 1 (List.map e3 p)))] [(0,.var 24 [jI b.Round,.d (.sl 1 (List.map e29 b.Horses))])] 1 0) ?_
        refine r_lenX trivial rfl lenm ?_
        refine aX 4 (sT [pR 1 0,(3,.d (.bool (decide ((p.length:Int)=b.Round)))),(4,jI h_)] [(0,.var 24 [jI b.Round,.d (.sl 1 (List.map e29 b.Horses))])] 1 0) ?_
        refine Fi (sT [pR 1 0,(3,.d (.bool (decide ((p.length:Int)=b.Round)))),(4,jI h_)] [(0,.var 24 [jI b.Round,.d (.sl 1 (List.map e29 b.Horses))])] 1 0) ?_
        refine hQ_18 _ ?_
        refine Sa (sT [pR 1 0,(3,.d (.bool (decide ((p.length:Int)=b.Round)))),(4,jI h_),(5,jI 0)] [(0,.var 24 [jI b.Round,.d (.sl 1 (List.map e29 b.Horses))])] 1 0) ?_
        obtain ⟨ok4,hx_20,h⟩:=bsome h
        refine AW.jqSK (fun (ok4:Bool)=>(sT [pR 1 0,(3,.d (.bool ok4)),(4,jI h_)] [(0,.var 24 [jI b.Round,.d (.sl 1 (List.map e29 b.Horses))])] 1 0)) (c:=ok4) (fun K_20 hK_20=>?_) ?_
        ·have h:=hx_20
         refine AW.block ?_
         refine AW.whK (fun (⟨ok5,p1⟩:Bool×Int)=>(sT [pR 1 0,(3,.d (.bool ok5)),(4,jI h_),(5,jI p1)] [(0,.var 24 [jI b.Round,.d (.sl 1 (List.map e29 b.Horses))])] 1 0)) (g4_21 b p) h (Can.kp (by kernel_rfl)) (fun s_21 c_21 h hb_21 K_21 hK_21=>?_)
         obtain ⟨ok5,p1⟩:=s_21
         unfold g4_21 at h
         refine AW.seqK (fun K_22 hK_22=>?_)
         refine AW.sa fokW [40] (sT [pR 1 0,(3,.d (.bool ok5)),(4,jI h_),(5,jI p1),(45,.d (.bool (ok5&&(decide (p1<b.Round)))))] [(0,.var 24 [jI b.Round,.d (.sl 1 (List.map e29 b.Horses))])] 1 0) (by kernel_rfl) ?_
         refine AW.cond rfl (fun hb_23=>?_) (fun hb_23=>?_)
         ·have h:=ifT hb_23 h
          refine AW.skip (hK_22 _ ?_)
          refine AW.seqK (fun K_24 hK_24=>?_)
          refine AW.block ?_
          refine AW.rw ?_
          refine Au 3 (sT [pR 1 0,(4,jI h_),(5,jI p1),(49,.d (.sl 1 (List.map e29 b.Horses))),(50,jI h_)] [(0,.var 24 [jI b.Round,.d (.sl 1 (List.map e29 b.Horses))])] 1 0) ?_
          refine RW.one fokW (r_iaD trivial rfl rfl (ixL_ok hv_19).1 (row:=e29 p) (mapget (ixL_ok hv_19).2) (r_end ?_))
          refine Au 2 (sT [pR 1 0,(4,jI h_),(5,jI p1),(52,.d (.sl 1 (List.map e3 p))),(53,jI p1)] [(0,.var 24 [jI b.Round,.d (.sl 1 (List.map e29 b.Horses))])] 1 0) ?_
          obtain ⟨p2,hv_26,h⟩:=bsome h
          refine RW.one fokW (r_iaD trivial rfl rfl (ixL_ok hv_26).1 (row:=e3 p2) (mapget (ixL_ok hv_26).2) (r_end ?_))
          refine Au 1 (sT [pR 1 0,(4,jI h_),(5,jI p1),(55,jI p2)] [(0,.var 24 [jI b.Round,.d (.sl 1 (List.map e29 b.Horses))])] 1 0) ?_
          obtain ⟨r0_2,hx_27,h⟩:=bsome h
          refine rC (k14 p2 1 15 _ hx_27) ?_
          refine Au 1 (sT [pR 1 0,(3,.d (.bool r0_2)),(4,jI h_),(5,jI p1)] [(0,.var 24 [jI b.Round,.d (.sl 1 (List.map e29 b.Horses))])] 1 0) ?_
          refine RW.nil ?_
          refine hK_24 _ ?_
          refine Ra (sT [pR 1 0,(3,.d (.bool r0_2)),(4,jI h_),(5,jI (wr (p1+1)))] [(0,.var 24 [jI b.Round,.d (.sl 1 (List.map e29 b.Horses))])] 1 0) ?_
          obtain rfl:=Option.some.inj h
          exact hK_21 _ _ rfl (Can.kp (by kernel_rfl))
         ·have h:=ifF hb_23 h
          refine AW.exit ?_
          obtain rfl:=Option.some.inj h
          obtain rfl:=hb_21 _ rfl
          exact hK_20 _ (Can.kp (by kernel_rfl))
        ·obtain rfl:=Option.some.inj h
         exact hK_17 _ (Can.kp (by kernel_rfl))
       ·refine Ra (sT [pR 1 0,(3,.d (.bool ok3)),(4,jI (wr (h_+1)))] [(0,.var 24 [jI b.Round,.d (.sl 1 (List.map e29 b.Horses))])] 1 0) ?_
        obtain rfl:=Option.some.inj h
        exact hK_11 _ _ rfl (Can.kp (by kernel_rfl))
      ·have h:=ifF hb_16 h
       refine AW.exit ?_
       obtain rfl:=Option.some.inj h
       obtain rfl:=hb_11 _ rfl
       exact hK_10 _ (Can.kp (by kernel_rfl))
    ·obtain rfl:=Option.some.inj h
     exact hK_9 _ (Can.kp (by kernel_rfl))
   ·refine Sa (sT [(2,.d (.bool ok))] [] 1 0) ?_
    obtain rfl:=Option.some.inj h
    exact rT hR_0 (.cons (.tmp rfl) .nil)
def g16 :Option DappleBook:=some (DappleBook.mk 3 ([[1,2,4],[2,4,1],[1,2,6]]))
theorem k16  (r:DappleBook) (h:g16=some r):SCall Tryd.prog Gs 16 [] [] 0 Fr.emp (.agg [jI r.Round,.d (.sl 1 (List.map e29 r.Horses))]) [] 0 Fr.emp:=by
 unfold g16 at h
 refine SCall.mkK Tryd.func16 c16 rfl rfl (by kernel_rfl) (fun Q_0 hR_0 hN_0=>?_)
 refine Sa (sT [pR 0 0] [(0,.var 24 [jI 0,.d (.nilSl)])] 1 0) ?_
 refine AW.srwK (fun Q_1 hQ_1=>?_)
 refine RW.one fokW (r_bslF trivial rfl rfl rfl rfl rfl rfl (ys:=List.map e3 [1,2,4]) rfl (r_end ?_))
 refine RW.one fokW (r_bslF trivial rfl rfl rfl rfl rfl rfl (ys:=List.map e3 [2,4,1]) rfl (r_end ?_))
 refine RW.one fokW (r_bslF trivial rfl rfl rfl rfl rfl rfl (ys:=List.map e3 [1,2,6]) rfl (r_end ?_))
 refine Au 3 (sT [pR 0 0] [(0,.var 24 [jI 3,.own 4 (List.map e29 ([[1,2,4],[2,4,1],[1,2,6]])).length]),(4,.row 29 1 (List.map e29 ([[1,2,4],[2,4,1],[1,2,6]])))] 5 0) ?_
 refine RW.nil (hQ_1 _ ?_)
 obtain rfl:=Option.some.inj h
 exact AW.ret (hR_0 _ (retX (.cons (.agg rfl rfl (Nat.le_of_ble_eq_true rfl)) .nil) (Frz.agg_of ⟨.refl _,(.own rfl rfl),trivial⟩) rfl (by kernel_rfl) (by kernel_rfl)))
def g43 :Option (Nat→Int):=some (arrL [0,0,0,0,0,0,0,0])
def y1:List (Nat×Blk):=[(0,.var 60 [jI 0,jI 0,jI 0,jI 0,jI 0,jI 0,jI 0,jI 0])]
theorem k43  (r:(Nat→Int)) (h:g43=some r):SCall Tryd.prog Gs 43 [] [] 0 Fr.emp (.agg [jI (r 0),jI (r 1),jI (r 2),jI (r 3),jI (r 4),jI (r 5),jI (r 6),jI (r 7)]) [] 0 Fr.emp:=by
 unfold g43 at h
 refine SCall.mkK Tryd.func43 c43 rfl rfl (by kernel_rfl) (fun Q_0 hR_0 hN_0=>?_)
 refine Sa (sT [pR 0 0] y1 1 0) ?_
 refine Sa (sT [pR 0 0,pR 1 1] [(1,.var 60 [jI 0,jI 0,jI 0,jI 0,jI 0,jI 0,jI 0,jI 0]),(0,.var 60 [jI 0,jI 0,jI 0,jI 0,jI 0,jI 0,jI 0,jI 0])] 2 0) ?_
 refine Sa (sT [pR 0 0] y1 2 0) ?_
 obtain rfl:=Option.some.inj h
 exact rT hR_0 (.cons (.agg rfl rfl (Nat.le_of_ble_eq_true rfl)) .nil)
def g30_5:Int→Int→(Nat→Int)→Option (Nat→Int):=fun v p r_=>(ixN 8 v).bind fun j=>some (aset r_ j p)
def g30 (l:(List Int)):Option (Nat→Int):=(g43).bind fun r0=>(eachS g30_5 l 0 r0).bind fun r_=>some r_
def y2 (r_:(Nat→Int)):List (Nat×Blk):=[(1,.var 60 [jI (r_ 0),jI (r_ 1),jI (r_ 2),jI (r_ 3),jI (r_ 4),jI (r_ 5),jI (r_ 6),jI (r_ 7)]),(0,.var 60 [jI 0,jI 0,jI 0,jI 0,jI 0,jI 0,jI 0,jI 0])]
theorem k30 (l:(List Int)) (r:(Nat→Int)) (h:g30 l=some r):SCall Tryd.prog Gs 30 [.d (.sl 1 (List.map e3 l))] [] 0 Fr.emp (.agg [jI (r 0),jI (r 1),jI (r 2),jI (r 3),jI (r 4),jI (r 5),jI (r 6),jI (r 7)]) [] 0 Fr.emp:=by
 unfold g30 at h
 refine SCall.mkK Tryd.func30 c30 rfl rfl (by kernel_rfl) (fun Q_0 hR_0 hN_0=>?_)
 refine Sa (sT [(0,.d (.sl 1 (List.map e3 l))),pR 2 0] [(0,.var 60 [jI 0,jI 0,jI 0,jI 0,jI 0,jI 0,jI 0,jI 0])] 1 0) ?_
 refine AW.srwK (fun Q_1 hQ_1=>?_)
 obtain ⟨r0,hx_2,h⟩:=bsome h
 refine rC (k43 _ hx_2) ?_
 refine Au 2 (sT [(0,.d (.sl 1 (List.map e3 l))),pR 2 0,pR 3 1] [(1,.var 60 [jI (r0 0),jI (r0 1),jI (r0 2),jI (r0 3),jI (r0 4),jI (r0 5),jI (r0 6),jI (r0 7)]),(0,.var 60 [jI 0,jI 0,jI 0,jI 0,jI 0,jI 0,jI 0,jI 0])] 2 0) ?_
 refine RW.nil (hQ_1 _ ?_)
 refine AW.seqK fun K_3 hK_3=>AW.srwK fun Q_4 hQ_4=>?_
 refine Au 1 (sT [pR 2 0,pR 3 1,(7,.d (.sl 1 (List.map e3 l)))] [(1,.var 60 [jI (r0 0),jI (r0 1),jI (r0 2),jI (r0 3),jI (r0 4),jI (r0 5),jI (r0 6),jI (r0 7)]),(0,.var 60 [jI 0,jI 0,jI 0,jI 0,jI 0,jI 0,jI 0,jI 0])] 2 0) ?_
 refine rL rfl ?_
 refine Au 1 (sT [pR 2 0,pR 3 1,(7,.d (.sl 1 (List.map e3 l))),(8,jI (l.length:Int)),(9,jI 0)] [(1,.var 60 [jI (r0 0),jI (r0 1),jI (r0 2),jI (r0 3),jI (r0 4),jI (r0 5),jI (r0 6),jI (r0 7)]),(0,.var 60 [jI 0,jI 0,jI 0,jI 0,jI 0,jI 0,jI 0,jI 0])] 2 0) ?_
 refine RW.nil (hQ_4 _ ?_)
 refine AW.block ?_
 refine AW.sln (t:=7) rfl (fun hN_5=>?_)
 rw [List.length_map] at hN_5
 obtain ⟨out_5,hx_5,h⟩:=bsome h
 refine AW.evSK (fun (v:Int) (r_:(Nat→Int))=>(sT [pR 2 0,pR 3 1,(7,.d (.sl 1 (List.map e3 l))),(8,jI (l.length:Int)),(9,jI v)] (y2 r_) 2 0)) g30_5 hx_5 (Can.kp (by kernel_rfl)) (fun v p r_ hi_5 hl_5 hp_5 c_5 h K_5 hK_5=>?_) (fun v r_ hi_5 hl_5 hout=>?_)
 ·unfold g30_5 at h
  refine Sa (sT [pR 2 0,pR 3 1,(7,.d (.sl 1 (List.map e3 l))),(8,jI (l.length:Int)),(9,jI v),(10,.d (.bool (decide (v<(l.length:Int)))))] (y2 r_) 2 0) ?_
  refine AW.seqK (fun K_6 hK_6=>?_)
  refine AW.cond rfl (fun hb_7=>?_) (fun hb_7=>False.elim (by have:=of_decide_eq_false hb_7;omega))
  refine AW.skip (hK_6 _ ?_)
  refine AW.seqK (fun K_8 hK_8=>?_)
  refine AW.block ?_
  refine AW.srwK (fun Q_9 hQ_9=>?_)
  refine Au 1 (sT [pR 2 0,pR 3 1,(7,.d (.sl 1 (List.map e3 l))),(8,jI (l.length:Int)),(9,jI v),(11,jI v)] (y2 r_) 2 0) ?_
  refine RW.one fokW (r_iaD trivial rfl rfl hi_5 (row:=e3 p) (mapget hp_5) (r_end ?_))
  refine Au 3 (sT [pR 2 0,pR 3 1,(4,jI v),(5,jI p),(7,.d (.sl 1 (List.map e3 l))),(8,jI (l.length:Int)),(9,jI v)] (y2 r_) 2 0) ?_
  refine RW.nil (hQ_9 _ ?_)
  refine AW.rw ?_
  refine Au 2 (sT [pR 2 0,pR 3 1,(7,.d (.sl 1 (List.map e3 l))),(8,jI (l.length:Int)),(9,jI v),(14,jI v),(15,jI p)] (y2 r_) 2 0) ?_
  obtain ⟨j,hv_11,h⟩:=bsome h
  refine RW.one fokW (r_iaV trivial rfl rfl rfl (ixN_ok hv_11).1 (ixN_ok hv_11).2.1 (r_end ?_))
  refine RW.one fokW (r_stX trivial rfl rfl rfl rfl rfl (aslot hv_11 rfl) (cs':=[jI ((aset r_ j p) 0),jI ((aset r_ j p) 1),jI ((aset r_ j p) 2),jI ((aset r_ j p) 3),jI ((aset r_ j p) 4),jI ((aset r_ j p) 5),jI ((aset r_ j p) 6),jI ((aset r_ j p) 7)]) (ast (w:=r_) (c:=fun z=>jI z) hv_11) (r_end ?_))
  refine RW.nil ?_
  refine hK_8 _ ?_
  refine Ra (sT [pR 2 0,pR 3 1,(7,.d (.sl 1 (List.map e3 l))),(8,jI (l.length:Int)),(9,jI (wr (v+1)))] [(1,.var 60 [jI ((aset r_ j p) 0),jI ((aset r_ j p) 1),jI ((aset r_ j p) 2),jI ((aset r_ j p) 3),jI ((aset r_ j p) 4),jI ((aset r_ j p) 5),jI ((aset r_ j p) 6),jI ((aset r_ j p) 7)]),(0,.var 60 [jI 0,jI 0,jI 0,jI 0,jI 0,jI 0,jI 0,jI 0])] 2 0) ?_
  obtain rfl:=Option.some.inj h
  have ew:wr (v+1)=v+1:=inext (N:=(l.length:Int)) (by omega) (by omega) (by omega)
  rw [ew]
  exact hK_5 _ (Can.kp (by kernel_rfl))
 ·subst hout
  refine Sa (sT [pR 2 0,pR 3 1,(7,.d (.sl 1 (List.map e3 l))),(8,jI (l.length:Int)),(9,jI v),(10,.d (.bool (decide (v<(l.length:Int)))))] (y2 r_) 2 0) ?_
  refine AW.seqK (fun K_12 hK_12=>?_)
  refine AW.cond rfl (fun hb_13=>False.elim (by have:=of_decide_eq_true hb_13;omega)) (fun hb_13=>?_)
  refine AW.exit ?_
  refine hK_3 _ ?_
  refine Sa (sT [pR 2 0] [(0,.var 60 [jI (r_ 0),jI (r_ 1),jI (r_ 2),jI (r_ 3),jI (r_ 4),jI (r_ 5),jI (r_ 6),jI (r_ 7)])] 2 0) ?_
  obtain rfl:=Option.some.inj h
  exact rT hR_0 (.cons (.agg rfl rfl (Nat.le_of_ble_eq_true rfl)) .nil)
def g22_5:Int→(List Int)→(List (Nat→Int))→Option (List (Nat→Int)):=fun v p l=>(g30 p).bind fun r0_1=>(appL 64 l [r0_1]).bind fun l1=>some l1
def g22 (x:DappleBook):Option (DappleBook×(List (Nat→Int))×(List (Dapple_turn×Bool))):=(mput q87 ([]:List (Dapple_turn×Bool)) (Dapple_turn.mk (-1) (-1) (-1)) false).bind fun m=>(eachS g22_5 x.Horses 0 ([]:List (Nat→Int))).bind fun l=>some (x,l,m)
def y3 (x:DappleBook) (m:List (Dapple_turn×Bool)):List (Nat×Blk):=[(3,.var 53 [jI x.Round,.d (.sl 1 (List.map e29 x.Horses)),.d (.nilSl),.map 2]),(2,.mp (List.map m87_4 m)),(1,.var 53 [jI 0,.d (.nilSl),.d (.nilSl),.d (.nilMap)]),(0,.var 24 [jI x.Round,.d (.sl 1 (List.map e29 x.Horses))])]
def y4 (x:DappleBook) (m:List (Dapple_turn×Bool)):List (Nat×Blk):=[(3,.var 53 [jI x.Round,.d (.sl 1 (List.map e29 x.Horses)),.d (.nilSl),.map 2]),(2,.mp (List.map m87_4 m)),(1,.var 53 [jI 0,.d (.nilSl),.d (.nilSl),.d (.nilMap)])]
def y5 (x:DappleBook) (l:List (Nat→Int)) (m:List (Dapple_turn×Bool)):List (Nat×Blk):=[(3,.var 53 [jI x.Round,.d (.sl 1 (List.map e29 x.Horses)),.own 4 (List.map e60 l).length,.map 2]),(4,.row 60 8 (List.map e60 l)),(2,.mp (List.map m87_4 m)),(1,.var 53 [jI 0,.d (.nilSl),.d (.nilSl),.d (.nilMap)])]
def y6 (x:DappleBook) (l1:List ((Nat→Int))) (m:List (Dapple_turn×Bool)):List (Nat×Blk):=[(3,.var 53 [jI x.Round,.d (.sl 1 (List.map e29 x.Horses)),.own 4 (List.map e60 l1).length,.map 2]),(4,.row 60 8 (List.map e60 l1)),(2,.mp (List.map m87_4 m)),(1,.var 53 [jI 0,.d (.nilSl),.d (.nilSl),.d (.nilMap)])]
theorem k22 (x:DappleBook) (r:DappleBook×(List (Nat→Int))×(List (Dapple_turn×Bool))) (h:g22 x=some r):SCall Tryd.prog Gs 22 [.agg [jI x.Round,.d (.sl 1 (List.map e29 x.Horses))]] [] 0 Fr.emp (match r with | (r0_DappleBook,r0_rows,m2)=>.agg [jI r0_DappleBook.Round,.d (.sl 1 (List.map e29 r0_DappleBook.Horses)),.d (.sl 8 (List.map e60 r0_rows)),.map 2]) (match r with | (r0_DappleBook,r0_rows,m2)=>[(2,.mp (List.map m87_4 m2))]) 3 Fr.emp:=by
 unfold g22 at h
 refine SCall.mkK Tryd.func22 c22 rfl rfl (by kernel_rfl) (fun Q_0 hR_0 hN_0=>?_)
 refine Sa (sT [pR 1 0,pR 2 1] [(1,.var 53 [jI 0,.d (.nilSl),.d (.nilSl),.d (.nilMap)]),(0,.var 24 [jI x.Round,.d (.sl 1 (List.map e29 x.Horses))])] 2 0) ?_
 refine AW.sdrwK fokW (fun Q_1 hQ_1=>?_)
 refine aX 3 (sT [pR 1 0,pR 2 1,(6,.agg [jI x.Round,.d (.sl 1 (List.map e29 x.Horses))]),(7,.map 2),(8,.agg [jI (-1),jI (-1),jI (-1)])] [(2,.mp (List.map m87_4 [])),(1,.var 53 [jI 0,.d (.nilSl),.d (.nilSl),.d (.nilMap)]),(0,.var 24 [jI x.Round,.d (.sl 1 (List.map e29 x.Horses))])] 3 0) ?_
 obtain ⟨m,hv_2,h⟩:=bsome h
 refine r_mput q87 e87 (fun x=>DV.c (.bool x)) trivial rfl rfl rfl rfl ft87 q87_ok (fun _=>rfl) rfl hv_2 ?_
 refine aX 4 (sT [pR 1 0,pR 2 1,pR 3 3] (y3 x m) 4 0) ?_
 refine Fi (sT [pR 1 0,pR 2 1,pR 3 3] (y3 x m) 4 0) ?_
 refine hQ_1 _ ?_
 refine AW.seqK fun K_3 hK_3=>AW.srwK fun Q_4 hQ_4=>?_
 refine Au 2 (sT [pR 2 1,pR 3 3,(12,.d (.sl 1 (List.map e29 x.Horses)))] (y4 x m) 4 0) ?_
 refine rL rfl ?_
 refine Au 1 (sT [pR 2 1,pR 3 3,(12,.d (.sl 1 (List.map e29 x.Horses))),(13,jI (x.Horses.length:Int)),(14,jI 0)] (y4 x m) 4 0) ?_
 refine RW.nil (hQ_4 _ ?_)
 refine AW.block ?_
 refine AW.sln (t:=12) rfl (fun hN_5=>?_)
 rw [List.length_map] at hN_5
 obtain ⟨out_5,hx_5,h⟩:=bsome h
 refine AW.evSK (fun (v:Int) (l:List (Nat→Int))=>(sT [pR 2 1,pR 3 3,(12,.d (.sl 1 (List.map e29 x.Horses))),(13,jI (x.Horses.length:Int)),(14,jI v)] (y5 x l m) 5 0)) g22_5 hx_5 (Can.trans (Can.thawH 3 2 53 60 8 rfl rfl rfl) (Can.kp (by kernel_rfl))) (fun v p l hi_5 hl_5 hp_5 c_5 h K_5 hK_5=>?_) (fun v l hi_5 hl_5 hout=>?_)
 ·unfold g22_5 at h
  refine Sa (sT [pR 2 1,pR 3 3,(12,.d (.sl 1 (List.map e29 x.Horses))),(13,jI (x.Horses.length:Int)),(14,jI v),(15,.d (.bool (decide (v<(x.Horses.length:Int)))))] (y5 x l m) 5 0) ?_
  refine AW.seqK (fun K_6 hK_6=>?_)
  refine AW.cond rfl (fun hb_7=>?_) (fun hb_7=>False.elim (by have:=of_decide_eq_false hb_7;omega))
  refine AW.skip (hK_6 _ ?_)
  refine AW.seqK (fun K_8 hK_8=>?_)
  refine AW.block ?_
  refine AW.srwK (fun Q_9 hQ_9=>?_)
  refine RW.one fokW (r_iaD trivial rfl rfl hi_5 (row:=e29 p) (mapget hp_5) (r_end ?_))
  refine Au 2 (sT [pR 2 1,pR 3 3,(5,.d (.sl 1 (List.map e3 p))),(12,.d (.sl 1 (List.map e29 x.Horses))),(13,jI (x.Horses.length:Int)),(14,jI v)] (y5 x l m) 5 0) ?_
  refine RW.nil (hQ_9 _ ?_)
  refine AW.drw fokW ?_
  refine aX 3 (sT [pR 2 1,pR 3 3,(12,.d (.sl 1 (List.map e29 x.Horses))),(13,jI (x.Horses.length:Int)),(14,jI v),(19,.own 4 (List.map e60 l).length),(20,.d (.sl 1 (List.map e3 p)))] (y5 x l m) 5 0) ?_
  obtain ⟨r0_1,hx_11,h⟩:=bsome h
  refine r_call trivial rfl (k30 p _ hx_11) rfl rfl ?_
  refine aX 1 (sT [pR 2 1,pR 3 3,(12,.d (.sl 1 (List.map e29 x.Horses))),(13,jI (x.Horses.length:Int)),(14,jI v),(19,.own 4 (List.map e60 l).length),(22,.own 5 (List.map e60 [r0_1]).length)] [(5,.row 60 8 (List.map e60 [r0_1])),(3,.var 53 [jI x.Round,.d (.sl 1 (List.map e29 x.Horses)),.own 4 (List.map e60 l).length,.map 2]),(4,.row 60 8 (List.map e60 l)),(2,.mp (List.map m87_4 m)),(1,.var 53 [jI 0,.d (.nilSl),.d (.nilSl),.d (.nilMap)])] 6 0) ?_
  obtain ⟨l1,hv_12,h⟩:=bsome h
  refine r_apO trivial rfl rfl rfl rfl rfl rfl (apz hv_12 e60) (apr hv_12 e60) ?_
  refine aX 2 (sT [pR 2 1,pR 3 3,(12,.d (.sl 1 (List.map e29 x.Horses))),(13,jI (x.Horses.length:Int)),(14,jI v)] [(3,.var 53 [jI x.Round,.d (.sl 1 (List.map e29 x.Horses)),.own 4 (List.map e60 l1).length,.map 2]),(4,.row 60 8 (List.map e60 l1)),(5,.row 60 8 (List.map e60 [r0_1])),(2,.mp (List.map m87_4 m)),(1,.var 53 [jI 0,.d (.nilSl),.d (.nilSl),.d (.nilMap)])] 6 0) ?_
  refine Fi (sT [pR 2 1,pR 3 3,(12,.d (.sl 1 (List.map e29 x.Horses))),(13,jI (x.Horses.length:Int)),(14,jI v)] (y6 x l1 m) 6 0) ?_
  refine hK_8 _ ?_
  refine Ra (sT [pR 2 1,pR 3 3,(12,.d (.sl 1 (List.map e29 x.Horses))),(13,jI (x.Horses.length:Int)),(14,jI (wr (v+1)))] (y6 x l1 m) 6 0) ?_
  obtain rfl:=Option.some.inj h
  have ew:wr (v+1)=v+1:=inext (N:=(x.Horses.length:Int)) (by omega) (by omega) (by omega)
  rw [ew]
  exact hK_5 _ (Can.kp (by kernel_rfl))
 ·subst hout
  refine Sa (sT [pR 2 1,pR 3 3,(12,.d (.sl 1 (List.map e29 x.Horses))),(13,jI (x.Horses.length:Int)),(14,jI v),(15,.d (.bool (decide (v<(x.Horses.length:Int)))))] (y5 x l m) 5 0) ?_
  refine AW.seqK (fun K_13 hK_13=>?_)
  refine AW.cond rfl (fun hb_14=>False.elim (by have:=of_decide_eq_true hb_14;omega)) (fun hb_14=>?_)
  refine AW.exit ?_
  refine hK_3 _ ?_
  refine Sa (sT [pR 2 1] [(1,.var 53 [jI x.Round,.d (.sl 1 (List.map e29 x.Horses)),.own 4 (List.map e60 l).length,.map 2]),(4,.row 60 8 (List.map e60 l)),(2,.mp (List.map m87_4 m))] 5 0) ?_
  obtain rfl:=Option.some.inj h
  exact AW.ret (hR_0 _ (retX (.cons (.agg rfl rfl (Nat.le_of_ble_eq_true rfl)) .nil) (Frz.agg_of ⟨.refl _,.refl _,(.own rfl rfl),.refl _,trivial⟩) rfl (by kernel_rfl) (by kernel_rfl)))
def g21 (b_DappleBook:DappleBook) (b_rows:(List (Nat→Int))) (r_:(Nat→Int)) (s:(Nat→Int)):Option (DappleBook×(List (Nat→Int))×(Nat→Int)×(Nat→Int)):=some (b_DappleBook,b_rows,r_,s)
def y7 (s:(Nat→Int)) (r_:(Nat→Int)) (b_DappleBook:DappleBook) (b_rows:(List (Nat→Int))):List (Nat×Blk):=[(3,.var 61 [.d (.fn 70)]),(2,.var 60 [jI (s 0),jI (s 1),jI (s 2),jI (s 3),jI (s 4),jI (s 5),jI (s 6),jI (s 7)]),(1,.var 60 [jI (r_ 0),jI (r_ 1),jI (r_ 2),jI (r_ 3),jI (r_ 4),jI (r_ 5),jI (r_ 6),jI (r_ 7)]),(0,.var 53 [jI b_DappleBook.Round,.d (.sl 1 (List.map e29 b_DappleBook.Horses)),.d (.sl 8 (List.map e60 b_rows)),.opq])]
theorem k21 (b_DappleBook:DappleBook) (b_rows:(List (Nat→Int))) (r_:(Nat→Int)) (s:(Nat→Int)) (r:DappleBook×(List (Nat→Int))×(Nat→Int)×(Nat→Int)) (h:g21 b_DappleBook b_rows r_ s=some r):SCall Tryd.prog Gs 21 [.agg [jI b_DappleBook.Round,.d (.sl 1 (List.map e29 b_DappleBook.Horses)),.d (.sl 8 (List.map e60 b_rows)),.opq],.agg [jI (r_ 0),jI (r_ 1),jI (r_ 2),jI (r_ 3),jI (r_ 4),jI (r_ 5),jI (r_ 6),jI (r_ 7)],.agg [jI (s 0),jI (s 1),jI (s 2),jI (s 3),jI (s 4),jI (s 5),jI (s 6),jI (s 7)],.d (.fn 70)] [] 0 Fr.emp (match r with | (o0_DappleBook,o0_rows,o1,o2)=>.clo 34 [] [.ptr 0 0,.ptr 3 0,.ptr 1 0,.ptr 2 0]) (match r with | (o0_DappleBook,o0_rows,o1,o2)=>[(0,.var 53 [jI o0_DappleBook.Round,.d (.sl 1 (List.map e29 o0_DappleBook.Horses)),.d (.sl 8 (List.map e60 o0_rows)),.opq]),(1,.var 60 [jI (o1 0),jI (o1 1),jI (o1 2),jI (o1 3),jI (o1 4),jI (o1 5),jI (o1 6),jI (o1 7)]),(2,.var 60 [jI (o2 0),jI (o2 1),jI (o2 2),jI (o2 3),jI (o2 4),jI (o2 5),jI (o2 6),jI (o2 7)]),(3,.var 61 [.d (.fn 70)])]) 4 Fr.emp:=by
 unfold g21 at h
 refine SCall.mkK Tryd.func21 c21 rfl rfl (by kernel_rfl) (fun Q_0 hR_0 hN_0=>?_)
 refine Sa (sT [pR 4 0,pR 5 1,pR 6 2,pR 7 3] (y7 s r_ b_DappleBook b_rows) 4 0) ?_
 refine Sa (sT [(8,.clo 34 [] [.ptr 0 0,.ptr 3 0,.ptr 1 0,.ptr 2 0])] (y7 s r_ b_DappleBook b_rows) 4 0) ?_
 obtain rfl:=Option.some.inj h
 exact rT hR_0 (.cons (.tmp rfl) .nil)
def g70 (s:Int) (t:Int):Option Bool:=some (decide ((bAnd s t)≠0))
theorem k70 (s:Int) (t:Int) (r:Bool) (h:g70 s t=some r):SCall Tryd.prog Gs 70 [jI s,jI t] [] 0 Fr.emp (.d (.bool r)) [] 0 Fr.emp:=by
 unfold g70 at h
 refine SCall.mkK Tryd.func70 c70 rfl rfl (by kernel_rfl) (fun Q_0 hR_0 hN_0=>?_)
 refine Sa (sT [(0,jI s),(1,jI t)] [] 0 0) ?_
 refine Sa (sT [(4,.d (.bool (decide ((bAnd s t)≠0))))] [] 0 0) ?_
 obtain rfl:=Option.some.inj h
 exact rT hR_0 (.cons (.tmp rfl) .nil)
def g34_7 {S_:Type} (o0_DappleBook:DappleBook) (o2:(Nat→Int)) (o3:(Nat→Int)) (v:Int) (s_2:S_):Int→Unit→Option (Ctl (Unit) (Ctl (S_) (Ctl (S_) (Ctl (S_) (S_))))):=fun v1 _=>(must (decide (o0_DappleBook.Round≠0))).bind fun _=>(ixN 8 ((wr (v1+v)).tmod o0_DappleBook.Round)).bind fun j=>(ixN 8 v1).bind fun j1=>(g70 (o2 j) (o3 j1)).bind fun r0=>bif (!r0) then (some (.brk (.next s_2))) else (some (.next ()))
def g34_2 {S_:Type} (c_:Int→S_→Option (S_×Bool)) (o0_DappleBook:DappleBook) (o2:(Nat→Int)) (o3:(Nat→Int)):Int→S_→Option (Ctl (S_) (Ctl (S_) (S_))):=fun v s_2=>bindC ((must (decide (o0_DappleBook.Round≤9223372036854775807))).bind fun _=>bindC (forC (g34_7 o0_DappleBook o2 o3 v s_2) (((o0_DappleBook.Round:Int) - 0).toNat) 0 ()) fun _=>(c_ v s_2).bind fun (s_4,go)=>bif (!go) then (some (.brk (.brk (.brk s_4)))) else (some (.next s_4)):Option (Ctl (S_) (Ctl (S_) (Ctl (S_) (S_))))) fun s_3=>some (.next s_3)
def g34 {S_:Type} (c_:Int→S_→Option (S_×Bool)) (o0_DappleBook:DappleBook) (o0_rows:(List (Nat→Int))) (o2:(Nat→Int)) (o3:(Nat→Int)) (s_:S_):Option S_:=bindC ((must (decide (o0_DappleBook.Round≤9223372036854775807))).bind fun _=>bindC (forC (g34_2 c_ o0_DappleBook o2 o3) (((o0_DappleBook.Round:Int) - 0).toNat) 0 s_) fun s_2=>some (.next s_2):Option (Ctl (S_) (S_))) fun s_1=>some s_1
def y8 (o0_DappleBook:DappleBook) (o0_rows:(List (Nat→Int))) (o2:(Nat→Int)) (o3:(Nat→Int)):List (Nat×Blk):=[(0,.var 53 [jI o0_DappleBook.Round,.d (.sl 1 (List.map e29 o0_DappleBook.Horses)),.d (.sl 8 (List.map e60 o0_rows)),.opq]),(1,.var 61 [.d (.fn 70)]),(2,.var 60 [jI (o2 0),jI (o2 1),jI (o2 2),jI (o2 3),jI (o2 4),jI (o2 5),jI (o2 6),jI (o2 7)]),(3,.var 60 [jI (o3 0),jI (o3 1),jI (o3 2),jI (o3 3),jI (o3 4),jI (o3 5),jI (o3 6),jI (o3 7)])]
theorem k34 {S_:Type} (fr_:S_→Fr) (c_:Int→S_→Option (S_×Bool)) (hc_:∀ (a0:Int) s s2 b,c_ a0 s=some (s2,b)→YCall Tryd.prog Gs (fr_ s) [jI a0] (.d (.bool b)) (fr_ s2)) (o0_DappleBook:DappleBook) (o0_rows:(List (Nat→Int))) (o2:(Nat→Int)) (o3:(Nat→Int)) (s_:S_) (r:S_) (h:g34 c_ o0_DappleBook o0_rows o2 o3 s_=some r):SCall Tryd.prog Gs 34 [.yld,.ptr 0 0,.ptr 1 0,.ptr 2 0,.ptr 3 0] [(0,.var 53 [jI o0_DappleBook.Round,.d (.sl 1 (List.map e29 o0_DappleBook.Horses)),.d (.sl 8 (List.map e60 o0_rows)),.opq]),(1,.var 61 [.d (.fn 70)]),(2,.var 60 [jI (o2 0),jI (o2 1),jI (o2 2),jI (o2 3),jI (o2 4),jI (o2 5),jI (o2 6),jI (o2 7)]),(3,.var 60 [jI (o3 0),jI (o3 1),jI (o3 2),jI (o3 3),jI (o3 4),jI (o3 5),jI (o3 6),jI (o3 7)])] 4 (fr_ s_) (.tup []) [(0,.var 53 [jI o0_DappleBook.Round,.d (.sl 1 (List.map e29 o0_DappleBook.Horses)),.d (.sl 8 (List.map e60 o0_rows)),.opq]),(1,.var 61 [.d (.fn 70)]),(2,.var 60 [jI (o2 0),jI (o2 1),jI (o2 2),jI (o2 3),jI (o2 4),jI (o2 5),jI (o2 6),jI (o2 7)]),(3,.var 60 [jI (o3 0),jI (o3 1),jI (o3 2),jI (o3 3),jI (o3 4),jI (o3 5),jI (o3 6),jI (o3 7)])] 4 (fr_ r):=by
 unfold g34 at h
 refine SCall.mkK Tryd.func34 c34 rfl rfl (by kernel_rfl) (fun Q_0 hR_0 hN_0=>?_)
 refine AW.scope ?_
 refine AW.seq (AW.skip ?_)
 refine Sa ⟨[(0,.yld),pR 1 0,pR 2 1,pR 3 2,pR 4 3,(10,jI o0_DappleBook.Round),(11,jI 0)],(y8 o0_DappleBook o0_rows o2 o3),4,(fr_ s_),[],4⟩ ?_
 obtain ⟨c_1,hx_1,hk_1⟩:=bsomeC h
 refine AW.jqK (fun (s_1:S_)=>⟨[],(y8 o0_DappleBook o0_rows o2 o3),4,(fr_ s_1),[],4⟩) (c:=c_1) (fun K_1 hK_1=>?_) (fun s_1 hj_1=>?_)
 ·have h:=hx_1
  refine AW.block ?_
  obtain ⟨_,hN_2,h⟩:=bsome h
  have hN_2:=of_decide_eq_true (must_ok hN_2)
  obtain ⟨out_2,hx_2,hk_2⟩:=bsomeC h
  refine AW.lpCK (fun (v:Int) (s_2:S_)=>⟨[(0,.yld),pR 1 0,pR 2 1,pR 3 2,pR 4 3,(10,jI o0_DappleBook.Round),(11,jI v)],(y8 o0_DappleBook o0_rows o2 o3),4,(fr_ s_2),[],4⟩) (g34_2 c_ o0_DappleBook o2 o3) (o0_DappleBook.Round) hx_2 (Can.kp (by kernel_rfl)) (fun v s_2 hi_2 hl_2 c_2 h hb_2 K_2 hK_2=>?_) (fun v s_2 hi_2 hl_2 hout=>?_)
  ·unfold g34_2 at h
   refine Sa ⟨[(0,.yld),pR 1 0,pR 2 1,pR 3 2,pR 4 3,(10,jI o0_DappleBook.Round),(11,jI v),(12,.d (.bool (decide (v<o0_DappleBook.Round))))],(y8 o0_DappleBook o0_rows o2 o3),4,(fr_ s_2),[],4⟩ ?_
   refine AW.seqK (fun K_3 hK_3=>?_)
   refine AW.cond rfl (fun hb_4=>?_) (fun hb_4=>False.elim (by have:=of_decide_eq_false hb_4;omega))
   refine AW.skip (hK_3 _ ?_)
   obtain ⟨c_5,hx_5,hk_5⟩:=bsomeC h
   refine AW.jnK (fun (s_3:S_)=>⟨[(0,.yld),pR 1 0,pR 2 1,pR 3 2,pR 4 3,(10,jI o0_DappleBook.Round),(11,jI v)],(y8 o0_DappleBook o0_rows o2 o3),4,(fr_ s_3),[],4⟩) (c:=c_5) (fun K_5 hK_5=>?_) (fun s_3 hj_5=>?_)
   ·have h:=hx_5
    refine AW.block ?_
    refine Sa ⟨[(0,.yld),pR 1 0,pR 2 1,pR 3 2,pR 4 3,(6,jI v),(10,jI o0_DappleBook.Round),(11,jI v)],(y8 o0_DappleBook o0_rows o2 o3),4,(fr_ s_2),[],4⟩ ?_
    refine AW.seqK (fun K_6 hK_6=>?_)
    refine Sa ⟨[(0,.yld),pR 1 0,pR 2 1,pR 3 2,pR 4 3,(6,jI v),(10,jI o0_DappleBook.Round),(11,jI v),(16,jI o0_DappleBook.Round),(17,jI 0)],(y8 o0_DappleBook o0_rows o2 o3),4,(fr_ s_2),[],4⟩ ?_
    refine AW.block ?_
    obtain ⟨_,hN_7,h⟩:=bsome h
    have hN_7:=of_decide_eq_true (must_ok hN_7)
    obtain ⟨out_7,hx_7,hk_7⟩:=bsomeC h
    refine AW.lpCK (fun (v1:Int) (_:Unit)=>⟨[(0,.yld),pR 1 0,pR 2 1,pR 3 2,pR 4 3,(6,jI v),(10,jI o0_DappleBook.Round),(11,jI v),(16,jI o0_DappleBook.Round),(17,jI v1)],(y8 o0_DappleBook o0_rows o2 o3),4,(fr_ s_2),[],4⟩) (g34_7 o0_DappleBook o2 o3 v s_2) (o0_DappleBook.Round) hx_7 (Can.kp (by kernel_rfl)) (fun v1 s_7 hi_7 hl_7 c_7 h hb_7 K_7 hK_7=>?_) (fun v1 s_7 hi_7 hl_7 hout=>?_)
    ·unfold g34_7 at h
     refine Sa ⟨[(0,.yld),pR 1 0,pR 2 1,pR 3 2,pR 4 3,(6,jI v),(10,jI o0_DappleBook.Round),(11,jI v),(16,jI o0_DappleBook.Round),(17,jI v1),(18,.d (.bool (decide (v1<o0_DappleBook.Round))))],(y8 o0_DappleBook o0_rows o2 o3),4,(fr_ s_2),[],4⟩ ?_
     refine AW.seqK (fun K_8 hK_8=>?_)
     refine AW.cond rfl (fun hb_9=>?_) (fun hb_9=>False.elim (by have:=of_decide_eq_false hb_9;omega))
     refine AW.skip (hK_8 _ ?_)
     refine AW.seqK (fun K_10 hK_10=>?_)
     refine AW.block ?_
     refine Sa ⟨[(0,.yld),pR 1 0,pR 2 1,pR 3 2,pR 4 3,(6,jI v),(7,jI v1),(10,jI o0_DappleBook.Round),(11,jI v),(16,jI o0_DappleBook.Round),(17,jI v1)],(y8 o0_DappleBook o0_rows o2 o3),4,(fr_ s_2),[],4⟩ ?_
     refine AW.sdrwK fokW (fun Q_11 hQ_11=>?_)
     refine aX 7 ⟨[(0,.yld),pR 1 0,pR 2 1,pR 3 2,pR 4 3,(6,jI v),(7,jI v1),(10,jI o0_DappleBook.Round),(11,jI v),(16,jI o0_DappleBook.Round),(17,jI v1),(20,.d (.fn 70)),(23,jI (wr (v1+v))),(26,jI o0_DappleBook.Round)],(y8 o0_DappleBook o0_rows o2 o3),4,(fr_ s_2),[],4⟩ ?_
     obtain ⟨_,hv_12,h⟩:=bsome h
     refine r_rem trivial rfl rfl (of_decide_eq_true (must_ok hv_12)) ?_
     obtain ⟨j,hv_13,h⟩:=bsome h
     refine r_iaV trivial rfl rfl rfl (ixN_ok hv_13).1 (ixN_ok hv_13).2.1 ?_
     refine r_loadV trivial rfl rfl (u:=jI (o2 j)) (agt (f:=fun k=>jI (o2 k)) hv_13) ?_
     refine aX 1 ⟨[(0,.yld),pR 1 0,pR 2 1,pR 3 2,pR 4 3,(6,jI v),(10,jI o0_DappleBook.Round),(11,jI v),(16,jI o0_DappleBook.Round),(17,jI v1),(20,.d (.fn 70)),(29,jI (o2 j)),(30,jI v1)],(y8 o0_DappleBook o0_rows o2 o3),4,(fr_ s_2),[],4⟩ ?_
     obtain ⟨j1,hv_14,h⟩:=bsome h
     refine r_iaV trivial rfl rfl rfl (ixN_ok hv_14).1 (ixN_ok hv_14).2.1 ?_
     refine r_loadV trivial rfl rfl (u:=jI (o3 j1)) (agt (f:=fun k=>jI (o3 k)) hv_14) ?_
     obtain ⟨r0,hx_15,h⟩:=bsome h
     refine r_callvZ (zr:=[]) trivial rfl (.fn _) (by kernel_rfl) rfl (k70 (o2 j) (o3 j1) _ hx_15) trivial ⟨.refl _,.refl _,trivial⟩ rfl rfl rfl rfl ?_
     refine aX 1 ⟨[(0,.yld),pR 1 0,pR 2 1,pR 3 2,pR 4 3,(6,jI v),(10,jI o0_DappleBook.Round),(11,jI v),(16,jI o0_DappleBook.Round),(17,jI v1),(34,.d (.bool (!r0)))],(y8 o0_DappleBook o0_rows o2 o3),4,(fr_ s_2),[],4⟩ ?_
     refine Fi ⟨[(0,.yld),pR 1 0,pR 2 1,pR 3 2,pR 4 3,(6,jI v),(10,jI o0_DappleBook.Round),(11,jI v),(16,jI o0_DappleBook.Round),(17,jI v1),(34,.d (.bool (!r0)))],(y8 o0_DappleBook o0_rows o2 o3),4,(fr_ s_2),[],4⟩ ?_
     refine hQ_11 _ ?_
     refine AW.cond rfl (fun hb_16=>?_) (fun hb_16=>?_)
     ·have h:=ifT hb_16 h
      refine AW.exit ?_
      obtain rfl:=Option.some.inj h
      have e_4:=hb_7 _ rfl
      subst e_4
      obtain rfl:=Aft.bk hk_7
      exact hK_5 _ _ rfl (Can.kp (by kernel_rfl))
     ·have h:=ifF hb_16 h
      refine AW.skip (hK_10 _ ?_)
      refine Ra ⟨[(0,.yld),pR 1 0,pR 2 1,pR 3 2,pR 4 3,(6,jI v),(10,jI o0_DappleBook.Round),(11,jI v),(16,jI o0_DappleBook.Round),(17,jI (wr (v1+1)))],(y8 o0_DappleBook o0_rows o2 o3),4,(fr_ s_2),[],4⟩ ?_
      obtain rfl:=Option.some.inj h
      have ew:wr (v1+1)=v1+1:=inext (N:=o0_DappleBook.Round) (by omega) (by omega) (by omega)
      rw [ew]
      exact hK_7 _ _ rfl (Can.kp (by kernel_rfl))
    ·subst hout
     have h:=Aft.nx hk_7
     refine Sa ⟨[(0,.yld),pR 1 0,pR 2 1,pR 3 2,pR 4 3,(6,jI v),(10,jI o0_DappleBook.Round),(11,jI v),(16,jI o0_DappleBook.Round),(17,jI v1),(18,.d (.bool (decide (v1<o0_DappleBook.Round))))],(y8 o0_DappleBook o0_rows o2 o3),4,(fr_ s_2),[],4⟩ ?_
     refine AW.seqK (fun K_17 hK_17=>?_)
     refine AW.cond rfl (fun hb_18=>False.elim (by have:=of_decide_eq_true hb_18;omega)) (fun hb_18=>?_)
     refine AW.exit ?_
     refine hK_6 _ ?_
     refine AW.srwK (fun Q_19 hQ_19=>?_)
     refine Au 2 ⟨[(0,.yld),pR 1 0,pR 2 1,pR 3 2,pR 4 3,(10,jI o0_DappleBook.Round),(11,jI v),(36,.yld),(37,jI v)],(y8 o0_DappleBook o0_rows o2 o3),4,(fr_ s_2),[],4⟩ ?_
     obtain ⟨⟨s_4,go⟩,hx_20,h⟩:=bsome h
     refine RW.one fokW (r_yield (zr:=[]) trivial rfl rfl (hc_ v _ _ _ hx_20) trivial ⟨.refl _,trivial⟩ rfl rfl rfl rfl (r_end ?_))
     refine Au 1 ⟨[(0,.yld),pR 1 0,pR 2 1,pR 3 2,pR 4 3,(10,jI o0_DappleBook.Round),(11,jI v),(39,.d (.bool (!go)))],(y8 o0_DappleBook o0_rows o2 o3),4,(fr_ s_4),[],4⟩ ?_
     refine RW.nil (hQ_19 _ ?_)
     refine AW.cond rfl (fun hb_21=>?_) (fun hb_21=>?_)
     ·have h:=ifT hb_21 h
      obtain rfl:=Option.some.inj h
      obtain rfl:=Aft.bk hk_5
      have e_2:=hb_2 _ rfl
      subst e_2
      obtain rfl:=Aft.bk hk_2
      obtain rfl:=Aft.bk hk_1
      exact rT hR_0 .nil
     ·have h:=ifF hb_21 h
      refine AW.skip ?_
      obtain rfl:=Option.some.inj h
      exact hK_5 _ _ rfl (Can.kp (by kernel_rfl))
   ·subst hj_5
    have h:=Aft.nx hk_5
    refine Ra ⟨[(0,.yld),pR 1 0,pR 2 1,pR 3 2,pR 4 3,(10,jI o0_DappleBook.Round),(11,jI (wr (v+1)))],(y8 o0_DappleBook o0_rows o2 o3),4,(fr_ s_3),[],4⟩ ?_
    obtain rfl:=Option.some.inj h
    have ew:wr (v+1)=v+1:=inext (N:=o0_DappleBook.Round) (by omega) (by omega) (by omega)
    rw [ew]
    exact hK_2 _ _ rfl (Can.kp (by kernel_rfl))
  ·subst hout
   have h:=Aft.nx hk_2
   refine Sa ⟨[(0,.yld),pR 1 0,pR 2 1,pR 3 2,pR 4 3,(10,jI o0_DappleBook.Round),(11,jI v),(12,.d (.bool (decide (v<o0_DappleBook.Round))))],(y8 o0_DappleBook o0_rows o2 o3),4,(fr_ s_2),[],4⟩ ?_
   refine AW.seqK (fun K_22 hK_22=>?_)
   refine AW.cond rfl (fun hb_23=>False.elim (by have:=of_decide_eq_true hb_23;omega)) (fun hb_23=>?_)
   refine AW.exit ?_
   obtain rfl:=Option.some.inj h
   exact hK_1 _ _ rfl (Can.kp (by kernel_rfl))
 ·subst hj_1
  have h:=Aft.nx hk_1
  obtain rfl:=Option.some.inj h
  exact hN_0 _ (retX .nil (.refl _) rfl (by kernel_rfl) (by kernel_rfl))
def g42_r8:Int→(Unit)→Option (Ctl (Unit) (Unit)):=fun a _=>some (.brk ())
def g42 (b_DappleBook:DappleBook) (b_rows:(List (Nat→Int))) (r_:(Nat→Int)) (s:(Nat→Int)):Option Bool:=(g43).bind fun r0=>bif (false != (((r_ 0)==(r0 0))&&(((r_ 1)==(r0 1))&&(((r_ 2)==(r0 2))&&(((r_ 3)==(r0 3))&&(((r_ 4)==(r0 4))&&(((r_ 5)==(r0 5))&&(((r_ 6)==(r0 6))&&(((r_ 7)==(r0 7))&&true))))))))) then (some false) else ((g21 b_DappleBook b_rows r_ s).bind fun (o0_DappleBook,o0_rows,o1,o2)=>(g34 (fun a s=>rndC g42_r8 a s) o0_DappleBook o0_rows o1 o2 (.next ())).bind fun out_8=>match out_8 with | .next _=>some false | .brk _=>some true)
def y9 (s:(Nat→Int)) (r_:(Nat→Int)) (b_DappleBook:DappleBook) (b_rows:(List (Nat→Int))):List (Nat×Blk):=[(3,.var 4 [.d (.bool false)]),(2,.var 60 [jI (s 0),jI (s 1),jI (s 2),jI (s 3),jI (s 4),jI (s 5),jI (s 6),jI (s 7)]),(1,.var 60 [jI (r_ 0),jI (r_ 1),jI (r_ 2),jI (r_ 3),jI (r_ 4),jI (r_ 5),jI (r_ 6),jI (r_ 7)]),(0,.var 53 [jI b_DappleBook.Round,.d (.sl 1 (List.map e29 b_DappleBook.Horses)),.d (.sl 8 (List.map e60 b_rows)),.opq])]
theorem k42 (b_DappleBook:DappleBook) (b_rows:(List (Nat→Int))) (r_:(Nat→Int)) (s:(Nat→Int)) (r:Bool) (h:g42 b_DappleBook b_rows r_ s=some r):SCall Tryd.prog Gs 42 [.agg [jI b_DappleBook.Round,.d (.sl 1 (List.map e29 b_DappleBook.Horses)),.d (.sl 8 (List.map e60 b_rows)),.opq],.agg [jI (r_ 0),jI (r_ 1),jI (r_ 2),jI (r_ 3),jI (r_ 4),jI (r_ 5),jI (r_ 6),jI (r_ 7)],.agg [jI (s 0),jI (s 1),jI (s 2),jI (s 3),jI (s 4),jI (s 5),jI (s 6),jI (s 7)],.d (.fn 70)] [] 0 Fr.emp (.d (.bool r)) [] 0 Fr.emp:=by
 unfold g42 at h
 refine SCall.mkK Tryd.func42 c42 rfl rfl (by kernel_rfl) (fun Q_0 hR_0 hN_0=>?_)
 refine Sa (sT [(3,.d (.fn 70)),pR 4 0,pR 5 1,pR 6 2,pR 8 3] (y9 s r_ b_DappleBook b_rows) 4 0) ?_
 refine AW.seqK (fun K_1 hK_1=>?_)
 refine AW.sdrwK fokW (fun Q_2 hQ_2=>?_)
 refine aX 1 (sT [(3,.d (.fn 70)),pR 4 0,pR 5 1,pR 6 2,pR 8 3,(9,.agg [jI (r_ 0),jI (r_ 1),jI (r_ 2),jI (r_ 3),jI (r_ 4),jI (r_ 5),jI (r_ 6),jI (r_ 7)])] (y9 s r_ b_DappleBook b_rows) 4 0) ?_
 obtain ⟨r0,hx_3,h⟩:=bsome h
 refine r_call trivial rfl (k43 _ hx_3) rfl rfl ?_
 refine r_aeq trivial rfl rfl rfl rfl ft60 rfl rfl rfl ?_
 refine Fi (sT [(3,.d (.fn 70)),pR 4 0,pR 5 1,pR 6 2,pR 8 3,(11,.d (.bool (false != (((r_ 0)==(r0 0))&&(((r_ 1)==(r0 1))&&(((r_ 2)==(r0 2))&&(((r_ 3)==(r0 3))&&(((r_ 4)==(r0 4))&&(((r_ 5)==(r0 5))&&(((r_ 6)==(r0 6))&&(((r_ 7)==(r0 7))&&true)))))))))))] (y9 s r_ b_DappleBook b_rows) 4 0) ?_
 refine hQ_2 _ ?_
 refine AW.cond rfl (fun hb_4=>?_) (fun hb_4=>?_)
 ·have h:=ifT hb_4 h
  refine Sa (sT [pR 8 3] [(3,.var 4 [.d (.bool false)])] 4 0) ?_
  obtain rfl:=Option.some.inj h
  exact rT hR_0 (.cons (.one rfl rfl rfl) .nil)
 ·have h:=ifF hb_4 h
  refine AW.skip (hK_1 _ ?_)
  refine AW.seqK fun K_5 hK_5=>AW.srwK fun Q_6 hQ_6=>?_
  refine Au 4 (sT [pR 8 3,(12,.agg [jI b_DappleBook.Round,.d (.sl 1 (List.map e29 b_DappleBook.Horses)),.d (.sl 8 (List.map e60 b_rows)),.opq]),(13,.agg [jI (r_ 0),jI (r_ 1),jI (r_ 2),jI (r_ 3),jI (r_ 4),jI (r_ 5),jI (r_ 6),jI (r_ 7)]),(14,.agg [jI (s 0),jI (s 1),jI (s 2),jI (s 3),jI (s 4),jI (s 5),jI (s 6),jI (s 7)]),(15,.d (.fn 70))] [(3,.var 4 [.d (.bool false)])] 4 0) ?_
  obtain ⟨⟨o0_DappleBook,o0_rows,o1,o2⟩,hx_7,h⟩:=bsome h
  refine RW.one fokW (r_callS (zr:=[]) [] trivial rfl (k21 b_DappleBook b_rows r_ s _ hx_7) trivial rfl rfl ⟨.refl _,.refl _,.refl _,.refl _,trivial⟩ rfl rfl rfl (r_end ?_))
  refine RW.nil (hQ_6 _ ?_)
  refine AW.block ?_
  obtain ⟨out_8,hx_8,h⟩:=bsome h
  refine AW.rfX (fun (_:Unit)=>[(8,.dm),(3,.var 4 [.d (.bool false)])]) (fun (_:Unit)=>[(8,.dm),(3,.var 4 [.d (.bool true)])]) (fun _=>some .ret) g42_r8 (fun (a:Int)=>[jI a]) (s0:=()) (out:=out_8) [pR 8 3] [(3,.var 4 [.d (.bool false)])] [4,7,5,6] rfl (.clo _ _ _) (by kernel_rfl) (by kernel_rfl) (fun fr_ hY_8=>k34 fr_ _ (fun a s s2 b h=>hY_8 a s s2 b h) o0_DappleBook o0_rows o1 o2 (.next ()) _ hx_8) (by kernel_rfl) ⟨rfl,rfl,rfl,rfl,trivial⟩ rfl ⟨rfl,rfl⟩ rfl rfl (fun _=>rfl) (fun _=>rfl) (fun a_8 s_8 c_8 h l_8=>?_) (fun _=>rfl) ?_
  ·have ⟨a,e_8⟩:∃ x,x=a_8:=⟨_,rfl⟩
   subst e_8
   unfold g42_r8 at h
   refine AW.skip ?_
   refine AW.block ?_
   refine AW.sa (fokR l_8) [] (sT [pR 8 3] [(3,.var 4 [.d (.bool true)]),(8,.dm)] 9 9) (by kernel_rfl) ?_
   refine AW.ret ?_
   obtain rfl:=Option.some.inj h
   exact ⟨(sT [] [(8,.dm),(3,.var 4 [.d (.bool true)])] 9 9),Can.kp (by kernel_rfl),rdX trivial rfl (by kernel_rfl) (by kernel_rfl)⟩
  ·rcases out_8 with _ | _
   ·refine hK_5 _ ?_
    refine Sa ⟨[pR 8 3],[(3,.var 4 [.d (.bool false)]),(8,.dm)],9,Fr.emp,[8],0⟩ ?_
    obtain rfl:=Option.some.inj h
    exact rT hR_0 (.cons (.one rfl rfl rfl) .nil)
   ·obtain rfl:=Option.some.inj h
    exact hR_0 _ (retX (.cons (.one rfl rfl rfl) .nil) (.refl _) rfl (by kernel_rfl) (by kernel_rfl))
def g29_3 (b_DappleBook:DappleBook) (b_rows:(List (Nat→Int))) (r_:(Nat→Int)):Int→(Nat→Int)→(List Int)→Option (List Int):=fun v p l=>((g42 b_DappleBook b_rows p r_).bind fun r0_3=>some r0_3).bind fun v1=>bif v1 then ((appL 8 l [v]).bind fun l1=>some l1) else (some l)
def g29 (b_DappleBook:DappleBook) (b_rows:(List (Nat→Int))) (r_:(Nat→Int)):Option (List Int):=(eachS (g29_3 b_DappleBook b_rows r_) b_rows 0 ([]:List Int)).bind fun l=>(slcL l 0 (l.length:Int)).bind fun l2=>some l2
def y10 (r_:(Nat→Int)) (b_DappleBook:DappleBook) (b_rows:(List (Nat→Int))):List (Nat×Blk):=[(1,.var 60 [jI (r_ 0),jI (r_ 1),jI (r_ 2),jI (r_ 3),jI (r_ 4),jI (r_ 5),jI (r_ 6),jI (r_ 7)]),(0,.var 53 [jI b_DappleBook.Round,.d (.sl 1 (List.map e29 b_DappleBook.Horses)),.d (.sl 8 (List.map e60 b_rows)),.opq])]
def y11 (l:List Int) (r_:(Nat→Int)) (b_DappleBook:DappleBook) (b_rows:(List (Nat→Int))):List (Nat×Blk):=[(2,.row 3 1 (List.map e3 l)),(1,.var 60 [jI (r_ 0),jI (r_ 1),jI (r_ 2),jI (r_ 3),jI (r_ 4),jI (r_ 5),jI (r_ 6),jI (r_ 7)]),(0,.var 53 [jI b_DappleBook.Round,.d (.sl 1 (List.map e29 b_DappleBook.Horses)),.d (.sl 8 (List.map e60 b_rows)),.opq])]
def y12 (l1:List Int) (r_:(Nat→Int)) (b_DappleBook:DappleBook) (b_rows:(List (Nat→Int))):List (Nat×Blk):=[(2,.row 3 1 (List.map e3 l1)),(1,.var 60 [jI (r_ 0),jI (r_ 1),jI (r_ 2),jI (r_ 3),jI (r_ 4),jI (r_ 5),jI (r_ 6),jI (r_ 7)]),(0,.var 53 [jI b_DappleBook.Round,.d (.sl 1 (List.map e29 b_DappleBook.Horses)),.d (.sl 8 (List.map e60 b_rows)),.opq])]
theorem k29 (b_DappleBook:DappleBook) (b_rows:(List (Nat→Int))) (r_:(Nat→Int)) (r:(List Int)) (h:g29 b_DappleBook b_rows r_=some r):SCall Tryd.prog Gs 29 [.agg [jI b_DappleBook.Round,.d (.sl 1 (List.map e29 b_DappleBook.Horses)),.d (.sl 8 (List.map e60 b_rows)),.opq],.agg [jI (r_ 0),jI (r_ 1),jI (r_ 2),jI (r_ 3),jI (r_ 4),jI (r_ 5),jI (r_ 6),jI (r_ 7)]] [] 0 Fr.emp (.d (.sl 1 (List.map e3 r))) [] 0 Fr.emp:=by
 unfold g29 at h
 refine SCall.mkK Tryd.func29 c29 rfl rfl (by kernel_rfl) (fun Q_0 hR_0 hN_0=>?_)
 refine Sa (sT [pR 2 0,pR 3 1] (y10 r_ b_DappleBook b_rows) 2 0) ?_
 refine Sa (sT [pR 2 0,pR 3 1,(5,.d (.nilSl))] (y10 r_ b_DappleBook b_rows) 2 0) ?_
 refine AW.seqK fun K_1 hK_1=>AW.srwK fun Q_2 hQ_2=>?_
 refine Au 2 (sT [pR 2 0,pR 3 1,(5,.d (.nilSl)),(9,.d (.sl 8 (List.map e60 b_rows)))] (y10 r_ b_DappleBook b_rows) 2 0) ?_
 refine rL rfl ?_
 refine Au 1 (sT [pR 2 0,pR 3 1,(5,.d (.nilSl)),(9,.d (.sl 8 (List.map e60 b_rows))),(10,jI (b_rows.length:Int)),(11,jI 0)] (y10 r_ b_DappleBook b_rows) 2 0) ?_
 refine RW.nil (hQ_2 _ ?_)
 refine AW.block ?_
 refine AW.sln (t:=9) rfl (fun hN_3=>?_)
 rw [List.length_map] at hN_3
 obtain ⟨out_3,hx_3,h⟩:=bsome h
 refine AW.evSK (fun (v:Int) (l:List Int)=>(sT [pR 2 0,pR 3 1,(5,.own 2 (List.map e3 l).length),(9,.d (.sl 8 (List.map e60 b_rows))),(10,jI (b_rows.length:Int)),(11,jI v)] (y11 l r_ b_DappleBook b_rows) 3 0)) (g29_3 b_DappleBook b_rows r_) hx_3 (Can.trans (Can.thawT 5 3 1 rfl rfl) (Can.kp (by kernel_rfl))) (fun v p l hi_3 hl_3 hp_3 c_3 h K_3 hK_3=>?_) (fun v l hi_3 hl_3 hout=>?_)
 ·unfold g29_3 at h
  refine Sa (sT [pR 2 0,pR 3 1,(5,.own 2 (List.map e3 l).length),(9,.d (.sl 8 (List.map e60 b_rows))),(10,jI (b_rows.length:Int)),(11,jI v),(12,.d (.bool (decide (v<(b_rows.length:Int)))))] (y11 l r_ b_DappleBook b_rows) 3 0) ?_
  refine AW.seqK (fun K_4 hK_4=>?_)
  refine AW.cond rfl (fun hb_5=>?_) (fun hb_5=>False.elim (by have:=of_decide_eq_false hb_5;omega))
  refine AW.skip (hK_4 _ ?_)
  refine AW.seqK (fun K_6 hK_6=>?_)
  refine AW.block ?_
  refine AW.srwK (fun Q_7 hQ_7=>?_)
  refine Au 1 (sT [pR 2 0,pR 3 1,(5,.own 2 (List.map e3 l).length),(9,.d (.sl 8 (List.map e60 b_rows))),(10,jI (b_rows.length:Int)),(11,jI v),(13,jI v)] (y11 l r_ b_DappleBook b_rows) 3 0) ?_
  refine RW.one fokW (r_iaD trivial rfl rfl hi_3 (row:=e60 p) (mapget hp_3) (r_end ?_))
  refine Au 4 (sT [pR 2 0,pR 3 1,(5,.own 2 (List.map e3 l).length),(6,jI v),pR 7 3,(9,.d (.sl 8 (List.map e60 b_rows))),(10,jI (b_rows.length:Int)),(11,jI v)] [(3,.var 60 [jI (p 0),jI (p 1),jI (p 2),jI (p 3),jI (p 4),jI (p 5),jI (p 6),jI (p 7)]),(2,.row 3 1 (List.map e3 l)),(1,.var 60 [jI (r_ 0),jI (r_ 1),jI (r_ 2),jI (r_ 3),jI (r_ 4),jI (r_ 5),jI (r_ 6),jI (r_ 7)]),(0,.var 53 [jI b_DappleBook.Round,.d (.sl 1 (List.map e29 b_DappleBook.Horses)),.d (.sl 8 (List.map e60 b_rows)),.opq])] 4 0) ?_
  refine RW.nil (hQ_7 _ ?_)
  obtain ⟨v1,hx_8,h⟩:=bsome h
  refine AW.jnSK (fun (v1:Bool)=>(sT [pR 2 0,pR 3 1,(5,.own 2 (List.map e3 l).length),(6,jI v),(9,.d (.sl 8 (List.map e60 b_rows))),(10,jI (b_rows.length:Int)),(11,jI v),(21,.d (.bool v1))] (y11 l r_ b_DappleBook b_rows) 4 0)) (c:=v1) (fun K_8 hK_8=>?_) ?_
  ·have h:=hx_8
   refine AW.rw ?_
   refine Au 5 (sT [pR 2 0,pR 3 1,(5,.own 2 (List.map e3 l).length),(6,jI v),(9,.d (.sl 8 (List.map e60 b_rows))),(10,jI (b_rows.length:Int)),(11,jI v),(16,.agg [jI b_DappleBook.Round,.d (.sl 1 (List.map e29 b_DappleBook.Horses)),.d (.sl 8 (List.map e60 b_rows)),.opq]),(17,.agg [jI (p 0),jI (p 1),jI (p 2),jI (p 3),jI (p 4),jI (p 5),jI (p 6),jI (p 7)]),(18,.agg [jI (r_ 0),jI (r_ 1),jI (r_ 2),jI (r_ 3),jI (r_ 4),jI (r_ 5),jI (r_ 6),jI (r_ 7)]),(20,.d (.fn 70))] (y11 l r_ b_DappleBook b_rows) 4 0) ?_
   obtain ⟨r0_3,hx_10,h⟩:=bsome h
   refine rC (k42 b_DappleBook b_rows p r_ _ hx_10) ?_
   refine RW.nil ?_
   obtain rfl:=Option.some.inj h
   exact hK_8 _ (Can.kp (by kernel_rfl))
  ·refine AW.cond rfl (fun hb_11=>?_) (fun hb_11=>?_)
   ·have h:=ifT hb_11 h
    refine AW.rw ?_
    refine Au 3 (sT [pR 2 0,pR 3 1,(9,.d (.sl 8 (List.map e60 b_rows))),(10,jI (b_rows.length:Int)),(11,jI v),(22,.own 2 (List.map e3 l).length),(24,.own 4 (List.map e3 [v]).length)] [(4,.row 3 1 (List.map e3 [v])),(2,.row 3 1 (List.map e3 l)),(1,.var 60 [jI (r_ 0),jI (r_ 1),jI (r_ 2),jI (r_ 3),jI (r_ 4),jI (r_ 5),jI (r_ 6),jI (r_ 7)]),(0,.var 53 [jI b_DappleBook.Round,.d (.sl 1 (List.map e29 b_DappleBook.Horses)),.d (.sl 8 (List.map e60 b_rows)),.opq])] 5 0) ?_
    obtain ⟨l1,hv_13,h⟩:=bsome h
    refine RW.one fokW (r_apO trivial rfl rfl rfl rfl rfl rfl (apz hv_13 e3) (apr hv_13 e3) (r_end ?_))
    refine Au 1 (sT [pR 2 0,pR 3 1,(5,.own 2 (List.map e3 l1).length),(9,.d (.sl 8 (List.map e60 b_rows))),(10,jI (b_rows.length:Int)),(11,jI v)] (y12 l1 r_ b_DappleBook b_rows) 5 0) ?_
    refine RW.nil ?_
    refine hK_6 _ ?_
    refine Ra (sT [pR 2 0,pR 3 1,(5,.own 2 (List.map e3 l1).length),(9,.d (.sl 8 (List.map e60 b_rows))),(10,jI (b_rows.length:Int)),(11,jI (wr (v+1)))] (y12 l1 r_ b_DappleBook b_rows) 5 0) ?_
    obtain rfl:=Option.some.inj h
    have ew:wr (v+1)=v+1:=inext (N:=(b_rows.length:Int)) (by omega) (by omega) (by omega)
    rw [ew]
    exact hK_3 _ (Can.kp (by kernel_rfl))
   ·have h:=ifF hb_11 h
    refine AW.skip (hK_6 _ ?_)
    refine Ra (sT [pR 2 0,pR 3 1,(5,.own 2 (List.map e3 l).length),(9,.d (.sl 8 (List.map e60 b_rows))),(10,jI (b_rows.length:Int)),(11,jI (wr (v+1)))] (y11 l r_ b_DappleBook b_rows) 4 0) ?_
    obtain rfl:=Option.some.inj h
    have ew:wr (v+1)=v+1:=inext (N:=(b_rows.length:Int)) (by omega) (by omega) (by omega)
    rw [ew]
    exact hK_3 _ (Can.kp (by kernel_rfl))
 ·subst hout
  refine Sa (sT [pR 2 0,pR 3 1,(5,.own 2 (List.map e3 l).length),(9,.d (.sl 8 (List.map e60 b_rows))),(10,jI (b_rows.length:Int)),(11,jI v),(12,.d (.bool (decide (v<(b_rows.length:Int)))))] (y11 l r_ b_DappleBook b_rows) 3 0) ?_
  refine AW.seqK (fun K_14 hK_14=>?_)
  refine AW.cond rfl (fun hb_15=>False.elim (by have:=of_decide_eq_true hb_15;omega)) (fun hb_15=>?_)
  refine AW.exit ?_
  refine hK_1 _ ?_
  refine AW.can (Can.fzE 5 2 rfl rfl rfl) ?_
  refine AW.srwK (fun Q_16 hQ_16=>?_)
  refine Au 2 (sT [(5,.d (.sl 1 (List.map e3 l))),(27,.d (.sl 1 (List.map e3 l))),(28,.d (.sl 1 (List.map e3 l)))] [] 3 0) ?_
  refine rL rfl ?_
  refine Au 1 (sT [(27,.d (.sl 1 (List.map e3 l))),(29,jI (l.length:Int)),(30,.d (.sl 1 (List.map e3 l)))] [] 3 0) ?_
  refine rL rfl ?_
  obtain ⟨l2,hv_17,h⟩:=bsome h
  refine RW.one fokW (r_slN trivial rfl rfl rfl DSl.d (slcL_ok hv_17).2.1 (by rw [List.length_map];exact (slcL_ok hv_17).2.2.1) rfl (slz hv_17 e3) (r_end ?_))
  refine Au 1 (sT [(4,.fsl 1 (List.map e3 l2))] [] 3 0) ?_
  refine RW.nil (hQ_16 _ ?_)
  obtain rfl:=Option.some.inj h
  exact AW.ret (hR_0 _ (retX (.cons (.tmp rfl) .nil) (.fsl _ _) rfl (by kernel_rfl) (by kernel_rfl)))
def g15_8:Int→Int→(Bool×(List Int))→Option (Bool×(List Int)):=fun v p (ok,l)=>(bif ok then ((g28 p 0 3).bind fun r0=>some r0) else (some false)).bind fun v1=>bif v1 then ((must (decide (0≤p))).bind fun _=>(appL 8 l [(shl64 1 p)]).bind fun l1=>some (v1,l1)) else (some (v1,l))
def g15 (x:DappleBook) (row:(List Int)):Option ((List Int)×Int):=(g13 x).bind fun r0_4=>bif (decide (r0_4≠0)) then (some ([],r0_4)) else ((eachS g15_8 row 0 (((decide ((row.length:Int)=x.Round)),[]):Bool×(List Int))).bind fun (ok,l)=>bif (!ok) then (some ([],71)) else ((g22 x).bind fun (r0_DappleBook,r0_rows,m2)=>(g30 l).bind fun r0_1=>(g29 r0_DappleBook r0_rows r0_1).bind fun r0_2=>some (r0_2,0)))
def y13 (l:List Int) (x:DappleBook):List (Nat×Blk):=[(1,.row 3 1 (List.map e3 l)),(0,.var 24 [jI x.Round,.d (.sl 1 (List.map e29 x.Horses))])]
def y14 (l1:List Int) (x:DappleBook):List (Nat×Blk):=[(1,.row 3 1 (List.map e3 l1)),(0,.var 24 [jI x.Round,.d (.sl 1 (List.map e29 x.Horses))])]
theorem k15 (x:DappleBook) (row:(List Int)) (r:(List Int)×Int) (h:g15 x row=some r):SCall Tryd.prog Gs 15 [.agg [jI x.Round,.d (.sl 1 (List.map e29 x.Horses))],.d (.sl 1 (List.map e3 row))] [] 0 Fr.emp (match r with | (r0_6,r1_2)=>.tup [.d (.sl 1 (List.map e3 r0_6)),jI r1_2]) [] 0 Fr.emp:=by
 unfold g15 at h
 refine SCall.mkK Tryd.func15 c15 rfl rfl (by kernel_rfl) (fun Q_0 hR_0 hN_0=>?_)
 refine Sa (sT [(1,.d (.sl 1 (List.map e3 row))),pR 2 0] [(0,.var 24 [jI x.Round,.d (.sl 1 (List.map e29 x.Horses))])] 1 0) ?_
 refine AW.seqK fun K_1 hK_1=>AW.srwK fun Q_2 hQ_2=>?_
 refine Au 1 (sT [(1,.d (.sl 1 (List.map e3 row))),pR 2 0,(11,.agg [jI x.Round,.d (.sl 1 (List.map e29 x.Horses))])] [(0,.var 24 [jI x.Round,.d (.sl 1 (List.map e29 x.Horses))])] 1 0) ?_
 obtain ⟨r0_4,hx_3,h⟩:=bsome h
 refine rC (k13 x _ hx_3) ?_
 refine Au 1 (sT [(1,.d (.sl 1 (List.map e3 row))),pR 2 0,(6,jI r0_4)] [(0,.var 24 [jI x.Round,.d (.sl 1 (List.map e29 x.Horses))])] 1 0) ?_
 refine RW.nil (hQ_2 _ ?_)
 refine Sa (sT [(1,.d (.sl 1 (List.map e3 row))),pR 2 0,(6,jI r0_4),(14,.d (.bool (decide (r0_4≠0))))] [(0,.var 24 [jI x.Round,.d (.sl 1 (List.map e29 x.Horses))])] 1 0) ?_
 refine AW.cond rfl (fun hb_4=>?_) (fun hb_4=>?_)
 ·have h:=ifT hb_4 h
  refine Sa (sT [(4,.d (.nilSl)),(5,jI r0_4)] [] 1 0) ?_
  obtain rfl:=Option.some.inj h
  exact AW.ret (hR_0 _ (retX (.cons (.tmp rfl) (.cons (.tmp rfl) .nil)) (Frz.tup_of ⟨.nil 1,.refl _,trivial⟩) rfl (by kernel_rfl) (by kernel_rfl)))
 ·have h:=ifF hb_4 h
  refine AW.skip (hK_1 _ ?_)
  refine AW.srwK (fun Q_5 hQ_5=>?_)
  refine Au 1 (sT [(1,.d (.sl 1 (List.map e3 row))),pR 2 0,(16,.d (.sl 1 (List.map e3 row)))] [(0,.var 24 [jI x.Round,.d (.sl 1 (List.map e29 x.Horses))])] 1 0) ?_
  refine rL rfl ?_
  refine Au 4 (sT [(1,.d (.sl 1 (List.map e3 row))),pR 2 0,(7,.d (.bool (decide ((row.length:Int)=x.Round))))] [(0,.var 24 [jI x.Round,.d (.sl 1 (List.map e29 x.Horses))])] 1 0) ?_
  refine RW.nil (hQ_5 _ ?_)
  refine Sa (sT [(1,.d (.sl 1 (List.map e3 row))),pR 2 0,(7,.d (.bool (decide ((row.length:Int)=x.Round)))),(8,.d (.nilSl))] [(0,.var 24 [jI x.Round,.d (.sl 1 (List.map e29 x.Horses))])] 1 0) ?_
  refine AW.seqK fun K_6 hK_6=>AW.srwK fun Q_7 hQ_7=>?_
  refine Au 1 (sT [pR 2 0,(7,.d (.bool (decide ((row.length:Int)=x.Round)))),(8,.d (.nilSl)),(21,.d (.sl 1 (List.map e3 row)))] [(0,.var 24 [jI x.Round,.d (.sl 1 (List.map e29 x.Horses))])] 1 0) ?_
  refine rL rfl ?_
  refine Au 1 (sT [pR 2 0,(7,.d (.bool (decide ((row.length:Int)=x.Round)))),(8,.d (.nilSl)),(21,.d (.sl 1 (List.map e3 row))),(22,jI (row.length:Int)),(23,jI 0)] [(0,.var 24 [jI x.Round,.d (.sl 1 (List.map e29 x.Horses))])] 1 0) ?_
  refine RW.nil (hQ_7 _ ?_)
  refine AW.block ?_
  refine AW.sln (t:=21) rfl (fun hN_8=>?_)
  rw [List.length_map] at hN_8
  obtain ⟨out_8,hx_8,h⟩:=bsome h
  refine AW.evSK (fun (v:Int) (⟨ok,l⟩:Bool×(List Int))=>(sT [pR 2 0,(7,.d (.bool ok)),(8,.own 1 (List.map e3 l).length),(21,.d (.sl 1 (List.map e3 row))),(22,jI (row.length:Int)),(23,jI v)] (y13 l x) 2 0)) g15_8 hx_8 (Can.trans (Can.thawT 8 3 1 rfl rfl) (Can.kp (by kernel_rfl))) (fun v p s_8 hi_8 hl_8 hp_8 c_8 h K_8 hK_8=>?_) (fun v s_8 hi_8 hl_8 hout=>?_)
  ·obtain ⟨ok,l⟩:=s_8
   unfold g15_8 at h
   refine Sa (sT [pR 2 0,(7,.d (.bool ok)),(8,.own 1 (List.map e3 l).length),(21,.d (.sl 1 (List.map e3 row))),(22,jI (row.length:Int)),(23,jI v),(24,.d (.bool (decide (v<(row.length:Int)))))] (y13 l x) 2 0) ?_
   refine AW.seqK (fun K_9 hK_9=>?_)
   refine AW.cond rfl (fun hb_10=>?_) (fun hb_10=>False.elim (by have:=of_decide_eq_false hb_10;omega))
   refine AW.skip (hK_9 _ ?_)
   refine AW.seqK (fun K_11 hK_11=>?_)
   refine AW.block ?_
   refine AW.srwK (fun Q_12 hQ_12=>?_)
   refine RW.one fokW (r_iaD trivial rfl rfl hi_8 (row:=e3 p) (mapget hp_8) (r_end ?_))
   refine Au 2 (sT [pR 2 0,(7,.d (.bool ok)),(8,.own 1 (List.map e3 l).length),(10,jI p),(21,.d (.sl 1 (List.map e3 row))),(22,jI (row.length:Int)),(23,jI v)] (y13 l x) 2 0) ?_
   refine RW.nil (hQ_12 _ ?_)
   refine AW.srwK (fun Q_13 hQ_13=>?_)
   refine Au 2 (sT [pR 2 0,(8,.own 1 (List.map e3 l).length),(10,jI p),(21,.d (.sl 1 (List.map e3 row))),(22,jI (row.length:Int)),(23,jI v),(28,.d (.bool ok))] (y13 l x) 2 0) ?_
   obtain ⟨v1,hx_14,h⟩:=bsome h
   refine RW.cut fokW 3 ((sT [pR 2 0,(8,.own 1 (List.map e3 l).length),(10,jI p),(21,.d (.sl 1 (List.map e3 row))),(22,jI (row.length:Int)),(23,jI v),(31,.d (.bool v1))] (y13 l x) 2 0)) ?_ ?_
   ·refine r_split 28 rfl (fun hb_16=>?_) (fun hb_16=>?_)
    ·have h:=ifT hb_16 hx_14
     refine aX 1 (sT [pR 2 0,(8,.own 1 (List.map e3 l).length),(10,jI p),(21,.d (.sl 1 (List.map e3 row))),(22,jI (row.length:Int)),(23,jI v),(28,.d (.bool true)),(29,jI p)] (y13 l x) 2 0) ?_
     obtain ⟨r0,hx_15,h⟩:=bsome h
     refine r_call rfl rfl (k28 p 0 3 _ hx_15) rfl rfl ?_
     refine aX 1 (sT [pR 2 0,(8,.own 1 (List.map e3 l).length),(10,jI p),(21,.d (.sl 1 (List.map e3 row))),(22,jI (row.length:Int)),(23,jI v),(31,.d (.bool r0))] (y13 l x) 2 0) ?_
     obtain rfl:=Option.some.inj h
     refine RunC.finJ (Can.kp (by kernel_rfl))
    ·have h:=ifF hb_16 hx_14
     refine aX 3 (sT [pR 2 0,(8,.own 1 (List.map e3 l).length),(10,jI p),(21,.d (.sl 1 (List.map e3 row))),(22,jI (row.length:Int)),(23,jI v),(31,.d (.bool false))] (y13 l x) 2 0) ?_
     obtain rfl:=Option.some.inj h
     refine RunC.finJ (Can.kp (by kernel_rfl))
   ·refine Au 1 (sT [pR 2 0,(7,.d (.bool v1)),(8,.own 1 (List.map e3 l).length),(10,jI p),(21,.d (.sl 1 (List.map e3 row))),(22,jI (row.length:Int)),(23,jI v)] (y13 l x) 2 0) ?_
    refine RW.nil (hQ_13 _ ?_)
    refine Sa (sT [pR 2 0,(7,.d (.bool v1)),(8,.own 1 (List.map e3 l).length),(10,jI p),(21,.d (.sl 1 (List.map e3 row))),(22,jI (row.length:Int)),(23,jI v),(32,.d (.bool v1))] (y13 l x) 2 0) ?_
    refine AW.cond rfl (fun hb_17=>?_) (fun hb_17=>?_)
    ·have h:=ifT hb_17 h
     refine AW.rw ?_
     refine Au 2 (sT [pR 2 0,(7,.d (.bool v1)),(21,.d (.sl 1 (List.map e3 row))),(22,jI (row.length:Int)),(23,jI v),(33,.own 1 (List.map e3 l).length),(34,jI p)] (y13 l x) 2 0) ?_
     obtain ⟨_,hv_19,h⟩:=bsome h
     refine RW.one fokW (r_sh trivial rfl rfl (shl64_ok (of_decide_eq_true (must_ok hv_19))) (r_end ?_))
     refine Au 1 (sT [pR 2 0,(7,.d (.bool v1)),(21,.d (.sl 1 (List.map e3 row))),(22,jI (row.length:Int)),(23,jI v),(33,.own 1 (List.map e3 l).length),(36,.own 2 (List.map e3 [(shl64 1 p)]).length)] [(2,.row 3 1 (List.map e3 [(shl64 1 p)])),(1,.row 3 1 (List.map e3 l)),(0,.var 24 [jI x.Round,.d (.sl 1 (List.map e29 x.Horses))])] 3 0) ?_
     obtain ⟨l1,hv_20,h⟩:=bsome h
     refine RW.one fokW (r_apO trivial rfl rfl rfl rfl rfl rfl (apz hv_20 e3) (apr hv_20 e3) (r_end ?_))
     refine Au 1 (sT [pR 2 0,(7,.d (.bool v1)),(8,.own 1 (List.map e3 l1).length),(21,.d (.sl 1 (List.map e3 row))),(22,jI (row.length:Int)),(23,jI v)] (y14 l1 x) 3 0) ?_
     refine RW.nil ?_
     refine hK_11 _ ?_
     refine Ra (sT [pR 2 0,(7,.d (.bool v1)),(8,.own 1 (List.map e3 l1).length),(21,.d (.sl 1 (List.map e3 row))),(22,jI (row.length:Int)),(23,jI (wr (v+1)))] (y14 l1 x) 3 0) ?_
     obtain rfl:=Option.some.inj h
     have ew:wr (v+1)=v+1:=inext (N:=(row.length:Int)) (by omega) (by omega) (by omega)
     rw [ew]
     exact hK_8 _ (Can.kp (by kernel_rfl))
    ·have h:=ifF hb_17 h
     refine AW.skip (hK_11 _ ?_)
     refine Ra (sT [pR 2 0,(7,.d (.bool v1)),(8,.own 1 (List.map e3 l).length),(21,.d (.sl 1 (List.map e3 row))),(22,jI (row.length:Int)),(23,jI (wr (v+1)))] (y13 l x) 2 0) ?_
     obtain rfl:=Option.some.inj h
     have ew:wr (v+1)=v+1:=inext (N:=(row.length:Int)) (by omega) (by omega) (by omega)
     rw [ew]
     exact hK_8 _ (Can.kp (by kernel_rfl))
  ·obtain ⟨ok,l⟩:=s_8
   subst hout
   refine Sa (sT [pR 2 0,(7,.d (.bool ok)),(8,.own 1 (List.map e3 l).length),(21,.d (.sl 1 (List.map e3 row))),(22,jI (row.length:Int)),(23,jI v),(24,.d (.bool (decide (v<(row.length:Int)))))] (y13 l x) 2 0) ?_
   refine AW.seqK (fun K_21 hK_21=>?_)
   refine AW.cond rfl (fun hb_22=>False.elim (by have:=of_decide_eq_true hb_22;omega)) (fun hb_22=>?_)
   refine AW.exit ?_
   refine hK_6 _ ?_
   refine AW.seqK (fun K_23 hK_23=>?_)
   refine Sa (sT [pR 2 0,(8,.own 1 (List.map e3 l).length),(40,.d (.bool (!ok)))] (y13 l x) 2 0) ?_
   refine AW.cond rfl (fun hb_24=>?_) (fun hb_24=>?_)
   ·have h:=ifT hb_24 h
    refine Sa (sT [(4,.d (.nilSl)),(5,jI 71)] [] 2 0) ?_
    obtain rfl:=Option.some.inj h
    exact AW.ret (hR_0 _ (retX (.cons (.tmp rfl) (.cons (.tmp rfl) .nil)) (Frz.tup_of ⟨.nil 1,.refl _,trivial⟩) rfl (by kernel_rfl) (by kernel_rfl)))
   ·have h:=ifF hb_24 h
    refine AW.skip (hK_23 _ ?_)
    refine AW.srwK (fun Q_25 hQ_25=>?_)
    refine Au 1 (sT [(8,.own 1 (List.map e3 l).length),(41,.agg [jI x.Round,.d (.sl 1 (List.map e29 x.Horses))])] [(1,.row 3 1 (List.map e3 l))] 2 0) ?_
    obtain ⟨⟨r0_DappleBook,r0_rows,m2⟩,hx_26,h⟩:=bsome h
    refine RW.one fokW (r_callS (zr:=[]) [] trivial rfl (k22 x _ hx_26) trivial rfl rfl ⟨.refl _,trivial⟩ rfl rfl rfl (r_end ?_))
    refine Au 1 (sT [(42,.agg [jI r0_DappleBook.Round,.d (.sl 1 (List.map e29 r0_DappleBook.Horses)),.d (.sl 8 (List.map e60 r0_rows)),.map 4]),(43,.own 1 (List.map e3 l).length)] [(4,.mp (List.map m87_4 m2)),(1,.row 3 1 (List.map e3 l))] 5 0) ?_
    obtain ⟨r0_1,hx_27,h⟩:=bsome h
    refine RW.one fokW (r_callF (rs:=[(1,.row 3 1 (List.map e3 l))]) trivial rfl (k30 l _ hx_27) ⟨rfl,trivial⟩ ⟨(.own rfl rfl),trivial⟩ rfl rfl rfl (r_end ?_))
    obtain ⟨r0_2,hx_28,h⟩:=bsome h
    refine RW.one fokW (r_callZ (zr:=[]) trivial rfl (k29 r0_DappleBook r0_rows r0_1 _ hx_28) trivial ⟨(Frz.agg_of ⟨.refl _,.refl _,.refl _,(.opq rfl (by intro _ h;cases h)),trivial⟩),.refl _,trivial⟩ rfl rfl rfl rfl (r_end ?_))
    refine Au 2 (sT [(4,.d (.sl 1 (List.map e3 r0_2))),(5,jI 0)] [] 5 0) ?_
    refine RW.nil (hQ_25 _ ?_)
    obtain rfl:=Option.some.inj h
    exact rT hR_0 (.cons (.tmp rfl) (.cons (.tmp rfl) .nil))
def g18_2:Int→Int→(List MakerMark)→Option (List MakerMark):=fun p p1 l=>(must (decide (0≤p1))).bind fun _=>(appL 16 l [(MakerMark.mk p (shl64 1 p1))]).bind fun l1=>some l1
def g18 (b:DappleBook) (row:(List Int)):Option MakerBook:=(eachS g18_2 row 0 ([]:List MakerMark)).bind fun l=>some (MakerBook.mk b.Horses l 0 0)
def y15 (b:DappleBook):List (Nat×Blk):=[(2,.var 37 [.d (.sl 1 (List.map e29 b.Horses)),.d (.nilSl),jI 0,jI 0]),(1,.var 37 [.d (.nilSl),.d (.nilSl),jI 0,jI 0])]
def y16 (b:DappleBook) (l:List MakerMark):List (Nat×Blk):=[(2,.var 37 [.d (.sl 1 (List.map e29 b.Horses)),.own 3 (List.map e83 l).length,jI 0,jI 0]),(3,.row 83 2 (List.map e83 l)),(1,.var 37 [.d (.nilSl),.d (.nilSl),jI 0,jI 0])]
def y17 (b:DappleBook) (l1:List MakerMark):List (Nat×Blk):=[(2,.var 37 [.d (.sl 1 (List.map e29 b.Horses)),.own 3 (List.map e83 l1).length,jI 0,jI 0]),(3,.row 83 2 (List.map e83 l1)),(1,.var 37 [.d (.nilSl),.d (.nilSl),jI 0,jI 0])]
theorem k18 (b:DappleBook) (row:(List Int)) (r:MakerBook) (h:g18 b row=some r):SCall Tryd.prog Gs 18 [.agg [jI b.Round,.d (.sl 1 (List.map e29 b.Horses))],.d (.sl 1 (List.map e3 row))] [] 0 Fr.emp (.agg [.d (.sl 1 (List.map e29 r.Makers)),.d (.sl 2 (List.map e83 r.Seen)),jI r.Repairs,jI r.Fixed]) [] 0 Fr.emp:=by
 unfold g18 at h
 refine SCall.mkK Tryd.func18 c18 rfl rfl (by kernel_rfl) (fun Q_0 hR_0 hN_0=>?_)
 refine Sa (sT [(1,.d (.sl 1 (List.map e3 row))),pR 2 0,pR 4 1] [(1,.var 37 [.d (.nilSl),.d (.nilSl),jI 0,jI 0]),(0,.var 24 [jI b.Round,.d (.sl 1 (List.map e29 b.Horses))])] 2 0) ?_
 refine Sa (sT [(1,.d (.sl 1 (List.map e3 row))),pR 4 1,pR 5 2] (y15 b) 3 0) ?_
 refine AW.seqK (fun K_1 hK_1=>?_)
 refine Sa (sT [(1,.d (.sl 1 (List.map e3 row))),pR 4 1,pR 5 2,(6,jI 0)] (y15 b) 3 0) ?_
 refine AW.block ?_
 refine AW.sln (t:=1) rfl (fun hN_2=>?_)
 rw [List.length_map] at hN_2
 obtain ⟨out_2,hx_2,h⟩:=bsome h
 refine AW.evSK (fun (p:Int) (l:List MakerMark)=>(sT [(1,.d (.sl 1 (List.map e3 row))),pR 4 1,pR 5 2,(6,jI p)] (y16 b l) 4 0)) g18_2 hx_2 (Can.trans (Can.thawH 2 1 37 83 2 rfl rfl rfl) (Can.kp (by kernel_rfl))) (fun p p1 l hi_2 hl_2 hp_2 c_2 h K_2 hK_2=>?_) (fun p l hi_2 hl_2 hout=>?_)
 ·unfold g18_2 at h
  refine AW.seqK fun K_3 hK_3=>AW.srwK fun Q_4 hQ_4=>?_
  refine Au 2 (sT [(1,.d (.sl 1 (List.map e3 row))),pR 4 1,pR 5 2,(6,jI p),(10,jI p),(11,.d (.sl 1 (List.map e3 row)))] (y16 b l) 4 0) ?_
  refine rL rfl ?_
  refine Au 1 (sT [(1,.d (.sl 1 (List.map e3 row))),pR 4 1,pR 5 2,(6,jI p),(13,.d (.bool (decide (p<(row.length:Int)))))] (y16 b l) 4 0) ?_
  refine RW.nil (hQ_4 _ ?_)
  refine AW.cond rfl (fun hb_5=>?_) (fun hb_5=>False.elim (by have:=of_decide_eq_false hb_5;omega))
  refine AW.skip (hK_3 _ ?_)
  refine AW.seqK (fun K_6 hK_6=>?_)
  refine AW.block ?_
  refine AW.drw fokW ?_
  refine aX 5 (sT [(1,.d (.sl 1 (List.map e3 row))),pR 4 1,pR 5 2,(6,jI p),(17,.own 3 (List.map e83 l).length),(18,jI p),(19,.d (.sl 1 (List.map e3 row))),(20,jI p)] (y16 b l) 4 0) ?_
  refine r_iaD trivial rfl rfl hi_2 (row:=e3 p1) (mapget hp_2) ?_
  refine aX 1 (sT [(1,.d (.sl 1 (List.map e3 row))),pR 4 1,pR 5 2,(6,jI p),(17,.own 3 (List.map e83 l).length),(18,jI p),(22,jI p1)] (y16 b l) 4 0) ?_
  obtain ⟨_,hv_8,h⟩:=bsome h
  refine r_sh trivial rfl rfl (shl64_ok (of_decide_eq_true (must_ok hv_8))) ?_
  refine aX 2 (sT [(1,.d (.sl 1 (List.map e3 row))),pR 4 1,pR 5 2,(6,jI p),(17,.own 3 (List.map e83 l).length),(25,.own 4 (List.map e83 [(MakerMark.mk p (shl64 1 p1))]).length)] [(4,.row 83 2 (List.map e83 [(MakerMark.mk p (shl64 1 p1))])),(2,.var 37 [.d (.sl 1 (List.map e29 b.Horses)),.own 3 (List.map e83 l).length,jI 0,jI 0]),(3,.row 83 2 (List.map e83 l)),(1,.var 37 [.d (.nilSl),.d (.nilSl),jI 0,jI 0])] 5 0) ?_
  obtain ⟨l1,hv_9,h⟩:=bsome h
  refine r_apO trivial rfl rfl rfl rfl rfl rfl (apz hv_9 e83) (apr hv_9 e83) ?_
  refine aX 2 (sT [(1,.d (.sl 1 (List.map e3 row))),pR 4 1,pR 5 2,(6,jI p)] [(2,.var 37 [.d (.sl 1 (List.map e29 b.Horses)),.own 3 (List.map e83 l1).length,jI 0,jI 0]),(3,.row 83 2 (List.map e83 l1)),(4,.row 83 2 (List.map e83 [(MakerMark.mk p (shl64 1 p1))])),(1,.var 37 [.d (.nilSl),.d (.nilSl),jI 0,jI 0])] 5 0) ?_
  refine Fi (sT [(1,.d (.sl 1 (List.map e3 row))),pR 4 1,pR 5 2,(6,jI p)] (y17 b l1) 5 0) ?_
  refine hK_6 _ ?_
  refine Ra (sT [(1,.d (.sl 1 (List.map e3 row))),pR 4 1,pR 5 2,(6,jI (wr (p+1)))] (y17 b l1) 5 0) ?_
  obtain rfl:=Option.some.inj h
  have ew:wr (p+1)=p+1:=inext (N:=(row.length:Int)) (by omega) (by omega) (by omega)
  rw [ew]
  exact hK_2 _ (Can.kp (by kernel_rfl))
 ·subst hout
  refine AW.seqK fun K_10 hK_10=>AW.srwK fun Q_11 hQ_11=>?_
  refine Au 2 (sT [(1,.d (.sl 1 (List.map e3 row))),pR 4 1,pR 5 2,(6,jI p),(10,jI p),(11,.d (.sl 1 (List.map e3 row)))] (y16 b l) 4 0) ?_
  refine rL rfl ?_
  refine Au 1 (sT [(1,.d (.sl 1 (List.map e3 row))),pR 4 1,pR 5 2,(6,jI p),(13,.d (.bool (decide (p<(row.length:Int)))))] (y16 b l) 4 0) ?_
  refine RW.nil (hQ_11 _ ?_)
  refine AW.cond rfl (fun hb_12=>False.elim (by have:=of_decide_eq_true hb_12;omega)) (fun hb_12=>?_)
  refine AW.exit ?_
  refine hK_1 _ ?_
  refine Sa (sT [pR 4 1] [(1,.var 37 [.d (.sl 1 (List.map e29 b.Horses)),.own 3 (List.map e83 l).length,jI 0,jI 0]),(3,.row 83 2 (List.map e83 l))] 4 0) ?_
  obtain rfl:=Option.some.inj h
  exact AW.ret (hR_0 _ (retX (.cons (.agg rfl rfl (Nat.le_of_ble_eq_true rfl)) .nil) (Frz.agg_of ⟨.refl _,(.own rfl rfl),.refl _,.refl _,trivial⟩) rfl (by kernel_rfl) (by kernel_rfl)))
def g39 (n:Int) (first:Int) (last:Int):Option Bool:=some ((decide (first≤n))&&(decide (n≤last)))
theorem k39 (n:Int) (first:Int) (last:Int) (r:Bool) (h:g39 n first last=some r):SCall Tryd.prog Gs 39 [jI n,jI first,jI last] [] 0 Fr.emp (.d (.bool r)) [] 0 Fr.emp:=by
 unfold g39 at h
 refine SCall.mkK Tryd.func39 c39 rfl rfl (by kernel_rfl) (fun Q_0 hR_0 hN_0=>?_)
 refine Sa (sT [(0,jI n),(1,jI first),(2,jI last)] [] 0 0) ?_
 refine AW.sa fokW [10] (sT [(6,.d (.bool ((decide (first≤n))&&(decide (n≤last)))))] [] 0 0) (by kernel_rfl) ?_
 obtain rfl:=Option.some.inj h
 exact rT hR_0 (.cons (.tmp rfl) .nil)
end Go.Proofs.Ta
namespace Go.Proofs.Ta
open Go Go.Abs Go.Proofs
def g25_30:Int→Int→Bool→Option Bool:=fun v4 p3 ok2=>(bif ok2 then ((g39 p3 1 31).bind fun r0_4=>some r0_4) else (some false)).bind fun v5=>some v5
def g25_45 (p1:(List Int)):Int→MakerMark→Bool→Option Bool:=fun v6 p4 ok3=>(bif ok3 then ((g39 p4.Kind 0 (wr ((p1.length:Int) - 1))).bind fun r0_5=>some r0_5) else (some false)).bind fun v7=>(bif v7 then ((g39 p4.Values 1 31).bind fun r0_6=>some r0_6) else (some false)).bind fun v8=>some v8
def g25_21 (p1:(List Int)):Int→(List Int)→Bool→Option Bool:=fun v2 p2 ok1=>(bif ok1 then (some (decide ((p2.length:Int)=(p1.length:Int)))) else (some false)).bind fun v3=>(eachS g25_30 p2 0 v3).bind fun ok2=>some ok2
def g25 (b:MakerBook):Option Int:=(g39 (b.Makers.length:Int) 1 5).bind fun r0=>(bif (!r0) then (some true) else ((ixL b.Makers 0).bind fun p=>(g39 (p.length:Int) 1 6).bind fun r0_1=>some (!r0_1))).bind fun v=>(bif v then (some true) else (some (decide (8<(b.Seen.length:Int))))).bind fun v1=>bif v1 then (some 50) else ((ixL b.Makers 0).bind fun p1=>((g39 b.Repairs 0 (p1.length:Int)).bind fun r0_2=>bif r0_2 then ((must (decide (0≤(p1.length:Int)))).bind fun _=>(g39 b.Fixed 0 (wr ((shl64 1 (p1.length:Int)) - 1))).bind fun r0_3=>some r0_3) else (some false)).bind fun ok=>(eachS (g25_21 p1) b.Makers 0 ok).bind fun ok1=>(eachS (g25_45 p1) b.Seen 0 ok1).bind fun ok3=>bif (!ok3) then (some 50) else (some 0))
theorem k25 (b:MakerBook) (r:Int) (h:g25 b=some r):SCall Tryd.prog Gs 25 [.agg [.d (.sl 1 (List.map e29 b.Makers)),.d (.sl 2 (List.map e83 b.Seen)),jI b.Repairs,jI b.Fixed]] [] 0 Fr.emp (jI r) [] 0 Fr.emp:=by
 unfold g25 at h
 refine SCall.mkK Tryd.func25 c25 rfl rfl (by kernel_rfl) (fun Q_0 hR_0 hN_0=>?_)
 refine Sa (sT [pR 1 0] [(0,.var 37 (cv37 b))] 1 0) ?_
 refine AW.seqK fun K_1 hK_1=>AW.srwK fun Q_2 hQ_2=>?_
 refine Au 2 (sT [pR 1 0,(12,.d (.sl 1 (List.map e29 b.Makers)))] [(0,.var 37 (cv37 b))] 1 0) ?_
 refine rL rfl ?_
 obtain ⟨r0,hx_3,h⟩:=bsome h
 refine rC (k39 (b.Makers.length:Int) 1 5 _ hx_3) ?_
 refine Au 2 (sT [pR 1 0,(16,.d (.bool (!r0)))] [(0,.var 37 (cv37 b))] 1 0) ?_
 obtain ⟨v,hx_4,h⟩:=bsome h
 refine RW.cut fokW 8 ((sT [pR 1 0,(24,.d (.bool v))] [(0,.var 37 (cv37 b))] 1 0)) ?_ ?_
 ·refine r_split 16 rfl (fun hb_7=>?_) (fun hb_7=>?_)
  ·have h:=ifT hb_7 hx_4
   refine aX 8 (sT [pR 1 0,(24,.d (.bool true))] [(0,.var 37 (cv37 b))] 1 0) ?_
   obtain rfl:=Option.some.inj h
   refine RunC.finJ (Can.kp (by kernel_rfl))
  ·have h:=ifF hb_7 hx_4
   refine aX 2 (sT [pR 1 0,(16,.d (.bool false)),(18,.d (.sl 1 (List.map e29 b.Makers)))] [(0,.var 37 (cv37 b))] 1 0) ?_
   obtain ⟨p,hv_5,h⟩:=bsome h
   refine r_iaD rfl rfl rfl (ixL_ok hv_5).1 (row:=e29 p) (mapget (ixL_ok hv_5).2) ?_
   refine aX 1 (sT [pR 1 0,(16,.d (.bool false)),(20,.d (.sl 1 (List.map e3 p)))] [(0,.var 37 (cv37 b))] 1 0) ?_
   refine r_lenX rfl rfl lenm ?_
   obtain ⟨r0_1,hx_6,h⟩:=bsome h
   refine r_call rfl rfl (k39 (p.length:Int) 1 6 _ hx_6) rfl rfl ?_
   refine aX 2 (sT [pR 1 0,(24,.d (.bool (!r0_1)))] [(0,.var 37 (cv37 b))] 1 0) ?_
   obtain rfl:=Option.some.inj h
   refine RunC.finJ (Can.kp (by kernel_rfl))
 ·refine Au 1 (sT [pR 1 0,(25,.d (.bool v))] [(0,.var 37 (cv37 b))] 1 0) ?_
  obtain ⟨v1,hx_8,h⟩:=bsome h
  refine RW.cut fokW 5 ((sT [pR 1 0,(30,.d (.bool v1))] [(0,.var 37 (cv37 b))] 1 0)) ?_ ?_
  ·refine r_split 25 rfl (fun hb_9=>?_) (fun hb_9=>?_)
   ·have h:=ifT hb_9 hx_8
    refine aX 5 (sT [pR 1 0,(30,.d (.bool true))] [(0,.var 37 (cv37 b))] 1 0) ?_
    obtain rfl:=Option.some.inj h
    refine RunC.finJ (Can.kp (by kernel_rfl))
   ·have h:=ifF hb_9 hx_8
    refine aX 2 (sT [pR 1 0,(25,.d (.bool false)),(27,.d (.sl 2 (List.map e83 b.Seen)))] [(0,.var 37 (cv37 b))] 1 0) ?_
    refine r_lenX rfl rfl lenm ?_
    refine aX 2 (sT [pR 1 0,(30,.d (.bool (decide (8<(b.Seen.length:Int)))))] [(0,.var 37 (cv37 b))] 1 0) ?_
    obtain rfl:=Option.some.inj h
    refine RunC.finJ (Can.kp (by kernel_rfl))
  ·refine RW.nil (hQ_2 _ ?_)
   refine AW.cond rfl (fun hb_10=>?_) (fun hb_10=>?_)
   ·have h:=ifT hb_10 h
    refine Sa (sT [(2,jI 50)] [] 1 0) ?_
    obtain rfl:=Option.some.inj h
    exact rT hR_0 (.cons (.tmp rfl) .nil)
   ·have h:=ifF hb_10 h
    refine AW.skip (hK_1 _ ?_)
    refine AW.srwK (fun Q_11 hQ_11=>?_)
    refine Au 2 (sT [pR 1 0,(32,.d (.sl 1 (List.map e29 b.Makers)))] [(0,.var 37 (cv37 b))] 1 0) ?_
    obtain ⟨p1,hv_12,h⟩:=bsome h
    refine RW.one fokW (r_iaD trivial rfl rfl (ixL_ok hv_12).1 (row:=e29 p1) (mapget (ixL_ok hv_12).2) (r_end ?_))
    refine Au 1 (sT [pR 1 0,(34,.d (.sl 1 (List.map e3 p1)))] [(0,.var 37 (cv37 b))] 1 0) ?_
    refine rL rfl ?_
    refine Au 1 (sT [pR 1 0,(3,jI (p1.length:Int))] [(0,.var 37 (cv37 b))] 1 0) ?_
    refine RW.nil (hQ_11 _ ?_)
    obtain ⟨ok,hx_13,h⟩:=bsome h
    refine AW.jnSK (fun (ok:Bool)=>(sT [pR 1 0,(3,jI (p1.length:Int)),(4,.d (.bool ok))] [(0,.var 37 (cv37 b))] 1 0)) (c:=ok) (fun K_13 hK_13=>?_) ?_
    ·have h:=hx_13
     refine AW.drw fokW ?_
     refine aX 3 (sT [pR 1 0,(3,jI (p1.length:Int)),(37,jI b.Repairs),(38,jI (p1.length:Int))] [(0,.var 37 (cv37 b))] 1 0) ?_
     obtain ⟨r0_2,hx_15,h⟩:=bsome h
     refine r_call trivial rfl (k39 b.Repairs 0 (p1.length:Int) _ hx_15) rfl rfl ?_
     refine aX 1 (sT [pR 1 0,(3,jI (p1.length:Int)),(40,.d (.bool r0_2))] [(0,.var 37 (cv37 b))] 1 0) ?_
     refine r_split 40 rfl (fun hb_16=>?_) (fun hb_16=>?_)
     ·have h:=ifT hb_16 h
      refine aX 3 (sT [pR 1 0,(3,jI (p1.length:Int)),(40,.d (.bool true)),(42,jI b.Fixed),(43,jI (p1.length:Int))] [(0,.var 37 (cv37 b))] 1 0) ?_
      obtain ⟨_,hv_17,h⟩:=bsome h
      refine r_sh rfl rfl rfl (shl64_ok (of_decide_eq_true (must_ok hv_17))) ?_
      refine aX 1 (sT [pR 1 0,(3,jI (p1.length:Int)),(40,.d (.bool true)),(42,jI b.Fixed),(45,jI (wr ((shl64 1 (p1.length:Int)) - 1)))] [(0,.var 37 (cv37 b))] 1 0) ?_
      obtain ⟨r0_3,hx_18,h⟩:=bsome h
      refine r_call rfl rfl (k39 b.Fixed 0 (wr ((shl64 1 (p1.length:Int)) - 1)) _ hx_18) rfl rfl ?_
      refine aX 2 (sT [pR 1 0,(3,jI (p1.length:Int)),(4,.d (.bool r0_3))] [(0,.var 37 (cv37 b))] 1 0) ?_
      refine Fi (sT [pR 1 0,(3,jI (p1.length:Int)),(4,.d (.bool r0_3))] [(0,.var 37 (cv37 b))] 1 0) ?_
      obtain rfl:=Option.some.inj h
      exact hK_13 _ (Can.kp (by kernel_rfl))
     ·have h:=ifF hb_16 h
      refine aX 8 (sT [pR 1 0,(3,jI (p1.length:Int)),(4,.d (.bool false))] [(0,.var 37 (cv37 b))] 1 0) ?_
      refine Fi (sT [pR 1 0,(3,jI (p1.length:Int)),(4,.d (.bool false))] [(0,.var 37 (cv37 b))] 1 0) ?_
      obtain rfl:=Option.some.inj h
      exact hK_13 _ (Can.kp (by kernel_rfl))
    ·refine AW.seqK fun K_19 hK_19=>AW.srwK fun Q_20 hQ_20=>?_
     refine Au 2 (sT [pR 1 0,(3,jI (p1.length:Int)),(4,.d (.bool ok)),(49,.d (.sl 1 (List.map e29 b.Makers)))] [(0,.var 37 (cv37 b))] 1 0) ?_
     refine rL rfl ?_
     refine Au 1 (sT [pR 1 0,(3,jI (p1.length:Int)),(4,.d (.bool ok)),(49,.d (.sl 1 (List.map e29 b.Makers))),(50,jI (b.Makers.length:Int)),(51,jI 0)] [(0,.var 37 (cv37 b))] 1 0) ?_
     refine RW.nil (hQ_20 _ ?_)
     refine AW.block ?_
     refine AW.sln (t:=49) rfl (fun hN_21=>?_)
     rw [List.length_map] at hN_21
     obtain ⟨out_21,hx_21,h⟩:=bsome h
     refine AW.evSK (fun (v2:Int) (ok1:Bool)=>(sT [pR 1 0,(3,jI (p1.length:Int)),(4,.d (.bool ok1)),(49,.d (.sl 1 (List.map e29 b.Makers))),(50,jI (b.Makers.length:Int)),(51,jI v2)] [(0,.var 37 (cv37 b))] 1 0)) (g25_21 p1) hx_21 (Can.kp (by kernel_rfl)) (fun v2 p2 ok1 hi_21 hl_21 hp_21 c_21 h K_21 hK_21=>?_) (fun v2 ok1 hi_21 hl_21 hout=>?_)
     ·unfold g25_21 at h
      refine Sa (sT [pR 1 0,(3,jI (p1.length:Int)),(4,.d (.bool ok1)),(49,.d (.sl 1 (List.map e29 b.Makers))),(50,jI (b.Makers.length:Int)),(51,jI v2),(52,.d (.bool (decide (v2<(b.Makers.length:Int)))))] [(0,.var 37 (cv37 b))] 1 0) ?_
      refine AW.seqK (fun K_22 hK_22=>?_)
      refine AW.cond rfl (fun hb_23=>?_) (fun hb_23=>False.elim (by have:=of_decide_eq_false hb_23;omega))
      refine AW.skip (hK_22 _ ?_)
      refine AW.seqK (fun K_24 hK_24=>?_)
      refine AW.block ?_
      refine AW.srwK (fun Q_25 hQ_25=>?_)
      refine RW.one fokW (r_iaD trivial rfl rfl hi_21 (row:=e29 p2) (mapget hp_21) (r_end ?_))
      refine Au 2 (sT [pR 1 0,(3,jI (p1.length:Int)),(4,.d (.bool ok1)),(6,.d (.sl 1 (List.map e3 p2))),(49,.d (.sl 1 (List.map e29 b.Makers))),(50,jI (b.Makers.length:Int)),(51,jI v2)] [(0,.var 37 (cv37 b))] 1 0) ?_
      refine RW.nil (hQ_25 _ ?_)
      refine AW.srwK (fun Q_26 hQ_26=>?_)
      refine Au 2 (sT [pR 1 0,(3,jI (p1.length:Int)),(6,.d (.sl 1 (List.map e3 p2))),(49,.d (.sl 1 (List.map e29 b.Makers))),(50,jI (b.Makers.length:Int)),(51,jI v2),(56,.d (.bool ok1))] [(0,.var 37 (cv37 b))] 1 0) ?_
      obtain ⟨v3,hx_27,h⟩:=bsome h
      refine RW.cut fokW 5 ((sT [pR 1 0,(3,jI (p1.length:Int)),(6,.d (.sl 1 (List.map e3 p2))),(49,.d (.sl 1 (List.map e29 b.Makers))),(50,jI (b.Makers.length:Int)),(51,jI v2),(61,.d (.bool v3))] [(0,.var 37 (cv37 b))] 1 0)) ?_ ?_
      ·refine r_split 56 rfl (fun hb_28=>?_) (fun hb_28=>?_)
       ·have h:=ifT hb_28 hx_27
        refine aX 1 (sT [pR 1 0,(3,jI (p1.length:Int)),(6,.d (.sl 1 (List.map e3 p2))),(49,.d (.sl 1 (List.map e29 b.Makers))),(50,jI (b.Makers.length:Int)),(51,jI v2),(56,.d (.bool true)),(57,.d (.sl 1 (List.map e3 p2)))] [(0,.var 37 (cv37 b))] 1 0) ?_
        refine r_lenX rfl rfl lenm ?_
        refine aX 3 (sT [pR 1 0,(3,jI (p1.length:Int)),(6,.d (.sl 1 (List.map e3 p2))),(49,.d (.sl 1 (List.map e29 b.Makers))),(50,jI (b.Makers.length:Int)),(51,jI v2),(61,.d (.bool (decide ((p2.length:Int)=(p1.length:Int)))))] [(0,.var 37 (cv37 b))] 1 0) ?_
        obtain rfl:=Option.some.inj h
        refine RunC.finJ (Can.kp (by kernel_rfl))
       ·have h:=ifF hb_28 hx_27
        refine aX 5 (sT [pR 1 0,(3,jI (p1.length:Int)),(6,.d (.sl 1 (List.map e3 p2))),(49,.d (.sl 1 (List.map e29 b.Makers))),(50,jI (b.Makers.length:Int)),(51,jI v2),(61,.d (.bool false))] [(0,.var 37 (cv37 b))] 1 0) ?_
        obtain rfl:=Option.some.inj h
        refine RunC.finJ (Can.kp (by kernel_rfl))
      ·refine Au 1 (sT [pR 1 0,(3,jI (p1.length:Int)),(4,.d (.bool v3)),(6,.d (.sl 1 (List.map e3 p2))),(49,.d (.sl 1 (List.map e29 b.Makers))),(50,jI (b.Makers.length:Int)),(51,jI v2)] [(0,.var 37 (cv37 b))] 1 0) ?_
       refine RW.nil (hQ_26 _ ?_)
       refine AW.srwK (fun Q_29 hQ_29=>?_)
       refine Au 1 (sT [pR 1 0,(3,jI (p1.length:Int)),(4,.d (.bool v3)),(49,.d (.sl 1 (List.map e29 b.Makers))),(50,jI (b.Makers.length:Int)),(51,jI v2),(62,.d (.sl 1 (List.map e3 p2)))] [(0,.var 37 (cv37 b))] 1 0) ?_
       refine rL rfl ?_
       refine Au 1 (sT [pR 1 0,(3,jI (p1.length:Int)),(4,.d (.bool v3)),(49,.d (.sl 1 (List.map e29 b.Makers))),(50,jI (b.Makers.length:Int)),(51,jI v2),(62,.d (.sl 1 (List.map e3 p2))),(63,jI (p2.length:Int)),(64,jI 0)] [(0,.var 37 (cv37 b))] 1 0) ?_
       refine RW.nil (hQ_29 _ ?_)
       refine AW.block ?_
       refine AW.sln (t:=62) rfl (fun hN_30=>?_)
       rw [List.length_map] at hN_30
       obtain ⟨out_30,hx_30,h⟩:=bsome h
       refine AW.evSK (fun (v4:Int) (ok2:Bool)=>(sT [pR 1 0,(3,jI (p1.length:Int)),(4,.d (.bool ok2)),(49,.d (.sl 1 (List.map e29 b.Makers))),(50,jI (b.Makers.length:Int)),(51,jI v2),(62,.d (.sl 1 (List.map e3 p2))),(63,jI (p2.length:Int)),(64,jI v4)] [(0,.var 37 (cv37 b))] 1 0)) g25_30 hx_30 (Can.kp (by kernel_rfl)) (fun v4 p3 ok2 hi_30 hl_30 hp_30 c_30 h K_30 hK_30=>?_) (fun v4 ok2 hi_30 hl_30 hout=>?_)
       ·unfold g25_30 at h
        refine Sa (sT [pR 1 0,(3,jI (p1.length:Int)),(4,.d (.bool ok2)),(49,.d (.sl 1 (List.map e29 b.Makers))),(50,jI (b.Makers.length:Int)),(51,jI v2),(62,.d (.sl 1 (List.map e3 p2))),(63,jI (p2.length:Int)),(64,jI v4),(65,.d (.bool (decide (v4<(p2.length:Int)))))] [(0,.var 37 (cv37 b))] 1 0) ?_
        refine AW.seqK (fun K_31 hK_31=>?_)
        refine AW.cond rfl (fun hb_32=>?_) (fun hb_32=>False.elim (by have:=of_decide_eq_false hb_32;omega))
        refine AW.skip (hK_31 _ ?_)
        refine AW.seqK (fun K_33 hK_33=>?_)
        refine AW.block ?_
        refine AW.srwK (fun Q_34 hQ_34=>?_)
        refine RW.one fokW (r_iaD trivial rfl rfl hi_30 (row:=e3 p3) (mapget hp_30) (r_end ?_))
        refine Au 2 (sT [pR 1 0,(3,jI (p1.length:Int)),(4,.d (.bool ok2)),(8,jI p3),(49,.d (.sl 1 (List.map e29 b.Makers))),(50,jI (b.Makers.length:Int)),(51,jI v2),(62,.d (.sl 1 (List.map e3 p2))),(63,jI (p2.length:Int)),(64,jI v4)] [(0,.var 37 (cv37 b))] 1 0) ?_
        refine RW.nil (hQ_34 _ ?_)
        refine AW.rw ?_
        refine Au 2 (sT [pR 1 0,(3,jI (p1.length:Int)),(8,jI p3),(49,.d (.sl 1 (List.map e29 b.Makers))),(50,jI (b.Makers.length:Int)),(51,jI v2),(62,.d (.sl 1 (List.map e3 p2))),(63,jI (p2.length:Int)),(64,jI v4),(69,.d (.bool ok2))] [(0,.var 37 (cv37 b))] 1 0) ?_
        obtain ⟨v5,hx_36,h⟩:=bsome h
        refine RW.cut fokW 3 ((sT [pR 1 0,(3,jI (p1.length:Int)),(49,.d (.sl 1 (List.map e29 b.Makers))),(50,jI (b.Makers.length:Int)),(51,jI v2),(62,.d (.sl 1 (List.map e3 p2))),(63,jI (p2.length:Int)),(64,jI v4),(72,.d (.bool v5))] [(0,.var 37 (cv37 b))] 1 0)) ?_ ?_
        ·refine r_split 69 rfl (fun hb_38=>?_) (fun hb_38=>?_)
         ·have h:=ifT hb_38 hx_36
          refine aX 1 (sT [pR 1 0,(3,jI (p1.length:Int)),(49,.d (.sl 1 (List.map e29 b.Makers))),(50,jI (b.Makers.length:Int)),(51,jI v2),(62,.d (.sl 1 (List.map e3 p2))),(63,jI (p2.length:Int)),(64,jI v4),(69,.d (.bool true)),(70,jI p3)] [(0,.var 37 (cv37 b))] 1 0) ?_
          obtain ⟨r0_4,hx_37,h⟩:=bsome h
          refine r_call rfl rfl (k39 p3 1 31 _ hx_37) rfl rfl ?_
          refine aX 1 (sT [pR 1 0,(3,jI (p1.length:Int)),(49,.d (.sl 1 (List.map e29 b.Makers))),(50,jI (b.Makers.length:Int)),(51,jI v2),(62,.d (.sl 1 (List.map e3 p2))),(63,jI (p2.length:Int)),(64,jI v4),(72,.d (.bool r0_4))] [(0,.var 37 (cv37 b))] 1 0) ?_
          obtain rfl:=Option.some.inj h
          refine RunC.finJ (Can.kp (by kernel_rfl))
         ·have h:=ifF hb_38 hx_36
          refine aX 3 (sT [pR 1 0,(3,jI (p1.length:Int)),(49,.d (.sl 1 (List.map e29 b.Makers))),(50,jI (b.Makers.length:Int)),(51,jI v2),(62,.d (.sl 1 (List.map e3 p2))),(63,jI (p2.length:Int)),(64,jI v4),(72,.d (.bool false))] [(0,.var 37 (cv37 b))] 1 0) ?_
          obtain rfl:=Option.some.inj h
          refine RunC.finJ (Can.kp (by kernel_rfl))
        ·refine Au 1 (sT [pR 1 0,(3,jI (p1.length:Int)),(4,.d (.bool v5)),(49,.d (.sl 1 (List.map e29 b.Makers))),(50,jI (b.Makers.length:Int)),(51,jI v2),(62,.d (.sl 1 (List.map e3 p2))),(63,jI (p2.length:Int)),(64,jI v4)] [(0,.var 37 (cv37 b))] 1 0) ?_
         refine RW.nil ?_
         refine hK_33 _ ?_
         refine Ra (sT [pR 1 0,(3,jI (p1.length:Int)),(4,.d (.bool v5)),(49,.d (.sl 1 (List.map e29 b.Makers))),(50,jI (b.Makers.length:Int)),(51,jI v2),(62,.d (.sl 1 (List.map e3 p2))),(63,jI (p2.length:Int)),(64,jI (wr (v4+1)))] [(0,.var 37 (cv37 b))] 1 0) ?_
         obtain rfl:=Option.some.inj h
         have ew:wr (v4+1)=v4+1:=inext (N:=(p2.length:Int)) (by omega) (by omega) (by omega)
         rw [ew]
         exact hK_30 _ (Can.kp (by kernel_rfl))
       ·subst hout
        refine Sa (sT [pR 1 0,(3,jI (p1.length:Int)),(4,.d (.bool ok2)),(49,.d (.sl 1 (List.map e29 b.Makers))),(50,jI (b.Makers.length:Int)),(51,jI v2),(62,.d (.sl 1 (List.map e3 p2))),(63,jI (p2.length:Int)),(64,jI v4),(65,.d (.bool (decide (v4<(p2.length:Int)))))] [(0,.var 37 (cv37 b))] 1 0) ?_
        refine AW.seqK (fun K_39 hK_39=>?_)
        refine AW.cond rfl (fun hb_40=>False.elim (by have:=of_decide_eq_true hb_40;omega)) (fun hb_40=>?_)
        refine AW.exit ?_
        refine hK_24 _ ?_
        refine Ra (sT [pR 1 0,(3,jI (p1.length:Int)),(4,.d (.bool ok2)),(49,.d (.sl 1 (List.map e29 b.Makers))),(50,jI (b.Makers.length:Int)),(51,jI (wr (v2+1)))] [(0,.var 37 (cv37 b))] 1 0) ?_
        obtain rfl:=Option.some.inj h
        have ew:wr (v2+1)=v2+1:=inext (N:=(b.Makers.length:Int)) (by omega) (by omega) (by omega)
        rw [ew]
        exact hK_21 _ (Can.kp (by kernel_rfl))
     ·subst hout
      refine Sa (sT [pR 1 0,(3,jI (p1.length:Int)),(4,.d (.bool ok1)),(49,.d (.sl 1 (List.map e29 b.Makers))),(50,jI (b.Makers.length:Int)),(51,jI v2),(52,.d (.bool (decide (v2<(b.Makers.length:Int)))))] [(0,.var 37 (cv37 b))] 1 0) ?_
      refine AW.seqK (fun K_41 hK_41=>?_)
      refine AW.cond rfl (fun hb_42=>False.elim (by have:=of_decide_eq_true hb_42;omega)) (fun hb_42=>?_)
      refine AW.exit ?_
      refine hK_19 _ ?_
      refine AW.seqK fun K_43 hK_43=>AW.srwK fun Q_44 hQ_44=>?_
      refine Au 2 (sT [(3,jI (p1.length:Int)),(4,.d (.bool ok1)),(76,.d (.sl 2 (List.map e83 b.Seen)))] [] 1 0) ?_
      refine rL rfl ?_
      refine Au 1 (sT [(3,jI (p1.length:Int)),(4,.d (.bool ok1)),(76,.d (.sl 2 (List.map e83 b.Seen))),(77,jI (b.Seen.length:Int)),(78,jI 0)] [] 1 0) ?_
      refine RW.nil (hQ_44 _ ?_)
      refine AW.block ?_
      refine AW.sln (t:=76) rfl (fun hN_45=>?_)
      rw [List.length_map] at hN_45
      obtain ⟨out_45,hx_45,h⟩:=bsome h
      refine AW.evSK (fun (v6:Int) (ok3:Bool)=>(sT [(3,jI (p1.length:Int)),(4,.d (.bool ok3)),(76,.d (.sl 2 (List.map e83 b.Seen))),(77,jI (b.Seen.length:Int)),(78,jI v6)] [] 1 0)) (g25_45 p1) hx_45 (Can.kp (by kernel_rfl)) (fun v6 p4 ok3 hi_45 hl_45 hp_45 c_45 h K_45 hK_45=>?_) (fun v6 ok3 hi_45 hl_45 hout=>?_)
      ·unfold g25_45 at h
       refine Sa (sT [(3,jI (p1.length:Int)),(4,.d (.bool ok3)),(76,.d (.sl 2 (List.map e83 b.Seen))),(77,jI (b.Seen.length:Int)),(78,jI v6),(79,.d (.bool (decide (v6<(b.Seen.length:Int)))))] [] 1 0) ?_
       refine AW.seqK (fun K_46 hK_46=>?_)
       refine AW.cond rfl (fun hb_47=>?_) (fun hb_47=>False.elim (by have:=of_decide_eq_false hb_47;omega))
       refine AW.skip (hK_46 _ ?_)
       refine AW.seqK (fun K_48 hK_48=>?_)
       refine AW.block ?_
       refine AW.srwK (fun Q_49 hQ_49=>?_)
       refine RW.one fokW (r_iaD trivial rfl rfl hi_45 (row:=e83 p4) (mapget hp_45) (r_end ?_))
       refine Au 3 (sT [(3,jI (p1.length:Int)),(4,.d (.bool ok3)),pR 10 1,(76,.d (.sl 2 (List.map e83 b.Seen))),(77,jI (b.Seen.length:Int)),(78,jI v6)] [(1,.var 83 [jI p4.Kind,jI p4.Values])] 2 0) ?_
       refine RW.nil (hQ_49 _ ?_)
       refine AW.rw ?_
       refine Au 2 (sT [(3,jI (p1.length:Int)),pR 10 1,(76,.d (.sl 2 (List.map e83 b.Seen))),(77,jI (b.Seen.length:Int)),(78,jI v6),(83,.d (.bool ok3))] [(1,.var 83 [jI p4.Kind,jI p4.Values])] 2 0) ?_
       obtain ⟨v7,hx_51,h⟩:=bsome h
       refine RW.cut fokW 6 ((sT [(3,jI (p1.length:Int)),pR 10 1,(76,.d (.sl 2 (List.map e83 b.Seen))),(77,jI (b.Seen.length:Int)),(78,jI v6),(89,.d (.bool v7))] [(1,.var 83 [jI p4.Kind,jI p4.Values])] 2 0)) ?_ ?_
       ·refine r_split 83 rfl (fun hb_53=>?_) (fun hb_53=>?_)
        ·have h:=ifT hb_53 hx_51
         refine aX 4 (sT [(3,jI (p1.length:Int)),pR 10 1,(76,.d (.sl 2 (List.map e83 b.Seen))),(77,jI (b.Seen.length:Int)),(78,jI v6),(83,.d (.bool true)),(85,jI p4.Kind),(87,jI (wr ((p1.length:Int) - 1)))] [(1,.var 83 [jI p4.Kind,jI p4.Values])] 2 0) ?_
         obtain ⟨r0_5,hx_52,h⟩:=bsome h
         refine r_call rfl rfl (k39 p4.Kind 0 (wr ((p1.length:Int) - 1)) _ hx_52) rfl rfl ?_
         refine aX 1 (sT [(3,jI (p1.length:Int)),pR 10 1,(76,.d (.sl 2 (List.map e83 b.Seen))),(77,jI (b.Seen.length:Int)),(78,jI v6),(89,.d (.bool r0_5))] [(1,.var 83 [jI p4.Kind,jI p4.Values])] 2 0) ?_
         obtain rfl:=Option.some.inj h
         refine RunC.finJ (Can.kp (by kernel_rfl))
        ·have h:=ifF hb_53 hx_51
         refine aX 6 (sT [(3,jI (p1.length:Int)),pR 10 1,(76,.d (.sl 2 (List.map e83 b.Seen))),(77,jI (b.Seen.length:Int)),(78,jI v6),(89,.d (.bool false))] [(1,.var 83 [jI p4.Kind,jI p4.Values])] 2 0) ?_
         obtain rfl:=Option.some.inj h
         refine RunC.finJ (Can.kp (by kernel_rfl))
       ·refine Au 1 (sT [(3,jI (p1.length:Int)),pR 10 1,(76,.d (.sl 2 (List.map e83 b.Seen))),(77,jI (b.Seen.length:Int)),(78,jI v6),(90,.d (.bool v7))] [(1,.var 83 [jI p4.Kind,jI p4.Values])] 2 0) ?_
        obtain ⟨v8,hx_54,h⟩:=bsome h
        refine RW.cut fokW 4 ((sT [(3,jI (p1.length:Int)),(76,.d (.sl 2 (List.map e83 b.Seen))),(77,jI (b.Seen.length:Int)),(78,jI v6),(94,.d (.bool v8))] [] 2 0)) ?_ ?_
        ·refine r_split 90 rfl (fun hb_56=>?_) (fun hb_56=>?_)
         ·have h:=ifT hb_56 hx_54
          refine aX 2 (sT [(3,jI (p1.length:Int)),(76,.d (.sl 2 (List.map e83 b.Seen))),(77,jI (b.Seen.length:Int)),(78,jI v6),(90,.d (.bool true)),(92,jI p4.Values)] [(1,.var 83 [jI p4.Kind,jI p4.Values])] 2 0) ?_
          obtain ⟨r0_6,hx_55,h⟩:=bsome h
          refine r_call rfl rfl (k39 p4.Values 1 31 _ hx_55) rfl rfl ?_
          refine aX 1 (sT [(3,jI (p1.length:Int)),(76,.d (.sl 2 (List.map e83 b.Seen))),(77,jI (b.Seen.length:Int)),(78,jI v6),(94,.d (.bool r0_6))] [(1,.var 83 [jI p4.Kind,jI p4.Values])] 2 0) ?_
          obtain rfl:=Option.some.inj h
          refine RunC.finJ (Can.kp (by kernel_rfl))
         ·have h:=ifF hb_56 hx_54
          refine aX 4 (sT [(3,jI (p1.length:Int)),(76,.d (.sl 2 (List.map e83 b.Seen))),(77,jI (b.Seen.length:Int)),(78,jI v6),(94,.d (.bool false))] [(1,.var 83 [jI p4.Kind,jI p4.Values])] 2 0) ?_
          obtain rfl:=Option.some.inj h
          refine RunC.finJ (Can.kp (by kernel_rfl))
        ·refine Au 1 (sT [(3,jI (p1.length:Int)),(4,.d (.bool v8)),(76,.d (.sl 2 (List.map e83 b.Seen))),(77,jI (b.Seen.length:Int)),(78,jI v6)] [] 2 0) ?_
         refine RW.nil ?_
         refine hK_48 _ ?_
         refine Ra (sT [(3,jI (p1.length:Int)),(4,.d (.bool v8)),(76,.d (.sl 2 (List.map e83 b.Seen))),(77,jI (b.Seen.length:Int)),(78,jI (wr (v6+1)))] [] 2 0) ?_
         obtain rfl:=Option.some.inj h
         have ew:wr (v6+1)=v6+1:=inext (N:=(b.Seen.length:Int)) (by omega) (by omega) (by omega)
         rw [ew]
         exact hK_45 _ (Can.kp (by kernel_rfl))
      ·subst hout
       refine Sa (sT [(3,jI (p1.length:Int)),(4,.d (.bool ok3)),(76,.d (.sl 2 (List.map e83 b.Seen))),(77,jI (b.Seen.length:Int)),(78,jI v6),(79,.d (.bool (decide (v6<(b.Seen.length:Int)))))] [] 1 0) ?_
       refine AW.seqK (fun K_57 hK_57=>?_)
       refine AW.cond rfl (fun hb_58=>False.elim (by have:=of_decide_eq_true hb_58;omega)) (fun hb_58=>?_)
       refine AW.exit ?_
       refine hK_43 _ ?_
       refine AW.seqK (fun K_59 hK_59=>?_)
       refine Sa (sT [(97,.d (.bool (!ok3)))] [] 1 0) ?_
       refine AW.cond rfl (fun hb_60=>?_) (fun hb_60=>?_)
       ·have h:=ifT hb_60 h
        refine Sa (sT [(2,jI 50)] [] 1 0) ?_
        obtain rfl:=Option.some.inj h
        exact rT hR_0 (.cons (.tmp rfl) .nil)
       ·have h:=ifF hb_60 h
        refine AW.skip (hK_59 _ ?_)
        refine Sa (sT [(2,jI 0)] [] 1 0) ?_
        obtain rfl:=Option.some.inj h
        exact rT hR_0 (.cons (.tmp rfl) .nil)
def g44_24 (seen0:Int) (seen1:Int) (seen2:Int) (seen3:Int) (seen4:Int) (seen5:Int) (v1:Int):Int→Int→(List (Maker_place×Bool))→Option (List (Maker_place×Bool)):=fun v2 p2 m1=>(ixN 6 v2).bind fun j2=>bif (decide ((bAnd p2 ((arrL [seen0,seen1,seen2,seen3,seen4,seen5]) j2))=0)) then ((mput q99 m1 (Maker_place.mk v1 v2) true).bind fun m2=>some m2) else (some m1)
def g44_18 (seen0:Int) (seen1:Int) (seen2:Int) (seen3:Int) (seen4:Int) (seen5:Int):Int→(List Int)→(List (Maker_place×Bool))→Option (List (Maker_place×Bool)):=fun v1 p1 m=>(eachS (g44_24 seen0 seen1 seen2 seen3 seen4 seen5 v1) p1 0 m).bind fun m1=>some m1
def g44_3:Int→MakerMark→(Int×Int×Int×Int×Int×Int)→Option (Int×Int×Int×Int×Int×Int):=fun v p (seen0,seen1,seen2,seen3,seen4,seen5)=>(ixN 6 p.Kind).bind fun j=>(ixN 6 p.Kind).bind fun j1=>some (((aset (arrL [seen0,seen1,seen2,seen3,seen4,seen5]) j1 (bAnd ((arrL [seen0,seen1,seen2,seen3,seen4,seen5]) j) p.Values)) 0),((aset (arrL [seen0,seen1,seen2,seen3,seen4,seen5]) j1 (bAnd ((arrL [seen0,seen1,seen2,seen3,seen4,seen5]) j) p.Values)) 1),((aset (arrL [seen0,seen1,seen2,seen3,seen4,seen5]) j1 (bAnd ((arrL [seen0,seen1,seen2,seen3,seen4,seen5]) j) p.Values)) 2),((aset (arrL [seen0,seen1,seen2,seen3,seen4,seen5]) j1 (bAnd ((arrL [seen0,seen1,seen2,seen3,seen4,seen5]) j) p.Values)) 3),((aset (arrL [seen0,seen1,seen2,seen3,seen4,seen5]) j1 (bAnd ((arrL [seen0,seen1,seen2,seen3,seen4,seen5]) j) p.Values)) 4),((aset (arrL [seen0,seen1,seen2,seen3,seen4,seen5]) j1 (bAnd ((arrL [seen0,seen1,seen2,seen3,seen4,seen5]) j) p.Values)) 5))
def g44 (x:MakerBook):Option (MakerBook×(Nat→Int)×(List (Maker_place×Bool))):=(eachS g44_3 x.Seen 0 (31,31,31,31,31,31)).bind fun (seen0,seen1,seen2,seen3,seen4,seen5)=>bif (false != ((seen0==31)&&((seen1==31)&&((seen2==31)&&((seen3==31)&&((seen4==31)&&((seen5==31)&&true))))))) then (some (x,(arrL [seen0,seen1,seen2,seen3,seen4,seen5]),[])) else ((eachS (g44_18 seen0 seen1 seen2 seen3 seen4 seen5) x.Makers 0 ([]:List (Maker_place×Bool))).bind fun m=>some (x,(arrL [seen0,seen1,seen2,seen3,seen4,seen5]),m))
def y18 (x:MakerBook):List (Nat×Blk):=[(3,.var 78 (catV (cv37 x) [jI 31,jI 31,jI 31,jI 31,jI 31,jI 31,.map 2])),(2,.mp (List.map m99_4 [])),(1,.var 78 [.d (.nilSl),.d (.nilSl),jI 0,jI 0,jI 0,jI 0,jI 0,jI 0,jI 0,jI 0,.d (.nilMap)]),(0,.var 37 (cv37 x))]
def y19 (x:MakerBook) (seen0:Int) (seen1:Int) (seen2:Int) (seen3:Int) (seen4:Int) (seen5:Int):List (Nat×Blk):=[(3,.var 78 (catV (cv37 x) [jI seen0,jI seen1,jI seen2,jI seen3,jI seen4,jI seen5,.map 2])),(2,.mp (List.map m99_4 [])),(1,.var 78 [.d (.nilSl),.d (.nilSl),jI 0,jI 0,jI 0,jI 0,jI 0,jI 0,jI 0,jI 0,.d (.nilMap)]),(0,.var 37 (cv37 x))]
def y20 (x:MakerBook) (seen0:Int) (seen1:Int) (seen2:Int) (seen3:Int) (seen4:Int) (seen5:Int):List (Nat×Blk):=[(3,.var 78 (catV (cv37 x) [jI seen0,jI seen1,jI seen2,jI seen3,jI seen4,jI seen5,.map 2])),(2,.mp (List.map m99_4 [])),(1,.var 78 [.d (.nilSl),.d (.nilSl),jI 0,jI 0,jI 0,jI 0,jI 0,jI 0,jI 0,jI 0,.d (.nilMap)])]
def y21 (x:MakerBook) (seen0:Int) (seen1:Int) (seen2:Int) (seen3:Int) (seen4:Int) (seen5:Int) (m:List (Maker_place×Bool)):List (Nat×Blk):=[(3,.var 78 (catV (cv37 x) [jI seen0,jI seen1,jI seen2,jI seen3,jI seen4,jI seen5,.map 2])),(2,.mp (List.map m99_4 m)),(1,.var 78 [.d (.nilSl),.d (.nilSl),jI 0,jI 0,jI 0,jI 0,jI 0,jI 0,jI 0,jI 0,.d (.nilMap)])]
def y22 (x:MakerBook) (seen0:Int) (seen1:Int) (seen2:Int) (seen3:Int) (seen4:Int) (seen5:Int) (m1:List (Maker_place×Bool)):List (Nat×Blk):=[(3,.var 78 (catV (cv37 x) [jI seen0,jI seen1,jI seen2,jI seen3,jI seen4,jI seen5,.map 2])),(2,.mp (List.map m99_4 m1)),(1,.var 78 [.d (.nilSl),.d (.nilSl),jI 0,jI 0,jI 0,jI 0,jI 0,jI 0,jI 0,jI 0,.d (.nilMap)])]
theorem k44 (x:MakerBook) (r:MakerBook×(Nat→Int)×(List (Maker_place×Bool))) (h:g44 x=some r):SCall Tryd.prog Gs 44 [.agg [.d (.sl 1 (List.map e29 x.Makers)),.d (.sl 2 (List.map e83 x.Seen)),jI x.Repairs,jI x.Fixed]] [] 0 Fr.emp (match r with | (r0_MakerBook1,r0_seen1,mf1)=>.agg [.d (.sl 1 (List.map e29 r0_MakerBook1.Makers)),.d (.sl 2 (List.map e83 r0_MakerBook1.Seen)),jI r0_MakerBook1.Repairs,jI r0_MakerBook1.Fixed,jI (r0_seen1 0),jI (r0_seen1 1),jI (r0_seen1 2),jI (r0_seen1 3),jI (r0_seen1 4),jI (r0_seen1 5),.fmp (List.map m99_4 mf1)]) [] 0 Fr.emp:=by
 unfold g44 at h
 refine SCall.mkK Tryd.func44 c44 rfl rfl (by kernel_rfl) (fun Q_0 hR_0 hN_0=>?_)
 refine Sa (sT [pR 1 0,pR 2 1] [(1,.var 78 [.d (.nilSl),.d (.nilSl),jI 0,jI 0,jI 0,jI 0,jI 0,jI 0,jI 0,jI 0,.d (.nilMap)]),(0,.var 37 (cv37 x))] 2 0) ?_
 refine Sa (sT [pR 1 0,pR 2 1,pR 3 3] (y18 x) 4 0) ?_
 refine AW.seqK fun K_1 hK_1=>AW.srwK fun Q_2 hQ_2=>?_
 refine Au 2 (sT [pR 1 0,pR 2 1,pR 3 3,(15,.d (.sl 2 (List.map e83 x.Seen)))] (y18 x) 4 0) ?_
 refine rL rfl ?_
 refine Au 1 (sT [pR 1 0,pR 2 1,pR 3 3,(15,.d (.sl 2 (List.map e83 x.Seen))),(16,jI (x.Seen.length:Int)),(17,jI 0)] (y18 x) 4 0) ?_
 refine RW.nil (hQ_2 _ ?_)
 refine AW.block ?_
 refine AW.sln (t:=15) rfl (fun hN_3=>?_)
 rw [List.length_map] at hN_3
 obtain ⟨out_3,hx_3,h⟩:=bsome h
 refine AW.evSK (fun (v:Int) (⟨seen0,seen1,seen2,seen3,seen4,seen5⟩:Int×Int×Int×Int×Int×Int)=>(sT [pR 1 0,pR 2 1,pR 3 3,(15,.d (.sl 2 (List.map e83 x.Seen))),(16,jI (x.Seen.length:Int)),(17,jI v)] (y19 x seen0 seen1 seen2 seen3 seen4 seen5) 4 0)) g44_3 hx_3 (Can.kp (by kernel_rfl)) (fun v p s_3 hi_3 hl_3 hp_3 c_3 h K_3 hK_3=>?_) (fun v s_3 hi_3 hl_3 hout=>?_)
 ·obtain ⟨seen0,seen1,seen2,seen3,seen4,seen5⟩:=s_3
  unfold g44_3 at h
  refine Sa (sT [pR 1 0,pR 2 1,pR 3 3,(15,.d (.sl 2 (List.map e83 x.Seen))),(16,jI (x.Seen.length:Int)),(17,jI v),(18,.d (.bool (decide (v<(x.Seen.length:Int)))))] (y19 x seen0 seen1 seen2 seen3 seen4 seen5) 4 0) ?_
  refine AW.seqK (fun K_4 hK_4=>?_)
  refine AW.cond rfl (fun hb_5=>?_) (fun hb_5=>False.elim (by have:=of_decide_eq_false hb_5;omega))
  refine AW.skip (hK_4 _ ?_)
  refine AW.seqK (fun K_6 hK_6=>?_)
  refine AW.block ?_
  refine AW.srwK (fun Q_7 hQ_7=>?_)
  refine RW.one fokW (r_iaD trivial rfl rfl hi_3 (row:=e83 p) (mapget hp_3) (r_end ?_))
  refine Au 3 (sT [pR 1 0,pR 2 1,pR 3 3,pR 5 4,(15,.d (.sl 2 (List.map e83 x.Seen))),(16,jI (x.Seen.length:Int)),(17,jI v)] [(4,.var 83 [jI p.Kind,jI p.Values]),(3,.var 78 (catV (cv37 x) [jI seen0,jI seen1,jI seen2,jI seen3,jI seen4,jI seen5,.map 2])),(2,.mp (List.map m99_4 [])),(1,.var 78 [.d (.nilSl),.d (.nilSl),jI 0,jI 0,jI 0,jI 0,jI 0,jI 0,jI 0,jI 0,.d (.nilMap)]),(0,.var 37 (cv37 x))] 5 0) ?_
  refine RW.nil (hQ_7 _ ?_)
  refine AW.drw fokW ?_
  refine aX 3 (sT [pR 1 0,pR 2 1,pR 3 3,pR 5 4,(15,.d (.sl 2 (List.map e83 x.Seen))),(16,jI (x.Seen.length:Int)),(17,jI v),(22,jI p.Kind),(23,.ptr 3 4)] [(4,.var 83 [jI p.Kind,jI p.Values]),(3,.var 78 (catV (cv37 x) [jI seen0,jI seen1,jI seen2,jI seen3,jI seen4,jI seen5,.map 2])),(2,.mp (List.map m99_4 [])),(1,.var 78 [.d (.nilSl),.d (.nilSl),jI 0,jI 0,jI 0,jI 0,jI 0,jI 0,jI 0,jI 0,.d (.nilMap)]),(0,.var 37 (cv37 x))] 5 0) ?_
  obtain ⟨j,hv_9,h⟩:=bsome h
  refine r_iaV trivial rfl rfl rfl (ixN_ok hv_9).1 (ixN_ok hv_9).2.1 ?_
  refine r_loadV trivial rfl rfl (u:=jI ((arrL [seen0,seen1,seen2,seen3,seen4,seen5]) j)) (agtO (f:=fun k=>jI ((arrL [seen0,seen1,seen2,seen3,seen4,seen5]) k)) hv_9 (by kernel_rfl)) ?_
  refine aX 4 (sT [pR 1 0,pR 2 1,pR 3 3,(15,.d (.sl 2 (List.map e83 x.Seen))),(16,jI (x.Seen.length:Int)),(17,jI v),(22,jI p.Kind),(28,jI (bAnd ((arrL [seen0,seen1,seen2,seen3,seen4,seen5]) j) p.Values)),(29,.ptr 3 4)] [(4,.var 83 [jI p.Kind,jI p.Values]),(3,.var 78 (catV (cv37 x) [jI seen0,jI seen1,jI seen2,jI seen3,jI seen4,jI seen5,.map 2])),(2,.mp (List.map m99_4 [])),(1,.var 78 [.d (.nilSl),.d (.nilSl),jI 0,jI 0,jI 0,jI 0,jI 0,jI 0,jI 0,jI 0,.d (.nilMap)]),(0,.var 37 (cv37 x))] 5 0) ?_
  obtain ⟨j1,hv_10,h⟩:=bsome h
  refine r_iaV trivial rfl rfl rfl (ixN_ok hv_10).1 (ixN_ok hv_10).2.1 ?_
  refine r_stX trivial rfl rfl rfl rfl rfl (aslotO (n:=6) (o:=4) hv_10 (by kernel_rfl)) (cs':=[.d (.sl 1 (List.map e29 x.Makers)),.d (.sl 2 (List.map e83 x.Seen)),jI x.Repairs,jI x.Fixed,jI ((aset (arrL [seen0,seen1,seen2,seen3,seen4,seen5]) j1 (bAnd ((arrL [seen0,seen1,seen2,seen3,seen4,seen5]) j) p.Values)) 0),jI ((aset (arrL [seen0,seen1,seen2,seen3,seen4,seen5]) j1 (bAnd ((arrL [seen0,seen1,seen2,seen3,seen4,seen5]) j) p.Values)) 1),jI ((aset (arrL [seen0,seen1,seen2,seen3,seen4,seen5]) j1 (bAnd ((arrL [seen0,seen1,seen2,seen3,seen4,seen5]) j) p.Values)) 2),jI ((aset (arrL [seen0,seen1,seen2,seen3,seen4,seen5]) j1 (bAnd ((arrL [seen0,seen1,seen2,seen3,seen4,seen5]) j) p.Values)) 3),jI ((aset (arrL [seen0,seen1,seen2,seen3,seen4,seen5]) j1 (bAnd ((arrL [seen0,seen1,seen2,seen3,seen4,seen5]) j) p.Values)) 4),jI ((aset (arrL [seen0,seen1,seen2,seen3,seen4,seen5]) j1 (bAnd ((arrL [seen0,seen1,seen2,seen3,seen4,seen5]) j) p.Values)) 5),.map 2]) (astO (n:=6) (o:=4) (w:=(arrL [seen0,seen1,seen2,seen3,seen4,seen5])) (c:=fun z=>jI z) hv_10 (by kernel_rfl) (by kernel_rfl) (by kernel_rfl)) ?_
  refine Fi (sT [pR 1 0,pR 2 1,pR 3 3,(15,.d (.sl 2 (List.map e83 x.Seen))),(16,jI (x.Seen.length:Int)),(17,jI v)] [(3,.var 78 (catV (cv37 x) [jI ((aset (arrL [seen0,seen1,seen2,seen3,seen4,seen5]) j1 (bAnd ((arrL [seen0,seen1,seen2,seen3,seen4,seen5]) j) p.Values)) 0),jI ((aset (arrL [seen0,seen1,seen2,seen3,seen4,seen5]) j1 (bAnd ((arrL [seen0,seen1,seen2,seen3,seen4,seen5]) j) p.Values)) 1),jI ((aset (arrL [seen0,seen1,seen2,seen3,seen4,seen5]) j1 (bAnd ((arrL [seen0,seen1,seen2,seen3,seen4,seen5]) j) p.Values)) 2),jI ((aset (arrL [seen0,seen1,seen2,seen3,seen4,seen5]) j1 (bAnd ((arrL [seen0,seen1,seen2,seen3,seen4,seen5]) j) p.Values)) 3),jI ((aset (arrL [seen0,seen1,seen2,seen3,seen4,seen5]) j1 (bAnd ((arrL [seen0,seen1,seen2,seen3,seen4,seen5]) j) p.Values)) 4),jI ((aset (arrL [seen0,seen1,seen2,seen3,seen4,seen5]) j1 (bAnd ((arrL [seen0,seen1,seen2,seen3,seen4,seen5]) j) p.Values)) 5),.map 2])),(2,.mp (List.map m99_4 [])),(1,.var 78 [.d (.nilSl),.d (.nilSl),jI 0,jI 0,jI 0,jI 0,jI 0,jI 0,jI 0,jI 0,.d (.nilMap)]),(0,.var 37 (cv37 x))] 5 0) ?_
  refine hK_6 _ ?_
  refine Ra (sT [pR 1 0,pR 2 1,pR 3 3,(15,.d (.sl 2 (List.map e83 x.Seen))),(16,jI (x.Seen.length:Int)),(17,jI (wr (v+1)))] [(3,.var 78 (catV (cv37 x) [jI ((aset (arrL [seen0,seen1,seen2,seen3,seen4,seen5]) j1 (bAnd ((arrL [seen0,seen1,seen2,seen3,seen4,seen5]) j) p.Values)) 0),jI ((aset (arrL [seen0,seen1,seen2,seen3,seen4,seen5]) j1 (bAnd ((arrL [seen0,seen1,seen2,seen3,seen4,seen5]) j) p.Values)) 1),jI ((aset (arrL [seen0,seen1,seen2,seen3,seen4,seen5]) j1 (bAnd ((arrL [seen0,seen1,seen2,seen3,seen4,seen5]) j) p.Values)) 2),jI ((aset (arrL [seen0,seen1,seen2,seen3,seen4,seen5]) j1 (bAnd ((arrL [seen0,seen1,seen2,seen3,seen4,seen5]) j) p.Values)) 3),jI ((aset (arrL [seen0,seen1,seen2,seen3,seen4,seen5]) j1 (bAnd ((arrL [seen0,seen1,seen2,seen3,seen4,seen5]) j) p.Values)) 4),jI ((aset (arrL [seen0,seen1,seen2,seen3,seen4,seen5]) j1 (bAnd ((arrL [seen0,seen1,seen2,seen3,seen4,seen5]) j) p.Values)) 5),.map 2])),(2,.mp (List.map m99_4 [])),(1,.var 78 [.d (.nilSl),.d (.nilSl),jI 0,jI 0,jI 0,jI 0,jI 0,jI 0,jI 0,jI 0,.d (.nilMap)]),(0,.var 37 (cv37 x))] 5 0) ?_
  obtain rfl:=Option.some.inj h
  have ew:wr (v+1)=v+1:=inext (N:=(x.Seen.length:Int)) (by omega) (by omega) (by omega)
  rw [ew]
  exact hK_3 _ (Can.kp (by kernel_rfl))
 ·obtain ⟨seen0,seen1,seen2,seen3,seen4,seen5⟩:=s_3
  subst hout
  refine Sa (sT [pR 1 0,pR 2 1,pR 3 3,(15,.d (.sl 2 (List.map e83 x.Seen))),(16,jI (x.Seen.length:Int)),(17,jI v),(18,.d (.bool (decide (v<(x.Seen.length:Int)))))] (y19 x seen0 seen1 seen2 seen3 seen4 seen5) 4 0) ?_
  refine AW.seqK (fun K_11 hK_11=>?_)
  refine AW.cond rfl (fun hb_12=>False.elim (by have:=of_decide_eq_true hb_12;omega)) (fun hb_12=>?_)
  refine AW.exit ?_
  refine hK_1 _ ?_
  refine AW.seqK fun K_13 hK_13=>AW.srwK fun Q_14 hQ_14=>?_
  refine Au 3 (sT [pR 1 0,pR 2 1,pR 3 3,(33,.agg [jI seen0,jI seen1,jI seen2,jI seen3,jI seen4,jI seen5]),(34,.agg [jI 31,jI 31,jI 31,jI 31,jI 31,jI 31])] (y19 x seen0 seen1 seen2 seen3 seen4 seen5) 4 0) ?_
  refine RW.one fokW (r_aeq trivial rfl rfl rfl rfl ft75 rfl rfl rfl (r_end ?_))
  refine RW.nil (hQ_14 _ ?_)
  refine AW.cond rfl (fun hb_15=>?_) (fun hb_15=>?_)
  ·have h:=ifT hb_15 h
   refine Sa (sT [pR 2 1] [(1,.var 78 (catV (cv37 x) [jI seen0,jI seen1,jI seen2,jI seen3,jI seen4,jI seen5,.map 2])),(2,.mp (List.map m99_4 []))] 4 0) ?_
   obtain rfl:=Option.some.inj h
   exact AW.ret (hR_0 _ (retXM (.cons (.agg rfl rfl (Nat.le_of_ble_eq_true rfl)) .nil) (FrzR.agg_of ⟨.of (.refl _),.of (.refl _),.of (.refl _),.of (.refl _),.of (.refl _),.of (.refl _),.of (.refl _),.of (.refl _),.of (.refl _),.of (.refl _),.mp rfl,trivial⟩) rfl (by kernel_rfl) (by kernel_rfl)))
  ·have h:=ifF hb_15 h
   refine AW.skip (hK_13 _ ?_)
   refine AW.seqK fun K_16 hK_16=>AW.srwK fun Q_17 hQ_17=>?_
   refine Au 2 (sT [pR 2 1,pR 3 3,(38,.d (.sl 1 (List.map e29 x.Makers)))] (y20 x seen0 seen1 seen2 seen3 seen4 seen5) 4 0) ?_
   refine rL rfl ?_
   refine Au 1 (sT [pR 2 1,pR 3 3,(38,.d (.sl 1 (List.map e29 x.Makers))),(39,jI (x.Makers.length:Int)),(40,jI 0)] (y20 x seen0 seen1 seen2 seen3 seen4 seen5) 4 0) ?_
   refine RW.nil (hQ_17 _ ?_)
   refine AW.block ?_
   refine AW.sln (t:=38) rfl (fun hN_18=>?_)
   rw [List.length_map] at hN_18
   obtain ⟨out_18,hx_18,h⟩:=bsome h
   refine AW.evSK (fun (v1:Int) (m:List (Maker_place×Bool))=>(sT [pR 2 1,pR 3 3,(38,.d (.sl 1 (List.map e29 x.Makers))),(39,jI (x.Makers.length:Int)),(40,jI v1)] (y21 x seen0 seen1 seen2 seen3 seen4 seen5 m) 4 0)) (g44_18 seen0 seen1 seen2 seen3 seen4 seen5) hx_18 (Can.kp (by kernel_rfl)) (fun v1 p1 m hi_18 hl_18 hp_18 c_18 h K_18 hK_18=>?_) (fun v1 m hi_18 hl_18 hout=>?_)
   ·unfold g44_18 at h
    refine Sa (sT [pR 2 1,pR 3 3,(38,.d (.sl 1 (List.map e29 x.Makers))),(39,jI (x.Makers.length:Int)),(40,jI v1),(41,.d (.bool (decide (v1<(x.Makers.length:Int)))))] (y21 x seen0 seen1 seen2 seen3 seen4 seen5 m) 4 0) ?_
    refine AW.seqK (fun K_19 hK_19=>?_)
    refine AW.cond rfl (fun hb_20=>?_) (fun hb_20=>False.elim (by have:=of_decide_eq_false hb_20;omega))
    refine AW.skip (hK_19 _ ?_)
    refine AW.seqK (fun K_21 hK_21=>?_)
    refine AW.block ?_
    refine AW.srwK (fun Q_22 hQ_22=>?_)
    refine Au 1 (sT [pR 2 1,pR 3 3,(38,.d (.sl 1 (List.map e29 x.Makers))),(39,jI (x.Makers.length:Int)),(40,jI v1),(42,jI v1)] (y21 x seen0 seen1 seen2 seen3 seen4 seen5 m) 4 0) ?_
    refine RW.one fokW (r_iaD trivial rfl rfl hi_18 (row:=e29 p1) (mapget hp_18) (r_end ?_))
    refine Au 3 (sT [pR 2 1,pR 3 3,(6,jI v1),(7,.d (.sl 1 (List.map e3 p1))),(38,.d (.sl 1 (List.map e29 x.Makers))),(39,jI (x.Makers.length:Int)),(40,jI v1)] (y21 x seen0 seen1 seen2 seen3 seen4 seen5 m) 4 0) ?_
    refine RW.nil (hQ_22 _ ?_)
    refine AW.srwK (fun Q_23 hQ_23=>?_)
    refine Au 1 (sT [pR 2 1,pR 3 3,(6,jI v1),(38,.d (.sl 1 (List.map e29 x.Makers))),(39,jI (x.Makers.length:Int)),(40,jI v1),(45,.d (.sl 1 (List.map e3 p1)))] (y21 x seen0 seen1 seen2 seen3 seen4 seen5 m) 4 0) ?_
    refine rL rfl ?_
    refine Au 1 (sT [pR 2 1,pR 3 3,(6,jI v1),(38,.d (.sl 1 (List.map e29 x.Makers))),(39,jI (x.Makers.length:Int)),(40,jI v1),(45,.d (.sl 1 (List.map e3 p1))),(46,jI (p1.length:Int)),(47,jI 0)] (y21 x seen0 seen1 seen2 seen3 seen4 seen5 m) 4 0) ?_
    refine RW.nil (hQ_23 _ ?_)
    refine AW.block ?_
    refine AW.sln (t:=45) rfl (fun hN_24=>?_)
    rw [List.length_map] at hN_24
    obtain ⟨out_24,hx_24,h⟩:=bsome h
    refine AW.evSK (fun (v2:Int) (m1:List (Maker_place×Bool))=>(sT [pR 2 1,pR 3 3,(6,jI v1),(38,.d (.sl 1 (List.map e29 x.Makers))),(39,jI (x.Makers.length:Int)),(40,jI v1),(45,.d (.sl 1 (List.map e3 p1))),(46,jI (p1.length:Int)),(47,jI v2)] (y22 x seen0 seen1 seen2 seen3 seen4 seen5 m1) 4 0)) (g44_24 seen0 seen1 seen2 seen3 seen4 seen5 v1) hx_24 (Can.kp (by kernel_rfl)) (fun v2 p2 m1 hi_24 hl_24 hp_24 c_24 h K_24 hK_24=>?_) (fun v2 m1 hi_24 hl_24 hout=>?_)
    ·unfold g44_24 at h
     refine Sa (sT [pR 2 1,pR 3 3,(6,jI v1),(38,.d (.sl 1 (List.map e29 x.Makers))),(39,jI (x.Makers.length:Int)),(40,jI v1),(45,.d (.sl 1 (List.map e3 p1))),(46,jI (p1.length:Int)),(47,jI v2),(48,.d (.bool (decide (v2<(p1.length:Int)))))] (y22 x seen0 seen1 seen2 seen3 seen4 seen5 m1) 4 0) ?_
     refine AW.seqK (fun K_25 hK_25=>?_)
     refine AW.cond rfl (fun hb_26=>?_) (fun hb_26=>False.elim (by have:=of_decide_eq_false hb_26;omega))
     refine AW.skip (hK_25 _ ?_)
     refine AW.seqK (fun K_27 hK_27=>?_)
     refine AW.block ?_
     refine AW.srwK (fun Q_28 hQ_28=>?_)
     refine Au 1 (sT [pR 2 1,pR 3 3,(6,jI v1),(38,.d (.sl 1 (List.map e29 x.Makers))),(39,jI (x.Makers.length:Int)),(40,jI v1),(45,.d (.sl 1 (List.map e3 p1))),(46,jI (p1.length:Int)),(47,jI v2),(49,jI v2)] (y22 x seen0 seen1 seen2 seen3 seen4 seen5 m1) 4 0) ?_
     refine RW.one fokW (r_iaD trivial rfl rfl hi_24 (row:=e3 p2) (mapget hp_24) (r_end ?_))
     refine Au 3 (sT [pR 2 1,pR 3 3,(6,jI v1),(8,jI v2),(9,jI p2),(38,.d (.sl 1 (List.map e29 x.Makers))),(39,jI (x.Makers.length:Int)),(40,jI v1),(45,.d (.sl 1 (List.map e3 p1))),(46,jI (p1.length:Int)),(47,jI v2)] (y22 x seen0 seen1 seen2 seen3 seen4 seen5 m1) 4 0) ?_
     refine RW.nil (hQ_28 _ ?_)
     refine AW.srwK (fun Q_29 hQ_29=>?_)
     refine Au 3 (sT [pR 2 1,pR 3 3,(6,jI v1),(8,jI v2),(38,.d (.sl 1 (List.map e29 x.Makers))),(39,jI (x.Makers.length:Int)),(40,jI v1),(45,.d (.sl 1 (List.map e3 p1))),(46,jI (p1.length:Int)),(47,jI v2),(52,jI p2),(53,jI v2),(54,.ptr 3 4)] (y22 x seen0 seen1 seen2 seen3 seen4 seen5 m1) 4 0) ?_
     obtain ⟨j2,hv_30,h⟩:=bsome h
     refine RW.one fokW (r_iaV trivial rfl rfl rfl (ixN_ok hv_30).1 (ixN_ok hv_30).2.1 (r_end ?_))
     refine RW.one fokW (r_loadV trivial rfl rfl (u:=jI ((arrL [seen0,seen1,seen2,seen3,seen4,seen5]) j2)) (agtO (f:=fun k=>jI ((arrL [seen0,seen1,seen2,seen3,seen4,seen5]) k)) hv_30 (by kernel_rfl)) (r_end ?_))
     refine Au 2 (sT [pR 2 1,pR 3 3,(6,jI v1),(8,jI v2),(38,.d (.sl 1 (List.map e29 x.Makers))),(39,jI (x.Makers.length:Int)),(40,jI v1),(45,.d (.sl 1 (List.map e3 p1))),(46,jI (p1.length:Int)),(47,jI v2),(58,.d (.bool (decide ((bAnd p2 ((arrL [seen0,seen1,seen2,seen3,seen4,seen5]) j2))=0))))] (y22 x seen0 seen1 seen2 seen3 seen4 seen5 m1) 4 0) ?_
     refine RW.nil (hQ_29 _ ?_)
     refine AW.cond rfl (fun hb_31=>?_) (fun hb_31=>?_)
     ·have h:=ifT hb_31 h
      refine AW.rw ?_
      refine Au 5 (sT [pR 2 1,pR 3 3,(6,jI v1),(38,.d (.sl 1 (List.map e29 x.Makers))),(39,jI (x.Makers.length:Int)),(40,jI v1),(45,.d (.sl 1 (List.map e3 p1))),(46,jI (p1.length:Int)),(47,jI v2),(60,.map 2),(63,.agg [jI v1,jI v2])] (y22 x seen0 seen1 seen2 seen3 seen4 seen5 m1) 4 0) ?_
      obtain ⟨m2,hv_33,h⟩:=bsome h
      refine RW.one fokW (r_mput q99 e99 (fun x=>DV.c (.bool x)) trivial rfl rfl rfl rfl ft99 q99_ok (fun _=>rfl) rfl hv_33 (r_end ?_))
      refine RW.nil ?_
      refine hK_27 _ ?_
      refine Ra (sT [pR 2 1,pR 3 3,(6,jI v1),(38,.d (.sl 1 (List.map e29 x.Makers))),(39,jI (x.Makers.length:Int)),(40,jI v1),(45,.d (.sl 1 (List.map e3 p1))),(46,jI (p1.length:Int)),(47,jI (wr (v2+1)))] [(2,.mp (List.map m99_4 m2)),(3,.var 78 (catV (cv37 x) [jI seen0,jI seen1,jI seen2,jI seen3,jI seen4,jI seen5,.map 2])),(1,.var 78 [.d (.nilSl),.d (.nilSl),jI 0,jI 0,jI 0,jI 0,jI 0,jI 0,jI 0,jI 0,.d (.nilMap)])] 4 0) ?_
      obtain rfl:=Option.some.inj h
      have ew:wr (v2+1)=v2+1:=inext (N:=(p1.length:Int)) (by omega) (by omega) (by omega)
      rw [ew]
      exact hK_24 _ (Can.kp (by kernel_rfl))
     ·have h:=ifF hb_31 h
      refine AW.skip (hK_27 _ ?_)
      refine Ra (sT [pR 2 1,pR 3 3,(6,jI v1),(38,.d (.sl 1 (List.map e29 x.Makers))),(39,jI (x.Makers.length:Int)),(40,jI v1),(45,.d (.sl 1 (List.map e3 p1))),(46,jI (p1.length:Int)),(47,jI (wr (v2+1)))] (y22 x seen0 seen1 seen2 seen3 seen4 seen5 m1) 4 0) ?_
      obtain rfl:=Option.some.inj h
      have ew:wr (v2+1)=v2+1:=inext (N:=(p1.length:Int)) (by omega) (by omega) (by omega)
      rw [ew]
      exact hK_24 _ (Can.kp (by kernel_rfl))
    ·subst hout
     refine Sa (sT [pR 2 1,pR 3 3,(6,jI v1),(38,.d (.sl 1 (List.map e29 x.Makers))),(39,jI (x.Makers.length:Int)),(40,jI v1),(45,.d (.sl 1 (List.map e3 p1))),(46,jI (p1.length:Int)),(47,jI v2),(48,.d (.bool (decide (v2<(p1.length:Int)))))] (y22 x seen0 seen1 seen2 seen3 seen4 seen5 m1) 4 0) ?_
     refine AW.seqK (fun K_34 hK_34=>?_)
     refine AW.cond rfl (fun hb_35=>False.elim (by have:=of_decide_eq_true hb_35;omega)) (fun hb_35=>?_)
     refine AW.exit ?_
     refine hK_21 _ ?_
     refine Ra (sT [pR 2 1,pR 3 3,(38,.d (.sl 1 (List.map e29 x.Makers))),(39,jI (x.Makers.length:Int)),(40,jI (wr (v1+1)))] (y22 x seen0 seen1 seen2 seen3 seen4 seen5 m1) 4 0) ?_
     obtain rfl:=Option.some.inj h
     have ew:wr (v1+1)=v1+1:=inext (N:=(x.Makers.length:Int)) (by omega) (by omega) (by omega)
     rw [ew]
     exact hK_18 _ (Can.kp (by kernel_rfl))
   ·subst hout
    refine Sa (sT [pR 2 1,pR 3 3,(38,.d (.sl 1 (List.map e29 x.Makers))),(39,jI (x.Makers.length:Int)),(40,jI v1),(41,.d (.bool (decide (v1<(x.Makers.length:Int)))))] (y21 x seen0 seen1 seen2 seen3 seen4 seen5 m) 4 0) ?_
    refine AW.seqK (fun K_36 hK_36=>?_)
    refine AW.cond rfl (fun hb_37=>False.elim (by have:=of_decide_eq_true hb_37;omega)) (fun hb_37=>?_)
    refine AW.exit ?_
    refine hK_16 _ ?_
    refine Sa (sT [pR 2 1] [(1,.var 78 (catV (cv37 x) [jI seen0,jI seen1,jI seen2,jI seen3,jI seen4,jI seen5,.map 2])),(2,.mp (List.map m99_4 m))] 4 0) ?_
    obtain rfl:=Option.some.inj h
    exact AW.ret (hR_0 _ (retXM (.cons (.agg rfl rfl (Nat.le_of_ble_eq_true rfl)) .nil) (FrzR.agg_of ⟨.of (.refl _),.of (.refl _),.of (.refl _),.of (.refl _),.of (.refl _),.of (.refl _),.of (.refl _),.of (.refl _),.of (.refl _),.of (.refl _),.mp rfl,trivial⟩) rfl (by kernel_rfl) (by kernel_rfl)))
def g49 (b_MakerBook:MakerBook) (b_seen:(Nat→Int)) (mf:List (Maker_place×Bool)):Option Int:=(ixL b_MakerBook.Makers 0).bind fun p=>some (p.length:Int)
theorem k49 (b_MakerBook:MakerBook) (b_seen:(Nat→Int)) (mf:List (Maker_place×Bool)) (r:Int) (h:g49 b_MakerBook b_seen mf=some r):SCall Tryd.prog Gs 49 [.agg [.d (.sl 1 (List.map e29 b_MakerBook.Makers)),.d (.sl 2 (List.map e83 b_MakerBook.Seen)),jI b_MakerBook.Repairs,jI b_MakerBook.Fixed,jI (b_seen 0),jI (b_seen 1),jI (b_seen 2),jI (b_seen 3),jI (b_seen 4),jI (b_seen 5),.fmp (List.map m99_4 mf)]] [] 0 Fr.emp (jI r) [] 0 Fr.emp:=by
 unfold g49 at h
 refine SCall.mkK Tryd.func49 c49 rfl rfl (by kernel_rfl) (fun Q_0 hR_0 hN_0=>?_)
 refine Sa (sT [pR 1 0] [(0,.var 78 (catV (cv37 b_MakerBook) [jI (b_seen 0),jI (b_seen 1),jI (b_seen 2),jI (b_seen 3),jI (b_seen 4),jI (b_seen 5),.fmp (List.map m99_4 mf)]))] 1 0) ?_
 refine AW.srwK (fun Q_1 hQ_1=>?_)
 refine Au 3 (sT [(5,.d (.sl 1 (List.map e29 b_MakerBook.Makers)))] [] 1 0) ?_
 obtain ⟨p,hv_2,h⟩:=bsome h
 refine RW.one fokW (r_iaD trivial rfl rfl (ixL_ok hv_2).1 (row:=e29 p) (mapget (ixL_ok hv_2).2) (r_end ?_))
 refine Au 1 (sT [(7,.d (.sl 1 (List.map e3 p)))] [] 1 0) ?_
 refine rL rfl ?_
 refine Au 1 (sT [(2,jI (p.length:Int))] [] 1 0) ?_
 refine RW.nil (hQ_1 _ ?_)
 obtain rfl:=Option.some.inj h
 exact rT hR_0 (.cons (.tmp rfl) .nil)
def g48_3 (v:Int):Int→Int→Unit→Option (Ctl (Unit) (Int)):=fun v1 p _=>bif (decide (v=p)) then (some (.brk v1)) else (some (.next ()))
def g48 (s:(List Int)) (v:Int):Option Int:=bindC (eachC (g48_3 v) s 0 ()) fun _=>some (-1)
theorem k48 (s:(List Int)) (v:Int) (r:Int) (h:g48 s v=some r):SCall Tryd.prog Gs 48 [.d (.sl 1 (List.map e3 s)),jI v] [] 0 Fr.emp (jI r) [] 0 Fr.emp:=by
 unfold g48 at h
 refine SCall.mkK Tryd.func48 c48 rfl rfl (by kernel_rfl) (fun Q_0 hR_0 hN_0=>?_)
 refine Sa (sT [(0,.d (.sl 1 (List.map e3 s))),(1,jI v)] [] 0 0) ?_
 refine AW.seqK fun K_1 hK_1=>AW.srwK fun Q_2 hQ_2=>?_
 refine Au 1 (sT [(0,.d (.sl 1 (List.map e3 s))),(1,jI v),(6,.d (.sl 1 (List.map e3 s)))] [] 0 0) ?_
 refine rL rfl ?_
 refine Au 1 (sT [(0,.d (.sl 1 (List.map e3 s))),(1,jI v),(7,jI (s.length:Int)),(8,jI 0)] [] 0 0) ?_
 refine RW.nil (hQ_2 _ ?_)
 refine AW.block ?_
 refine AW.sln (t:=0) rfl (fun hN_3=>?_)
 rw [List.length_map] at hN_3
 obtain ⟨out_3,hx_3,hk_3⟩:=bsomeC h
 refine AW.evCK (fun (v1:Int) (_:Unit)=>(sT [(0,.d (.sl 1 (List.map e3 s))),(1,jI v),(7,jI (s.length:Int)),(8,jI v1)] [] 0 0)) (g48_3 v) hx_3 (Can.kp (by kernel_rfl)) (fun v1 p s_3 hi_3 hl_3 hp_3 c_3 h hb_3 K_3 hK_3=>?_) (fun v1 s_3 hi_3 hl_3 hout=>?_)
 ·unfold g48_3 at h
  refine Sa (sT [(0,.d (.sl 1 (List.map e3 s))),(1,jI v),(7,jI (s.length:Int)),(8,jI v1),(9,.d (.bool (decide (v1<(s.length:Int)))))] [] 0 0) ?_
  refine AW.seqK (fun K_4 hK_4=>?_)
  refine AW.cond rfl (fun hb_5=>?_) (fun hb_5=>False.elim (by have:=of_decide_eq_false hb_5;omega))
  refine AW.skip (hK_4 _ ?_)
  refine AW.seqK (fun K_6 hK_6=>?_)
  refine AW.block ?_
  refine Sa (sT [(0,.d (.sl 1 (List.map e3 s))),(1,jI v),(5,jI v1),(7,jI (s.length:Int)),(8,jI v1)] [] 0 0) ?_
  refine AW.srwK (fun Q_7 hQ_7=>?_)
  refine Au 3 (sT [(0,.d (.sl 1 (List.map e3 s))),(1,jI v),(5,jI v1),(7,jI (s.length:Int)),(8,jI v1),(11,jI v),(12,.d (.sl 1 (List.map e3 s))),(13,jI v1)] [] 0 0) ?_
  refine RW.one fokW (r_iaD trivial rfl rfl hi_3 (row:=e3 p) (mapget hp_3) (r_end ?_))
  refine Au 2 (sT [(0,.d (.sl 1 (List.map e3 s))),(1,jI v),(5,jI v1),(7,jI (s.length:Int)),(8,jI v1),(16,.d (.bool (decide (v=p))))] [] 0 0) ?_
  refine RW.nil (hQ_7 _ ?_)
  refine AW.cond rfl (fun hb_8=>?_) (fun hb_8=>?_)
  ·have h:=ifT hb_8 h
   refine Sa (sT [(4,jI v1)] [] 0 0) ?_
   obtain rfl:=Option.some.inj h
   have e_1:=hb_3 _ rfl
   subst e_1
   obtain rfl:=Aft.bk hk_3
   exact rT hR_0 (.cons (.tmp rfl) .nil)
  ·have h:=ifF hb_8 h
   refine AW.skip (hK_6 _ ?_)
   refine Ra (sT [(0,.d (.sl 1 (List.map e3 s))),(1,jI v),(7,jI (s.length:Int)),(8,jI (wr (v1+1)))] [] 0 0) ?_
   obtain rfl:=Option.some.inj h
   have ew:wr (v1+1)=v1+1:=inext (N:=(s.length:Int)) (by omega) (by omega) (by omega)
   rw [ew]
   exact hK_3 _ _ rfl (Can.kp (by kernel_rfl))
 ·subst hout
  have h:=Aft.nx hk_3
  refine Sa (sT [(0,.d (.sl 1 (List.map e3 s))),(1,jI v),(7,jI (s.length:Int)),(8,jI v1),(9,.d (.bool (decide (v1<(s.length:Int)))))] [] 0 0) ?_
  refine AW.seqK (fun K_9 hK_9=>?_)
  refine AW.cond rfl (fun hb_10=>False.elim (by have:=of_decide_eq_true hb_10;omega)) (fun hb_10=>?_)
  refine AW.exit ?_
  refine hK_1 _ ?_
  refine Sa (sT [(4,jI (-1))] [] 0 0) ?_
  obtain rfl:=Option.some.inj h
  exact rT hR_0 (.cons (.tmp rfl) .nil)
def g37 (s:(List Int)) (v:Int):Option Bool:=(g48 s v).bind fun r0_1=>some (decide (0≤r0_1))
theorem k37 (s:(List Int)) (v:Int) (r:Bool) (h:g37 s v=some r):SCall Tryd.prog Gs 37 [.d (.sl 1 (List.map e3 s)),jI v] [] 0 Fr.emp (.d (.bool r)) [] 0 Fr.emp:=by
 unfold g37 at h
 refine SCall.mkK Tryd.func37 c37 rfl rfl (by kernel_rfl) (fun Q_0 hR_0 hN_0=>?_)
 refine Sa (sT [(0,.d (.sl 1 (List.map e3 s))),(1,jI v)] [] 0 0) ?_
 refine AW.srwK (fun Q_1 hQ_1=>?_)
 refine Au 2 (sT [(5,.d (.sl 1 (List.map e3 s))),(6,jI v)] [] 0 0) ?_
 obtain ⟨r0_1,hx_2,h⟩:=bsome h
 refine rC (k48 s v _ hx_2) ?_
 refine Au 2 (sT [(4,.d (.bool (decide (0≤r0_1))))] [] 0 0) ?_
 refine RW.nil (hQ_1 _ ?_)
 obtain rfl:=Option.some.inj h
 exact rT hR_0 (.cons (.tmp rfl) .nil)
def g45 (b_MakerBook:MakerBook) (b_seen:(Nat→Int)) (mf:List (Maker_place×Bool)):Option Bool:=(g49 b_MakerBook b_seen mf).bind fun r0=>(subA 6 b_seen 0 r0).bind fun l=>(g37 l 0).bind fun r0_1=>some (!r0_1)
def y23 (b_MakerBook:MakerBook) (b_seen:(Nat→Int)) (mf:List (Maker_place×Bool)):List (Nat×Blk):=[(0,.var 78 (catV (cv37 b_MakerBook) [jI (b_seen 0),jI (b_seen 1),jI (b_seen 2),jI (b_seen 3),jI (b_seen 4),jI (b_seen 5),.fmp (List.map m99_4 mf)]))]
theorem k45 (b_MakerBook:MakerBook) (b_seen:(Nat→Int)) (mf:List (Maker_place×Bool)) (r:Bool) (h:g45 b_MakerBook b_seen mf=some r):SCall Tryd.prog Gs 45 [.agg [.d (.sl 1 (List.map e29 b_MakerBook.Makers)),.d (.sl 2 (List.map e83 b_MakerBook.Seen)),jI b_MakerBook.Repairs,jI b_MakerBook.Fixed,jI (b_seen 0),jI (b_seen 1),jI (b_seen 2),jI (b_seen 3),jI (b_seen 4),jI (b_seen 5),.fmp (List.map m99_4 mf)]] [] 0 Fr.emp (.d (.bool r)) [] 0 Fr.emp:=by
 unfold g45 at h
 refine SCall.mkK Tryd.func45 c45 rfl rfl (by kernel_rfl) (fun Q_0 hR_0 hN_0=>?_)
 refine Sa (sT [pR 1 0] (y23 b_MakerBook b_seen mf) 1 0) ?_
 refine AW.srwK (fun Q_1 hQ_1=>?_)
 refine Au 2 (sT [(3,.ptr 0 4),(4,.agg [.d (.sl 1 (List.map e29 b_MakerBook.Makers)),.d (.sl 2 (List.map e83 b_MakerBook.Seen)),jI b_MakerBook.Repairs,jI b_MakerBook.Fixed,jI (b_seen 0),jI (b_seen 1),jI (b_seen 2),jI (b_seen 3),jI (b_seen 4),jI (b_seen 5),.fmp (List.map m99_4 mf)])] (y23 b_MakerBook b_seen mf) 1 0) ?_
 obtain ⟨r0,hx_2,h⟩:=bsome h
 refine rC (k49 b_MakerBook b_seen mf _ hx_2) ?_
 obtain ⟨l,hv_3,h⟩:=bsome h
 refine RW.one fokW (r_slcA hv_3 trivial rfl rfl rfl rfl rfl (r_end ?_))
 obtain ⟨r0_1,hx_4,h⟩:=bsome h
 refine RW.one fokW (r_callB (rs:=[(0,.var 78 (catV (cv37 b_MakerBook) [jI (b_seen 0),jI (b_seen 1),jI (b_seen 2),jI (b_seen 3),jI (b_seen 4),jI (b_seen 5),.fmp (List.map m99_4 mf)]))]) trivial rfl (k37 l 0 _ hx_4) ⟨rfl,trivial⟩ ⟨brw_arrO (c:=fun z=>I z) hv_3 rfl rfl (Nat.sub_le_sub_right (show (r0:Int).toNat≤6 from by have:=subA_ok hv_3;omega) _),.refl _,trivial⟩ rfl rfl rfl (r_end ?_))
 refine Au 2 (sT [(2,.d (.bool (!r0_1)))] [] 1 0) ?_
 refine RW.nil (hQ_1 _ ?_)
 obtain rfl:=Option.some.inj h
 exact rT hR_0 (.cons (.tmp rfl) .nil)
def g31 (x:MakerBook) (is:Bool):Option (Ctl (MakerBook×(Nat→Int)×Int) (MakerBook×(Nat→Int)×(List (Maker_place×Bool))×Int)):=(g25 x).bind fun r0_9=>bif (decide (r0_9≠0)) then (some (.next ((MakerBook.mk [] [] 0 0),(arrL [0,0,0,0,0,0]),r0_9))) else (bif (!is) then (some (.next ((MakerBook.mk [] [] 0 0),(arrL [0,0,0,0,0,0]),51))) else ((g44 x).bind fun (r0_MakerBook1,r0_seen1,mf1)=>(g45 r0_MakerBook1 r0_seen1 mf1).bind fun r0_2=>bif (!r0_2) then (some (.brk (r0_MakerBook1,r0_seen1,mf1,52))) else (some (.brk (r0_MakerBook1,r0_seen1,mf1,0)))))
def y24 (x:MakerBook):List (Nat×Blk):=[(1,.var 78 [.d (.nilSl),.d (.nilSl),jI 0,jI 0,jI 0,jI 0,jI 0,jI 0,jI 0,jI 0,.d (.nilMap)]),(0,.var 37 (cv37 x))]
def y25:List (Nat×Blk):=[(1,.var 78 [.d (.nilSl),.d (.nilSl),jI 0,jI 0,jI 0,jI 0,jI 0,jI 0,jI 0,jI 0,.d (.nilMap)])]
theorem k31 (x:MakerBook) (is:Bool) (r:Ctl (MakerBook×(Nat→Int)×Int) (MakerBook×(Nat→Int)×(List (Maker_place×Bool))×Int)) (h:g31 x is=some r):SCall Tryd.prog Gs 31 [.agg [.d (.sl 1 (List.map e29 x.Makers)),.d (.sl 2 (List.map e83 x.Seen)),jI x.Repairs,jI x.Fixed],.d (.bool is)] [] 0 Fr.emp (match r with | .next (r0_MakerBook5,r0_seen5,r1_2)=>.tup [.agg [.d (.sl 1 (List.map e29 r0_MakerBook5.Makers)),.d (.sl 2 (List.map e83 r0_MakerBook5.Seen)),jI r0_MakerBook5.Repairs,jI r0_MakerBook5.Fixed,jI (r0_seen5 0),jI (r0_seen5 1),jI (r0_seen5 2),jI (r0_seen5 3),jI (r0_seen5 4),jI (r0_seen5 5),.d (.nilMap)],jI r1_2] | .brk (r0_MakerBook6,r0_seen6,mf2,r1_3)=>.tup [.agg [.d (.sl 1 (List.map e29 r0_MakerBook6.Makers)),.d (.sl 2 (List.map e83 r0_MakerBook6.Seen)),jI r0_MakerBook6.Repairs,jI r0_MakerBook6.Fixed,jI (r0_seen6 0),jI (r0_seen6 1),jI (r0_seen6 2),jI (r0_seen6 3),jI (r0_seen6 4),jI (r0_seen6 5),.fmp (List.map m99_4 mf2)],jI r1_3]) [] 0 Fr.emp:=by
 unfold g31 at h
 refine SCall.mkK Tryd.func31 c31 rfl (by rcases r with _ | _<;>rfl) (by rcases r with _ | _<;>kernel_rfl) (fun Q_0 hR_0 hN_0=>?_)
 refine Sa (sT [(1,.d (.bool is)),pR 2 0,pR 4 1] (y24 x) 2 0) ?_
 refine AW.seqK fun K_1 hK_1=>AW.srwK fun Q_2 hQ_2=>?_
 refine Au 1 (sT [(1,.d (.bool is)),pR 2 0,pR 4 1,(8,.agg [.d (.sl 1 (List.map e29 x.Makers)),.d (.sl 2 (List.map e83 x.Seen)),jI x.Repairs,jI x.Fixed])] (y24 x) 2 0) ?_
 obtain ⟨r0_9,hx_3,h⟩:=bsome h
 refine rC (k25 x _ hx_3) ?_
 refine Au 1 (sT [(1,.d (.bool is)),pR 2 0,pR 4 1,(6,jI r0_9)] (y24 x) 2 0) ?_
 refine RW.nil (hQ_2 _ ?_)
 refine Sa (sT [(1,.d (.bool is)),pR 2 0,pR 4 1,(6,jI r0_9),(11,.d (.bool (decide (r0_9≠0))))] (y24 x) 2 0) ?_
 refine AW.cond rfl (fun hb_4=>?_) (fun hb_4=>?_)
 ·have h:=ifT hb_4 h
  refine Sa (sT [pR 4 1,(5,jI r0_9)] y25 2 0) ?_
  obtain rfl:=Option.some.inj h
  exact AW.ret (hR_0 _ (retX (.cons (.agg rfl rfl (Nat.le_of_ble_eq_true rfl)) (.cons (.tmp rfl) .nil)) (Frz.tup_of ⟨Frz.agg_of ⟨(.nil 1),(.nil 2),.refl _,.refl _,.refl _,.refl _,.refl _,.refl _,.refl _,.refl _,.refl _,trivial⟩,.refl _,trivial⟩) rfl (by kernel_rfl) (by kernel_rfl)))
 ·have h:=ifF hb_4 h
  refine AW.skip (hK_1 _ ?_)
  refine AW.seqK (fun K_5 hK_5=>?_)
  refine Sa (sT [pR 2 0,pR 4 1,(15,.d (.bool (!is)))] (y24 x) 2 0) ?_
  refine AW.cond rfl (fun hb_6=>?_) (fun hb_6=>?_)
  ·have h:=ifT hb_6 h
   refine Sa (sT [pR 4 1,(5,jI 51)] y25 2 0) ?_
   obtain rfl:=Option.some.inj h
   exact AW.ret (hR_0 _ (retX (.cons (.agg rfl rfl (Nat.le_of_ble_eq_true rfl)) (.cons (.tmp rfl) .nil)) (Frz.tup_of ⟨Frz.agg_of ⟨(.nil 1),(.nil 2),.refl _,.refl _,.refl _,.refl _,.refl _,.refl _,.refl _,.refl _,.refl _,trivial⟩,.refl _,trivial⟩) rfl (by kernel_rfl) (by kernel_rfl)))
  ·have h:=ifF hb_6 h
   refine AW.skip (hK_5 _ ?_)
   refine AW.srwK (fun Q_7 hQ_7=>?_)
   refine Au 1 (sT [pR 4 1,(17,.agg [.d (.sl 1 (List.map e29 x.Makers)),.d (.sl 2 (List.map e83 x.Seen)),jI x.Repairs,jI x.Fixed])] y25 2 0) ?_
   obtain ⟨⟨r0_MakerBook1,r0_seen1,mf1⟩,hx_8,h⟩:=bsome h
   refine rC (k44 x _ hx_8) ?_
   refine Au 2 (sT [pR 4 1,pR 7 2] [(2,.var 78 (catV (cv37 r0_MakerBook1) [jI (r0_seen1 0),jI (r0_seen1 1),jI (r0_seen1 2),jI (r0_seen1 3),jI (r0_seen1 4),jI (r0_seen1 5),.fmp (List.map m99_4 mf1)])),(1,.var 78 [.d (.nilSl),.d (.nilSl),jI 0,jI 0,jI 0,jI 0,jI 0,jI 0,jI 0,jI 0,.d (.nilMap)])] 3 0) ?_
   refine RW.nil (hQ_7 _ ?_)
   refine AW.seqK fun K_9 hK_9=>AW.srwK fun Q_10 hQ_10=>?_
   refine Au 1 (sT [pR 4 1,pR 7 2,(19,.agg [.d (.sl 1 (List.map e29 r0_MakerBook1.Makers)),.d (.sl 2 (List.map e83 r0_MakerBook1.Seen)),jI r0_MakerBook1.Repairs,jI r0_MakerBook1.Fixed,jI (r0_seen1 0),jI (r0_seen1 1),jI (r0_seen1 2),jI (r0_seen1 3),jI (r0_seen1 4),jI (r0_seen1 5),.fmp (List.map m99_4 mf1)])] [(2,.var 78 (catV (cv37 r0_MakerBook1) [jI (r0_seen1 0),jI (r0_seen1 1),jI (r0_seen1 2),jI (r0_seen1 3),jI (r0_seen1 4),jI (r0_seen1 5),.fmp (List.map m99_4 mf1)])),(1,.var 78 [.d (.nilSl),.d (.nilSl),jI 0,jI 0,jI 0,jI 0,jI 0,jI 0,jI 0,jI 0,.d (.nilMap)])] 3 0) ?_
   obtain ⟨r0_2,hx_11,h⟩:=bsome h
   refine rC (k45 r0_MakerBook1 r0_seen1 mf1 _ hx_11) ?_
   refine Au 1 (sT [pR 4 1,pR 7 2,(21,.d (.bool (!r0_2)))] [(2,.var 78 (catV (cv37 r0_MakerBook1) [jI (r0_seen1 0),jI (r0_seen1 1),jI (r0_seen1 2),jI (r0_seen1 3),jI (r0_seen1 4),jI (r0_seen1 5),.fmp (List.map m99_4 mf1)])),(1,.var 78 [.d (.nilSl),.d (.nilSl),jI 0,jI 0,jI 0,jI 0,jI 0,jI 0,jI 0,jI 0,.d (.nilMap)])] 3 0) ?_
   refine RW.nil (hQ_10 _ ?_)
   refine AW.cond rfl (fun hb_12=>?_) (fun hb_12=>?_)
   ·have h:=ifT hb_12 h
    refine Sa (sT [pR 4 1,(5,jI 52)] [(1,.var 78 (catV (cv37 r0_MakerBook1) [jI (r0_seen1 0),jI (r0_seen1 1),jI (r0_seen1 2),jI (r0_seen1 3),jI (r0_seen1 4),jI (r0_seen1 5),.fmp (List.map m99_4 mf1)]))] 3 0) ?_
    obtain rfl:=Option.some.inj h
    exact rT hR_0 (.cons (.agg rfl rfl (Nat.le_of_ble_eq_true rfl)) (.cons (.tmp rfl) .nil))
   ·have h:=ifF hb_12 h
    refine AW.skip (hK_9 _ ?_)
    refine Sa (sT [pR 4 1,(5,jI 0)] [(1,.var 78 (catV (cv37 r0_MakerBook1) [jI (r0_seen1 0),jI (r0_seen1 1),jI (r0_seen1 2),jI (r0_seen1 3),jI (r0_seen1 4),jI (r0_seen1 5),.fmp (List.map m99_4 mf1)]))] 3 0) ?_
    obtain rfl:=Option.some.inj h
    exact rT hR_0 (.cons (.agg rfl rfl (Nat.le_of_ble_eq_true rfl)) (.cons (.tmp rfl) .nil))
def g46 (b_MakerBook:MakerBook) (b_seen:(Nat→Int)) (mf:List (Maker_place×Bool)):Option (MakerBook×(Nat→Int)×(List (Maker_place×Bool))):=some (b_MakerBook,b_seen,mf)
def y26 (b_MakerBook:MakerBook) (b_seen:(Nat→Int)) (mf:List (Maker_place×Bool)):List (Nat×Blk):=[(0,.var 78 (catV (cv37 b_MakerBook) [jI (b_seen 0),jI (b_seen 1),jI (b_seen 2),jI (b_seen 3),jI (b_seen 4),jI (b_seen 5),.fmp (List.map m99_4 mf)]))]
theorem k46 (b_MakerBook:MakerBook) (b_seen:(Nat→Int)) (mf:List (Maker_place×Bool)) (r:MakerBook×(Nat→Int)×(List (Maker_place×Bool))) (h:g46 b_MakerBook b_seen mf=some r):SCall Tryd.prog Gs 46 [.agg [.d (.sl 1 (List.map e29 b_MakerBook.Makers)),.d (.sl 2 (List.map e83 b_MakerBook.Seen)),jI b_MakerBook.Repairs,jI b_MakerBook.Fixed,jI (b_seen 0),jI (b_seen 1),jI (b_seen 2),jI (b_seen 3),jI (b_seen 4),jI (b_seen 5),.fmp (List.map m99_4 mf)]] [] 0 Fr.emp (match r with | (o0_MakerBook,o0_seen,mf1)=>.clo 50 [] [.ptr 0 0]) (match r with | (o0_MakerBook,o0_seen,mf1)=>[(0,.var 78 (catV (cv37 o0_MakerBook) [jI (o0_seen 0),jI (o0_seen 1),jI (o0_seen 2),jI (o0_seen 3),jI (o0_seen 4),jI (o0_seen 5),.fmp (List.map m99_4 mf1)]))]) 1 Fr.emp:=by
 unfold g46 at h
 refine SCall.mkK Tryd.func46 c46 rfl rfl (by kernel_rfl) (fun Q_0 hR_0 hN_0=>?_)
 refine Sa (sT [pR 1 0] (y26 b_MakerBook b_seen mf) 1 0) ?_
 refine Sa (sT [(2,.clo 50 [] [.ptr 0 0])] (y26 b_MakerBook b_seen mf) 1 0) ?_
 obtain rfl:=Option.some.inj h
 exact rT hR_0 (.cons (.tmp rfl) .nil)
def g53_4 (b_MakerBook:MakerBook) (mf:List (Maker_place×Bool)) (maker:Int):Int→Int→Option (Ctl (Int) (Int×Bool)):=fun v n=>bif (!((mget q99 mf (Maker_place.mk maker v)).getD false)) then (some (.next n)) else ((must (decide (0≤v))).bind fun _=>bif (decide ((bAnd (shr64 b_MakerBook.Fixed v) 1)=1)) then (some (.brk (0,false))) else (some (.next (wr (n+1)))))
def g53 (b_MakerBook:MakerBook) (b_seen:(Nat→Int)) (mf:List (Maker_place×Bool)) (maker:Int):Option (Int×Bool):=(g49 b_MakerBook b_seen mf).bind fun r0=>(must (decide (r0≤9223372036854775807))).bind fun _=>bindC (forC (g53_4 b_MakerBook mf maker) (((r0:Int) - 0).toNat) 0 0) fun n=>some (n,true)
def y27 (b_MakerBook:MakerBook) (b_seen:(Nat→Int)) (mf:List (Maker_place×Bool)):List (Nat×Blk):=[(0,.var 78 (catV (cv37 b_MakerBook) [jI (b_seen 0),jI (b_seen 1),jI (b_seen 2),jI (b_seen 3),jI (b_seen 4),jI (b_seen 5),.fmp (List.map m99_4 mf)]))]
theorem k53 (b_MakerBook:MakerBook) (b_seen:(Nat→Int)) (mf:List (Maker_place×Bool)) (maker:Int) (r:Int×Bool) (h:g53 b_MakerBook b_seen mf maker=some r):SCall Tryd.prog Gs 53 [.agg [.d (.sl 1 (List.map e29 b_MakerBook.Makers)),.d (.sl 2 (List.map e83 b_MakerBook.Seen)),jI b_MakerBook.Repairs,jI b_MakerBook.Fixed,jI (b_seen 0),jI (b_seen 1),jI (b_seen 2),jI (b_seen 3),jI (b_seen 4),jI (b_seen 5),.fmp (List.map m99_4 mf)],jI maker] [] 0 Fr.emp (match r with | (r0_2,r1_1)=>.tup [jI r0_2,.d (.bool r1_1)]) [] 0 Fr.emp:=by
 unfold g53 at h
 refine SCall.mkK Tryd.func53 c53 rfl rfl (by kernel_rfl) (fun Q_0 hR_0 hN_0=>?_)
 refine Sa (sT [(1,jI maker),pR 2 0] (y27 b_MakerBook b_seen mf) 1 0) ?_
 refine Sa (sT [(1,jI maker),pR 2 0,(6,jI 0)] (y27 b_MakerBook b_seen mf) 1 0) ?_
 refine AW.seqK fun K_1 hK_1=>AW.srwK fun Q_2 hQ_2=>?_
 refine Au 1 (sT [(1,jI maker),pR 2 0,(6,jI 0),(8,.agg [.d (.sl 1 (List.map e29 b_MakerBook.Makers)),.d (.sl 2 (List.map e83 b_MakerBook.Seen)),jI b_MakerBook.Repairs,jI b_MakerBook.Fixed,jI (b_seen 0),jI (b_seen 1),jI (b_seen 2),jI (b_seen 3),jI (b_seen 4),jI (b_seen 5),.fmp (List.map m99_4 mf)])] (y27 b_MakerBook b_seen mf) 1 0) ?_
 obtain ⟨r0,hx_3,h⟩:=bsome h
 refine rC (k49 b_MakerBook b_seen mf _ hx_3) ?_
 refine Au 1 (sT [(1,jI maker),pR 2 0,(6,jI 0),(9,jI r0),(10,jI 0)] (y27 b_MakerBook b_seen mf) 1 0) ?_
 refine RW.nil (hQ_2 _ ?_)
 refine AW.block ?_
 obtain ⟨_,hN_4,h⟩:=bsome h
 have hN_4:=of_decide_eq_true (must_ok hN_4)
 obtain ⟨out_4,hx_4,hk_4⟩:=bsomeC h
 refine AW.lpCK (fun (v:Int) (n:Int)=>(sT [(1,jI maker),pR 2 0,(6,jI n),(9,jI r0),(10,jI v)] (y27 b_MakerBook b_seen mf) 1 0)) (g53_4 b_MakerBook mf maker) (r0) hx_4 (Can.kp (by kernel_rfl)) (fun v n hi_4 hl_4 c_4 h hb_4 K_4 hK_4=>?_) (fun v n hi_4 hl_4 hout=>?_)
 ·unfold g53_4 at h
  refine Sa (sT [(1,jI maker),pR 2 0,(6,jI n),(9,jI r0),(10,jI v),(11,.d (.bool (decide (v<r0))))] (y27 b_MakerBook b_seen mf) 1 0) ?_
  refine AW.seqK (fun K_5 hK_5=>?_)
  refine AW.cond rfl (fun hb_6=>?_) (fun hb_6=>False.elim (by have:=of_decide_eq_false hb_6;omega))
  refine AW.skip (hK_5 _ ?_)
  refine AW.seqK (fun K_7 hK_7=>?_)
  refine AW.block ?_
  refine Sa (sT [(1,jI maker),pR 2 0,(6,jI n),(7,jI v),(9,jI r0),(10,jI v)] (y27 b_MakerBook b_seen mf) 1 0) ?_
  refine AW.seqK fun K_8 hK_8=>AW.srwK fun Q_9 hQ_9=>?_
  refine Au 5 (sT [(1,jI maker),pR 2 0,(6,jI n),(7,jI v),(9,jI r0),(10,jI v),(14,.fmp (List.map m99_4 mf)),(17,.agg [jI maker,jI v])] (y27 b_MakerBook b_seen mf) 1 0) ?_
  refine RW.one fokW (r_lookFC q99 e99 (fun x=>.bool x) mf (Maker_place.mk maker v) false trivial rfl rfl ft99 q99_ok (fun _=>rfl) rfl (r_end ?_))
  refine Au 1 (sT [(1,jI maker),pR 2 0,(6,jI n),(7,jI v),(9,jI r0),(10,jI v),(19,.d (.bool (!((mget q99 mf (Maker_place.mk maker v)).getD false))))] (y27 b_MakerBook b_seen mf) 1 0) ?_
  refine RW.nil (hQ_9 _ ?_)
  refine AW.cond rfl (fun hb_10=>?_) (fun hb_10=>?_)
  ·have h:=ifT hb_10 h
   refine AW.exit ?_
   refine hK_7 _ ?_
   refine Ra (sT [(1,jI maker),pR 2 0,(6,jI n),(9,jI r0),(10,jI (wr (v+1)))] (y27 b_MakerBook b_seen mf) 1 0) ?_
   obtain rfl:=Option.some.inj h
   have ew:wr (v+1)=v+1:=inext (N:=r0) (by omega) (by omega) (by omega)
   rw [ew]
   exact hK_4 _ _ rfl (Can.kp (by kernel_rfl))
  ·have h:=ifF hb_10 h
   refine AW.skip (hK_8 _ ?_)
   refine AW.seqK fun K_11 hK_11=>AW.srwK fun Q_12 hQ_12=>?_
   refine Au 4 (sT [(1,jI maker),pR 2 0,(6,jI n),(9,jI r0),(10,jI v),(22,jI b_MakerBook.Fixed),(23,jI v)] (y27 b_MakerBook b_seen mf) 1 0) ?_
   obtain ⟨_,hv_13,h⟩:=bsome h
   refine RW.one fokW (r_sh trivial rfl rfl (shr64_ok (of_decide_eq_true (must_ok hv_13))) (r_end ?_))
   refine Au 2 (sT [(1,jI maker),pR 2 0,(6,jI n),(9,jI r0),(10,jI v),(26,.d (.bool (decide ((bAnd (shr64 b_MakerBook.Fixed v) 1)=1))))] (y27 b_MakerBook b_seen mf) 1 0) ?_
   refine RW.nil (hQ_12 _ ?_)
   refine AW.cond rfl (fun hb_14=>?_) (fun hb_14=>?_)
   ·have h:=ifT hb_14 h
    refine Sa (sT [(4,jI 0),(5,.d (.bool false))] [] 1 0) ?_
    obtain rfl:=Option.some.inj h
    have e_1:=hb_4 _ rfl
    subst e_1
    obtain rfl:=Aft.bk hk_4
    exact rT hR_0 (.cons (.tmp rfl) (.cons (.tmp rfl) .nil))
   ·have h:=ifF hb_14 h
    refine AW.skip (hK_11 _ ?_)
    refine Ra (sT [(1,jI maker),pR 2 0,(6,jI (wr (n+1))),(9,jI r0),(10,jI v)] (y27 b_MakerBook b_seen mf) 1 0) ?_
    refine hK_7 _ ?_
    refine Ra (sT [(1,jI maker),pR 2 0,(6,jI (wr (n+1))),(9,jI r0),(10,jI (wr (v+1)))] (y27 b_MakerBook b_seen mf) 1 0) ?_
    obtain rfl:=Option.some.inj h
    have ew:wr (v+1)=v+1:=inext (N:=r0) (by omega) (by omega) (by omega)
    rw [ew]
    exact hK_4 _ _ rfl (Can.kp (by kernel_rfl))
 ·subst hout
  have h:=Aft.nx hk_4
  refine Sa (sT [(1,jI maker),pR 2 0,(6,jI n),(9,jI r0),(10,jI v),(11,.d (.bool (decide (v<r0))))] (y27 b_MakerBook b_seen mf) 1 0) ?_
  refine AW.seqK (fun K_15 hK_15=>?_)
  refine AW.cond rfl (fun hb_16=>False.elim (by have:=of_decide_eq_true hb_16;omega)) (fun hb_16=>?_)
  refine AW.exit ?_
  refine hK_1 _ ?_
  refine Sa (sT [(4,jI n),(5,.d (.bool true))] [] 1 0) ?_
  obtain rfl:=Option.some.inj h
  exact rT hR_0 (.cons (.tmp rfl) (.cons (.tmp rfl) .nil))
def g51 (b_MakerBook:MakerBook) (b_seen:(Nat→Int)) (mf:List (Maker_place×Bool)) (maker:Int):Option Bool:=(g53 b_MakerBook b_seen mf maker).bind fun (r0_2,r1_1)=>some (r1_1&&(decide (r0_2≤b_MakerBook.Repairs)))
def y28 (b_MakerBook:MakerBook) (b_seen:(Nat→Int)) (mf:List (Maker_place×Bool)):List (Nat×Blk):=[(0,.var 78 (catV (cv37 b_MakerBook) [jI (b_seen 0),jI (b_seen 1),jI (b_seen 2),jI (b_seen 3),jI (b_seen 4),jI (b_seen 5),.fmp (List.map m99_4 mf)]))]
theorem k51 (b_MakerBook:MakerBook) (b_seen:(Nat→Int)) (mf:List (Maker_place×Bool)) (maker:Int) (r:Bool) (h:g51 b_MakerBook b_seen mf maker=some r):SCall Tryd.prog Gs 51 [.agg [.d (.sl 1 (List.map e29 b_MakerBook.Makers)),.d (.sl 2 (List.map e83 b_MakerBook.Seen)),jI b_MakerBook.Repairs,jI b_MakerBook.Fixed,jI (b_seen 0),jI (b_seen 1),jI (b_seen 2),jI (b_seen 3),jI (b_seen 4),jI (b_seen 5),.fmp (List.map m99_4 mf)],jI maker] [] 0 Fr.emp (.d (.bool r)) [] 0 Fr.emp:=by
 unfold g51 at h
 refine SCall.mkK Tryd.func51 c51 rfl rfl (by kernel_rfl) (fun Q_0 hR_0 hN_0=>?_)
 refine Sa (sT [(1,jI maker),pR 2 0] (y28 b_MakerBook b_seen mf) 1 0) ?_
 refine AW.srwK (fun Q_1 hQ_1=>?_)
 refine Au 2 (sT [pR 2 0,(8,.agg [.d (.sl 1 (List.map e29 b_MakerBook.Makers)),.d (.sl 2 (List.map e83 b_MakerBook.Seen)),jI b_MakerBook.Repairs,jI b_MakerBook.Fixed,jI (b_seen 0),jI (b_seen 1),jI (b_seen 2),jI (b_seen 3),jI (b_seen 4),jI (b_seen 5),.fmp (List.map m99_4 mf)]),(9,jI maker)] (y28 b_MakerBook b_seen mf) 1 0) ?_
 obtain ⟨⟨r0_2,r1_1⟩,hx_2,h⟩:=bsome h
 refine rC (k53 b_MakerBook b_seen mf maker _ hx_2) ?_
 refine Au 5 (sT [pR 2 0,(5,jI r0_2),(6,.d (.bool r1_1))] (y28 b_MakerBook b_seen mf) 1 0) ?_
 refine RW.nil (hQ_1 _ ?_)
 refine AW.sa fokW [14] (sT [(4,.d (.bool (r1_1&&(decide (r0_2≤b_MakerBook.Repairs)))))] [] 1 0) (by kernel_rfl) ?_
 obtain rfl:=Option.some.inj h
 exact rT hR_0 (.cons (.tmp rfl) .nil)
def g50_2 {S_:Type} (c_:Int→S_→Option (S_×Bool)) (o0_MakerBook:MakerBook) (o0_seen:(Nat→Int)) (mf:List (Maker_place×Bool)):Int→(List Int)→S_→Option (Ctl (S_) (S_)):=fun v p s_1=>(g51 o0_MakerBook o0_seen mf v).bind fun r0=>bif (!r0) then (some (.next s_1)) else ((c_ v s_1).bind fun (s_2,go)=>bif (!go) then (some (.brk s_2)) else (some (.next s_2)))
def g50 {S_:Type} (c_:Int→S_→Option (S_×Bool)) (o0_MakerBook:MakerBook) (o0_seen:(Nat→Int)) (mf:List (Maker_place×Bool)) (s_:S_):Option S_:=bindC (eachC (g50_2 c_ o0_MakerBook o0_seen mf) o0_MakerBook.Makers 0 s_) fun s_1=>some s_1
def y29 (o0_MakerBook:MakerBook) (o0_seen:(Nat→Int)) (mf:List (Maker_place×Bool)):List (Nat×Blk):=[(0,.var 78 (catV (cv37 o0_MakerBook) [jI (o0_seen 0),jI (o0_seen 1),jI (o0_seen 2),jI (o0_seen 3),jI (o0_seen 4),jI (o0_seen 5),.fmp (List.map m99_4 mf)]))]
theorem k50 {S_:Type} (fr_:S_→Fr) (c_:Int→S_→Option (S_×Bool)) (hc_:∀ (a0:Int) s s2 b,c_ a0 s=some (s2,b)→YCall Tryd.prog Gs (fr_ s) [jI a0] (.d (.bool b)) (fr_ s2)) (o0_MakerBook:MakerBook) (o0_seen:(Nat→Int)) (mf:List (Maker_place×Bool)) (s_:S_) (r:S_) (h:g50 c_ o0_MakerBook o0_seen mf s_=some r):SCall Tryd.prog Gs 50 [.yld,.ptr 0 0] [(0,.var 78 (catV (cv37 o0_MakerBook) [jI (o0_seen 0),jI (o0_seen 1),jI (o0_seen 2),jI (o0_seen 3),jI (o0_seen 4),jI (o0_seen 5),.fmp (List.map m99_4 mf)]))] 1 (fr_ s_) (.tup []) [(0,.var 78 (catV (cv37 o0_MakerBook) [jI (o0_seen 0),jI (o0_seen 1),jI (o0_seen 2),jI (o0_seen 3),jI (o0_seen 4),jI (o0_seen 5),.fmp (List.map m99_4 mf)]))] 1 (fr_ r):=by
 unfold g50 at h
 refine SCall.mkK Tryd.func50 c50 rfl rfl (by kernel_rfl) (fun Q_0 hR_0 hN_0=>?_)
 refine AW.scope ?_
 refine Sa ⟨[(0,.yld),pR 1 0,(3,.clo 51 [.agg [.d (.sl 1 (List.map e29 o0_MakerBook.Makers)),.d (.sl 2 (List.map e83 o0_MakerBook.Seen)),jI o0_MakerBook.Repairs,jI o0_MakerBook.Fixed,jI (o0_seen 0),jI (o0_seen 1),jI (o0_seen 2),jI (o0_seen 3),jI (o0_seen 4),jI (o0_seen 5),.fmp (List.map m99_4 mf)]] [])],(y29 o0_MakerBook o0_seen mf),1,(fr_ s_),[],1⟩ ?_
 refine AW.seq (AW.skip ?_)
 refine AW.srwK (fun Q_1 hQ_1=>?_)
 refine Au 3 ⟨[(0,.yld),(3,.clo 51 [.agg [.d (.sl 1 (List.map e29 o0_MakerBook.Makers)),.d (.sl 2 (List.map e83 o0_MakerBook.Seen)),jI o0_MakerBook.Repairs,jI o0_MakerBook.Fixed,jI (o0_seen 0),jI (o0_seen 1),jI (o0_seen 2),jI (o0_seen 3),jI (o0_seen 4),jI (o0_seen 5),.fmp (List.map m99_4 mf)]] []),(9,.d (.sl 1 (List.map e29 o0_MakerBook.Makers)))],(y29 o0_MakerBook o0_seen mf),1,(fr_ s_),[],1⟩ ?_
 refine rL rfl ?_
 refine Au 1 ⟨[(0,.yld),(3,.clo 51 [.agg [.d (.sl 1 (List.map e29 o0_MakerBook.Makers)),.d (.sl 2 (List.map e83 o0_MakerBook.Seen)),jI o0_MakerBook.Repairs,jI o0_MakerBook.Fixed,jI (o0_seen 0),jI (o0_seen 1),jI (o0_seen 2),jI (o0_seen 3),jI (o0_seen 4),jI (o0_seen 5),.fmp (List.map m99_4 mf)]] []),(10,jI (o0_MakerBook.Makers.length:Int)),(11,jI 0)],(y29 o0_MakerBook o0_seen mf),1,(fr_ s_),[],1⟩ ?_
 refine RW.nil (hQ_1 _ ?_)
 refine AW.block ?_
 refine AW.slh (r:=0) (off:=0) rfl rfl (fun hN_2=>?_)
 rw [List.length_map] at hN_2
 obtain ⟨out_2,hx_2,hk_2⟩:=bsomeC h
 refine AW.evCK (fun (v:Int) (s_1:S_)=>⟨[(0,.yld),(3,.clo 51 [.agg [.d (.sl 1 (List.map e29 o0_MakerBook.Makers)),.d (.sl 2 (List.map e83 o0_MakerBook.Seen)),jI o0_MakerBook.Repairs,jI o0_MakerBook.Fixed,jI (o0_seen 0),jI (o0_seen 1),jI (o0_seen 2),jI (o0_seen 3),jI (o0_seen 4),jI (o0_seen 5),.fmp (List.map m99_4 mf)]] []),(10,jI (o0_MakerBook.Makers.length:Int)),(11,jI v)],(y29 o0_MakerBook o0_seen mf),1,(fr_ s_1),[],1⟩) (g50_2 c_ o0_MakerBook o0_seen mf) hx_2 (Can.kp (by kernel_rfl)) (fun v p s_1 hi_2 hl_2 hp_2 c_2 h hb_2 K_2 hK_2=>?_) (fun v s_1 hi_2 hl_2 hout=>?_)
 ·unfold g50_2 at h
  refine Sa ⟨[(0,.yld),(3,.clo 51 [.agg [.d (.sl 1 (List.map e29 o0_MakerBook.Makers)),.d (.sl 2 (List.map e83 o0_MakerBook.Seen)),jI o0_MakerBook.Repairs,jI o0_MakerBook.Fixed,jI (o0_seen 0),jI (o0_seen 1),jI (o0_seen 2),jI (o0_seen 3),jI (o0_seen 4),jI (o0_seen 5),.fmp (List.map m99_4 mf)]] []),(10,jI (o0_MakerBook.Makers.length:Int)),(11,jI v),(12,.d (.bool (decide (v<(o0_MakerBook.Makers.length:Int)))))],(y29 o0_MakerBook o0_seen mf),1,(fr_ s_1),[],1⟩ ?_
  refine AW.seqK (fun K_3 hK_3=>?_)
  refine AW.cond rfl (fun hb_4=>?_) (fun hb_4=>False.elim (by have:=of_decide_eq_false hb_4;omega))
  refine AW.skip (hK_3 _ ?_)
  refine AW.seqK (fun K_5 hK_5=>?_)
  refine AW.block ?_
  refine Sa ⟨[(0,.yld),(3,.clo 51 [.agg [.d (.sl 1 (List.map e29 o0_MakerBook.Makers)),.d (.sl 2 (List.map e83 o0_MakerBook.Seen)),jI o0_MakerBook.Repairs,jI o0_MakerBook.Fixed,jI (o0_seen 0),jI (o0_seen 1),jI (o0_seen 2),jI (o0_seen 3),jI (o0_seen 4),jI (o0_seen 5),.fmp (List.map m99_4 mf)]] []),(4,jI v),(10,jI (o0_MakerBook.Makers.length:Int)),(11,jI v)],(y29 o0_MakerBook o0_seen mf),1,(fr_ s_1),[],1⟩ ?_
  refine AW.seqK fun K_6 hK_6=>AW.srwK fun Q_7 hQ_7=>?_
  refine Au 2 ⟨[(0,.yld),(3,.clo 51 [.agg [.d (.sl 1 (List.map e29 o0_MakerBook.Makers)),.d (.sl 2 (List.map e83 o0_MakerBook.Seen)),jI o0_MakerBook.Repairs,jI o0_MakerBook.Fixed,jI (o0_seen 0),jI (o0_seen 1),jI (o0_seen 2),jI (o0_seen 3),jI (o0_seen 4),jI (o0_seen 5),.fmp (List.map m99_4 mf)]] []),(4,jI v),(10,jI (o0_MakerBook.Makers.length:Int)),(11,jI v),(14,.clo 51 [.agg [.d (.sl 1 (List.map e29 o0_MakerBook.Makers)),.d (.sl 2 (List.map e83 o0_MakerBook.Seen)),jI o0_MakerBook.Repairs,jI o0_MakerBook.Fixed,jI (o0_seen 0),jI (o0_seen 1),jI (o0_seen 2),jI (o0_seen 3),jI (o0_seen 4),jI (o0_seen 5),.fmp (List.map m99_4 mf)]] []),(15,jI v)],(y29 o0_MakerBook o0_seen mf),1,(fr_ s_1),[],1⟩ ?_
  obtain ⟨r0,hx_8,h⟩:=bsome h
  refine RW.one fokW (r_callvZ (zr:=[]) trivial rfl (.clo _ _ _) (by kernel_rfl) rfl (k51 o0_MakerBook o0_seen mf v _ hx_8) trivial ⟨.refl _,.refl _,trivial⟩ rfl rfl rfl rfl (r_end ?_))
  refine Au 1 ⟨[(0,.yld),(3,.clo 51 [.agg [.d (.sl 1 (List.map e29 o0_MakerBook.Makers)),.d (.sl 2 (List.map e83 o0_MakerBook.Seen)),jI o0_MakerBook.Repairs,jI o0_MakerBook.Fixed,jI (o0_seen 0),jI (o0_seen 1),jI (o0_seen 2),jI (o0_seen 3),jI (o0_seen 4),jI (o0_seen 5),.fmp (List.map m99_4 mf)]] []),(4,jI v),(10,jI (o0_MakerBook.Makers.length:Int)),(11,jI v),(17,.d (.bool (!r0)))],(y29 o0_MakerBook o0_seen mf),1,(fr_ s_1),[],1⟩ ?_
  refine RW.nil (hQ_7 _ ?_)
  refine AW.cond rfl (fun hb_9=>?_) (fun hb_9=>?_)
  ·have h:=ifT hb_9 h
   refine AW.exit ?_
   refine hK_5 _ ?_
   refine Ra ⟨[(0,.yld),(3,.clo 51 [.agg [.d (.sl 1 (List.map e29 o0_MakerBook.Makers)),.d (.sl 2 (List.map e83 o0_MakerBook.Seen)),jI o0_MakerBook.Repairs,jI o0_MakerBook.Fixed,jI (o0_seen 0),jI (o0_seen 1),jI (o0_seen 2),jI (o0_seen 3),jI (o0_seen 4),jI (o0_seen 5),.fmp (List.map m99_4 mf)]] []),(10,jI (o0_MakerBook.Makers.length:Int)),(11,jI (wr (v+1)))],(y29 o0_MakerBook o0_seen mf),1,(fr_ s_1),[],1⟩ ?_
   obtain rfl:=Option.some.inj h
   have ew:wr (v+1)=v+1:=inext (N:=(o0_MakerBook.Makers.length:Int)) (by omega) (by omega) (by omega)
   rw [ew]
   exact hK_2 _ _ rfl (Can.kp (by kernel_rfl))
  ·have h:=ifF hb_9 h
   refine AW.skip (hK_6 _ ?_)
   refine AW.srwK (fun Q_10 hQ_10=>?_)
   refine Au 2 ⟨[(0,.yld),(3,.clo 51 [.agg [.d (.sl 1 (List.map e29 o0_MakerBook.Makers)),.d (.sl 2 (List.map e83 o0_MakerBook.Seen)),jI o0_MakerBook.Repairs,jI o0_MakerBook.Fixed,jI (o0_seen 0),jI (o0_seen 1),jI (o0_seen 2),jI (o0_seen 3),jI (o0_seen 4),jI (o0_seen 5),.fmp (List.map m99_4 mf)]] []),(10,jI (o0_MakerBook.Makers.length:Int)),(11,jI v),(18,.yld),(19,jI v)],(y29 o0_MakerBook o0_seen mf),1,(fr_ s_1),[],1⟩ ?_
   obtain ⟨⟨s_2,go⟩,hx_11,h⟩:=bsome h
   refine RW.one fokW (r_yield (zr:=[]) trivial rfl rfl (hc_ v _ _ _ hx_11) trivial ⟨.refl _,trivial⟩ rfl rfl rfl rfl (r_end ?_))
   refine Au 1 ⟨[(0,.yld),(3,.clo 51 [.agg [.d (.sl 1 (List.map e29 o0_MakerBook.Makers)),.d (.sl 2 (List.map e83 o0_MakerBook.Seen)),jI o0_MakerBook.Repairs,jI o0_MakerBook.Fixed,jI (o0_seen 0),jI (o0_seen 1),jI (o0_seen 2),jI (o0_seen 3),jI (o0_seen 4),jI (o0_seen 5),.fmp (List.map m99_4 mf)]] []),(10,jI (o0_MakerBook.Makers.length:Int)),(11,jI v),(21,.d (.bool (!go)))],(y29 o0_MakerBook o0_seen mf),1,(fr_ s_2),[],1⟩ ?_
   refine RW.nil (hQ_10 _ ?_)
   refine AW.cond rfl (fun hb_12=>?_) (fun hb_12=>?_)
   ·have h:=ifT hb_12 h
    obtain rfl:=Option.some.inj h
    have e_1:=hb_2 _ rfl
    subst e_1
    obtain rfl:=Aft.bk hk_2
    exact rT hR_0 .nil
   ·have h:=ifF hb_12 h
    refine AW.skip (hK_5 _ ?_)
    refine Ra ⟨[(0,.yld),(3,.clo 51 [.agg [.d (.sl 1 (List.map e29 o0_MakerBook.Makers)),.d (.sl 2 (List.map e83 o0_MakerBook.Seen)),jI o0_MakerBook.Repairs,jI o0_MakerBook.Fixed,jI (o0_seen 0),jI (o0_seen 1),jI (o0_seen 2),jI (o0_seen 3),jI (o0_seen 4),jI (o0_seen 5),.fmp (List.map m99_4 mf)]] []),(10,jI (o0_MakerBook.Makers.length:Int)),(11,jI (wr (v+1)))],(y29 o0_MakerBook o0_seen mf),1,(fr_ s_2),[],1⟩ ?_
    obtain rfl:=Option.some.inj h
    have ew:wr (v+1)=v+1:=inext (N:=(o0_MakerBook.Makers.length:Int)) (by omega) (by omega) (by omega)
    rw [ew]
    exact hK_2 _ _ rfl (Can.kp (by kernel_rfl))
 ·subst hout
  have h:=Aft.nx hk_2
  refine Sa ⟨[(0,.yld),(3,.clo 51 [.agg [.d (.sl 1 (List.map e29 o0_MakerBook.Makers)),.d (.sl 2 (List.map e83 o0_MakerBook.Seen)),jI o0_MakerBook.Repairs,jI o0_MakerBook.Fixed,jI (o0_seen 0),jI (o0_seen 1),jI (o0_seen 2),jI (o0_seen 3),jI (o0_seen 4),jI (o0_seen 5),.fmp (List.map m99_4 mf)]] []),(10,jI (o0_MakerBook.Makers.length:Int)),(11,jI v),(12,.d (.bool (decide (v<(o0_MakerBook.Makers.length:Int)))))],(y29 o0_MakerBook o0_seen mf),1,(fr_ s_1),[],1⟩ ?_
  refine AW.seqK (fun K_13 hK_13=>?_)
  refine AW.cond rfl (fun hb_14=>False.elim (by have:=of_decide_eq_true hb_14;omega)) (fun hb_14=>?_)
  refine AW.exit ?_
  obtain rfl:=Option.some.inj h
  exact hN_0 _ (retX .nil (.refl _) rfl (by kernel_rfl) (by kernel_rfl))
def g32_r4:Int→(List Int)→Option (Ctl (List Int) (Unit)):=fun a l=>(appL 8 l [a]).bind fun l1=>some (.next l1)
def g32 (b_MakerBook:MakerBook) (b_seen:(Nat→Int)) (mf:List (Maker_place×Bool)):Option (List Int):=(g46 b_MakerBook b_seen mf).bind fun (o0_MakerBook,o0_seen,mf1)=>(g50 (fun a s=>rndC g32_r4 a s) o0_MakerBook o0_seen mf1 (.next ([]:List Int))).bind fun out_4=>match out_4 with | .next l=>(slcL l 0 (l.length:Int)).bind fun l2=>some l2 | .brk _=>none
theorem k32 (b_MakerBook:MakerBook) (b_seen:(Nat→Int)) (mf:List (Maker_place×Bool)) (r:(List Int)) (h:g32 b_MakerBook b_seen mf=some r):SCall Tryd.prog Gs 32 [.agg [.d (.sl 1 (List.map e29 b_MakerBook.Makers)),.d (.sl 2 (List.map e83 b_MakerBook.Seen)),jI b_MakerBook.Repairs,jI b_MakerBook.Fixed,jI (b_seen 0),jI (b_seen 1),jI (b_seen 2),jI (b_seen 3),jI (b_seen 4),jI (b_seen 5),.fmp (List.map m99_4 mf)]] [] 0 Fr.emp (.d (.sl 1 (List.map e3 r))) [] 0 Fr.emp:=by
 unfold g32 at h
 refine SCall.mkK Tryd.func32 c32 rfl rfl (by kernel_rfl) (fun Q_0 hR_0 hN_0=>?_)
 refine Sa (sT [pR 1 0] [(0,.var 78 (catV (cv37 b_MakerBook) [jI (b_seen 0),jI (b_seen 1),jI (b_seen 2),jI (b_seen 3),jI (b_seen 4),jI (b_seen 5),.fmp (List.map m99_4 mf)]))] 1 0) ?_
 refine Sa (sT [pR 1 0,pR 3 1] [(1,.var 29 [.d (.nilSl)]),(0,.var 78 (catV (cv37 b_MakerBook) [jI (b_seen 0),jI (b_seen 1),jI (b_seen 2),jI (b_seen 3),jI (b_seen 4),jI (b_seen 5),.fmp (List.map m99_4 mf)]))] 2 0) ?_
 refine AW.seqK fun K_1 hK_1=>AW.srwK fun Q_2 hQ_2=>?_
 refine Au 1 (sT [pR 3 1,(5,.agg [.d (.sl 1 (List.map e29 b_MakerBook.Makers)),.d (.sl 2 (List.map e83 b_MakerBook.Seen)),jI b_MakerBook.Repairs,jI b_MakerBook.Fixed,jI (b_seen 0),jI (b_seen 1),jI (b_seen 2),jI (b_seen 3),jI (b_seen 4),jI (b_seen 5),.fmp (List.map m99_4 mf)])] [(1,.var 29 [.d (.nilSl)])] 2 0) ?_
 obtain ⟨⟨o0_MakerBook,o0_seen,mf1⟩,hx_3,h⟩:=bsome h
 refine RW.one fokW (r_callS (zr:=[]) [] trivial rfl (k46 b_MakerBook b_seen mf _ hx_3) trivial rfl rfl ⟨.refl _,trivial⟩ rfl rfl rfl (r_end ?_))
 refine RW.nil (hQ_2 _ ?_)
 refine AW.block ?_
 refine AW.can (Can.thawH 1 0 29 3 1 rfl rfl rfl) ?_
 obtain ⟨out_4,hx_4,h⟩:=bsome h
 refine AW.rfX (fun (l:List Int)=>[(4,.dm),(1,.var 29 [.own 3 (List.map e3 l).length]),(3,.row 3 1 (List.map e3 l))]) (fun (_:Unit)=>[]) (fun _=>some .ret) g32_r4 (fun (a:Int)=>[jI a]) (s0:=([]:List Int)) (out:=out_4) [pR 3 1] [(1,.var 29 [.own 3 (List.map e3 []).length]),(3,.row 3 1 (List.map e3 []))] [2] rfl (.clo _ _ _) (by kernel_rfl) (by kernel_rfl) (fun fr_ hY_4=>k50 fr_ _ (fun a s s2 b h=>hY_4 a s s2 b h) o0_MakerBook o0_seen mf1 (.next ([]:List Int)) _ hx_4) (by kernel_rfl) ⟨rfl,trivial⟩ rfl ⟨rfl,rfl⟩ rfl rfl (fun _=>rfl) (fun _=>rfl) (fun a_4 s_4 c_4 h l_4=>?_) (fun _=>rfl) ?_
 ·have ⟨a,e_4⟩:∃ x,x=a_4:=⟨_,rfl⟩
  subst e_4
  have ⟨l,e_4⟩:∃ x,x=s_4:=⟨_,rfl⟩
  subst e_4
  unfold g32_r4 at h
  refine AW.ra (fokR l_4) [] (sT [pR 3 1,(4,jI a)] [(4,.dm),(1,.var 29 [.own 3 (List.map e3 l).length]),(3,.row 3 1 (List.map e3 l))] 5 5) (by kernel_rfl) ?_
  refine AW.block ?_
  refine AW.rw ?_
  refine RW.au (fokR l_4) 3 [] (sT [pR 3 1,(8,.own 3 (List.map e3 l).length),(10,.own 5 (List.map e3 [a]).length)] [(5,.row 3 1 (List.map e3 [a])),(4,.dm),(1,.var 29 [.own 3 (List.map e3 l).length]),(3,.row 3 1 (List.map e3 l))] 6 5) (by kernel_rfl) ?_
  obtain ⟨l1,hv_6,h⟩:=bsome h
  refine RW.one (fokR l_4) (r_apO trivial rfl rfl rfl rfl rfl rfl (apz hv_6 e3) (apr hv_6 e3) (r_end ?_))
  refine RW.au (fokR l_4) 1 [] (sT [] [(1,.var 29 [.own 3 (List.map e3 l1).length]),(3,.row 3 1 (List.map e3 l1)),(4,.dm)] 6 5) (by kernel_rfl) ?_
  refine RW.nil ?_
  obtain rfl:=Option.some.inj h
  exact ⟨(sT [] [(4,.dm),(1,.var 29 [.own 3 (List.map e3 l1).length]),(3,.row 3 1 (List.map e3 l1))] 5 5),Can.kp (by kernel_rfl),rdX trivial rfl (by kernel_rfl) (by kernel_rfl)⟩
 ·rcases out_4 with l | _
  ·refine hK_1 _ ?_
   refine AW.can (Can.fzH 1 0 3 rfl rfl rfl rfl) ?_
   refine AW.kp ⟨[pR 3 1],[(1,.var 29 [.d (.sl 1 (List.map e3 l))]),(4,.dm)],5,Fr.emp,[4],0⟩ (by kernel_rfl) ?_
   refine AW.srwK (fun Q_7 hQ_7=>?_)
   refine Au 2 ⟨[pR 3 1,(12,.d (.sl 1 (List.map e3 l))),(13,.d (.sl 1 (List.map e3 l)))],[(1,.var 29 [.d (.sl 1 (List.map e3 l))]),(4,.dm)],5,Fr.emp,[4],0⟩ ?_
   refine rL rfl ?_
   refine Au 1 ⟨[(12,.d (.sl 1 (List.map e3 l))),(14,jI (l.length:Int)),(15,.d (.sl 1 (List.map e3 l)))],[(4,.dm)],5,Fr.emp,[4],0⟩ ?_
   refine rL rfl ?_
   obtain ⟨l2,hv_8,h⟩:=bsome h
   refine RW.one fokW (r_slN trivial rfl rfl rfl DSl.d (slcL_ok hv_8).2.1 (by rw [List.length_map];exact (slcL_ok hv_8).2.2.1) rfl (slz hv_8 e3) (r_end ?_))
   refine Au 1 ⟨[(2,.fsl 1 (List.map e3 l2))],[(4,.dm)],5,Fr.emp,[4],0⟩ ?_
   refine RW.nil (hQ_7 _ ?_)
   obtain rfl:=Option.some.inj h
   exact AW.ret (hR_0 _ (retX (.cons (.tmp rfl) .nil) (.fsl _ _) rfl (by kernel_rfl) (by kernel_rfl)))
  ·cases h
def g17 (x:MakerBook):Option ((List Int)×Int):=(g31 x true).bind fun r_10=>match r_10 with | .next (r0_MakerBook5,r0_seen5,r1_2)=>(must (decide (r1_2≠0))).bind fun _=>some ([],r1_2) | .brk (r0_MakerBook6,r0_seen6,mf2,r1_3)=>bif (decide (r1_3≠0)) then (some ([],r1_3)) else ((g32 r0_MakerBook6 r0_seen6 mf2).bind fun r0=>some (r0,0))
theorem k17 (x:MakerBook) (r:(List Int)×Int) (h:g17 x=some r):SCall Tryd.prog Gs 17 [.agg [.d (.sl 1 (List.map e29 x.Makers)),.d (.sl 2 (List.map e83 x.Seen)),jI x.Repairs,jI x.Fixed]] [] 0 Fr.emp (match r with | (r0_3,r1_4)=>.tup [.d (.sl 1 (List.map e3 r0_3)),jI r1_4]) [] 0 Fr.emp:=by
 unfold g17 at h
 refine SCall.mkK Tryd.func17 c17 rfl rfl (by kernel_rfl) (fun Q_0 hR_0 hN_0=>?_)
 refine Sa (sT [pR 1 0] [(0,.var 37 (cv37 x))] 1 0) ?_
 refine AW.srwK (fun Q_1 hQ_1=>?_)
 refine Au 1 (sT [(7,.agg [.d (.sl 1 (List.map e29 x.Makers)),.d (.sl 2 (List.map e83 x.Seen)),jI x.Repairs,jI x.Fixed])] [] 1 0) ?_
 obtain ⟨r_10,hx_2,h⟩:=bsome h
 rcases r_10 with (⟨r0_MakerBook5,r0_seen5,r1_2⟩ | (⟨r0_MakerBook6,r0_seen6,mf2,r1_3⟩))
 ·refine rC (k31 x true _ hx_2) ?_
  obtain ⟨_,hv_3,h⟩:=bsome h
  have hf_4:=must_ok hv_3
  refine Au 6 (sT [pR 4 1,(5,jI r1_2)] [(1,.var 78 (catV (cv37 r0_MakerBook5) [jI (r0_seen5 0),jI (r0_seen5 1),jI (r0_seen5 2),jI (r0_seen5 3),jI (r0_seen5 4),jI (r0_seen5 5),.d (.nilMap)]))] 2 0) ?_
  refine RW.nil (hQ_1 _ ?_)
  refine AW.seqK (fun K_5 hK_5=>?_)
  refine Sa (sT [pR 4 1,(5,jI r1_2),(12,.d (.bool (decide (r1_2≠0))))] [(1,.var 78 (catV (cv37 r0_MakerBook5) [jI (r0_seen5 0),jI (r0_seen5 1),jI (r0_seen5 2),jI (r0_seen5 3),jI (r0_seen5 4),jI (r0_seen5 5),.d (.nilMap)]))] 2 0) ?_
  refine AW.cond rfl (fun hb_6=>?_) (fun hb_6=>False.elim (by rw [hf_4] at hb_6;cases hb_6))
  refine Sa (sT [(2,.d (.nilSl)),(3,jI r1_2)] [] 2 0) ?_
  obtain rfl:=Option.some.inj h
  exact AW.ret (hR_0 _ (retX (.cons (.tmp rfl) (.cons (.tmp rfl) .nil)) (Frz.tup_of ⟨.nil 1,.refl _,trivial⟩) rfl (by kernel_rfl) (by kernel_rfl)))
 ·refine rC (k31 x true _ hx_2) ?_
  refine Au 6 (sT [pR 4 1,(5,jI r1_3)] [(1,.var 78 (catV (cv37 r0_MakerBook6) [jI (r0_seen6 0),jI (r0_seen6 1),jI (r0_seen6 2),jI (r0_seen6 3),jI (r0_seen6 4),jI (r0_seen6 5),.fmp (List.map m99_4 mf2)]))] 2 0) ?_
  refine RW.nil (hQ_1 _ ?_)
  refine AW.seqK (fun K_7 hK_7=>?_)
  refine Sa (sT [pR 4 1,(5,jI r1_3),(12,.d (.bool (decide (r1_3≠0))))] [(1,.var 78 (catV (cv37 r0_MakerBook6) [jI (r0_seen6 0),jI (r0_seen6 1),jI (r0_seen6 2),jI (r0_seen6 3),jI (r0_seen6 4),jI (r0_seen6 5),.fmp (List.map m99_4 mf2)]))] 2 0) ?_
  refine AW.cond rfl (fun hb_8=>?_) (fun hb_8=>?_)
  ·have h:=ifT hb_8 h
   refine Sa (sT [(2,.d (.nilSl)),(3,jI r1_3)] [] 2 0) ?_
   obtain rfl:=Option.some.inj h
   exact AW.ret (hR_0 _ (retX (.cons (.tmp rfl) (.cons (.tmp rfl) .nil)) (Frz.tup_of ⟨.nil 1,.refl _,trivial⟩) rfl (by kernel_rfl) (by kernel_rfl)))
  ·have h:=ifF hb_8 h
   refine AW.skip (hK_7 _ ?_)
   refine AW.srwK (fun Q_9 hQ_9=>?_)
   refine Au 1 (sT [(14,.agg [.d (.sl 1 (List.map e29 r0_MakerBook6.Makers)),.d (.sl 2 (List.map e83 r0_MakerBook6.Seen)),jI r0_MakerBook6.Repairs,jI r0_MakerBook6.Fixed,jI (r0_seen6 0),jI (r0_seen6 1),jI (r0_seen6 2),jI (r0_seen6 3),jI (r0_seen6 4),jI (r0_seen6 5),.fmp (List.map m99_4 mf2)])] [] 2 0) ?_
   obtain ⟨r0,hx_10,h⟩:=bsome h
   refine rC (k32 r0_MakerBook6 r0_seen6 mf2 _ hx_10) ?_
   refine Au 2 (sT [(2,.d (.sl 1 (List.map e3 r0))),(3,jI 0)] [] 2 0) ?_
   refine RW.nil (hQ_9 _ ?_)
   obtain rfl:=Option.some.inj h
   exact rT hR_0 (.cons (.tmp rfl) (.cons (.tmp rfl) .nil))
def g33 (x:DappleBook) (n:Int):Option Bool:=(g28 n 0 (wr ((x.Horses.length:Int) - 1))).bind fun r0=>some r0
theorem k33 (x:DappleBook) (n:Int) (r:Bool) (h:g33 x n=some r):SCall Tryd.prog Gs 33 [.agg [jI x.Round,.d (.sl 1 (List.map e29 x.Horses))],jI n] [] 0 Fr.emp (.d (.bool r)) [] 0 Fr.emp:=by
 unfold g33 at h
 refine SCall.mkK Tryd.func33 c33 rfl rfl (by kernel_rfl) (fun Q_0 hR_0 hN_0=>?_)
 refine Sa (sT [(1,jI n),pR 2 0] [(0,.var 24 [jI x.Round,.d (.sl 1 (List.map e29 x.Horses))])] 1 0) ?_
 refine AW.srwK (fun Q_1 hQ_1=>?_)
 refine Au 3 (sT [(5,jI n),(7,.d (.sl 1 (List.map e29 x.Horses)))] [] 1 0) ?_
 refine rL rfl ?_
 refine Au 1 (sT [(5,jI n),(9,jI (wr ((x.Horses.length:Int) - 1)))] [] 1 0) ?_
 obtain ⟨r0,hx_2,h⟩:=bsome h
 refine rC (k28 n 0 (wr ((x.Horses.length:Int) - 1)) _ hx_2) ?_
 refine Au 1 (sT [(4,.d (.bool r0))] [] 1 0) ?_
 refine RW.nil (hQ_1 _ ?_)
 obtain rfl:=Option.some.inj h
 exact rT hR_0 (.cons (.tmp rfl) .nil)
def g20 (x:DappleBook) (one:Int) (other:Int):Option (Ctl (DappleBook×(List (Nat→Int))×Int) (DappleBook×(List (Nat→Int))×Int×(List (Dapple_turn×Bool)))):=(g13 x).bind fun r0_4=>bif (decide (r0_4≠0)) then (some (.next ((DappleBook.mk 0 []),[],r0_4))) else ((g33 x one).bind fun r0_1=>(bif (!r0_1) then (some true) else ((g33 x other).bind fun r0_1_1=>some (!r0_1_1))).bind fun v=>bif (v||(decide (one=other))) then (some (.next ((DappleBook.mk 0 []),[],71))) else ((g22 x).bind fun (r0_DappleBook,r0_rows,m2)=>some (.brk (r0_DappleBook,r0_rows,0,m2))))
def y30 (x:DappleBook):List (Nat×Blk):=[(1,.var 53 [jI 0,.d (.nilSl),.d (.nilSl),.d (.nilMap)]),(0,.var 24 [jI x.Round,.d (.sl 1 (List.map e29 x.Horses))])]
theorem k20 (x:DappleBook) (one:Int) (other:Int) (r:Ctl (DappleBook×(List (Nat→Int))×Int) (DappleBook×(List (Nat→Int))×Int×(List (Dapple_turn×Bool)))) (h:g20 x one other=some r):SCall Tryd.prog Gs 20 [.agg [jI x.Round,.d (.sl 1 (List.map e29 x.Horses))],jI one,jI other] [] 0 Fr.emp (match r with | .next (r0_DappleBook3,r0_rows3,r1_1)=>.tup [.agg [jI r0_DappleBook3.Round,.d (.sl 1 (List.map e29 r0_DappleBook3.Horses)),.d (.sl 8 (List.map e60 r0_rows3)),.d (.nilMap)],jI r1_1] | .brk (r0_DappleBook4,r0_rows4,r1_2,m4)=>.tup [.agg [jI r0_DappleBook4.Round,.d (.sl 1 (List.map e29 r0_DappleBook4.Horses)),.d (.sl 8 (List.map e60 r0_rows4)),.map 4],jI r1_2]) (match r with | .next (r0_DappleBook3,r0_rows3,r1_1)=>[] | .brk (r0_DappleBook4,r0_rows4,r1_2,m4)=>[(4,.mp (List.map m87_4 m4))]) (match r with | .next (r0_DappleBook3,r0_rows3,r1_1)=>0 | .brk (r0_DappleBook4,r0_rows4,r1_2,m4)=>5) Fr.emp:=by
 unfold g20 at h
 refine SCall.mkK Tryd.func20 c20 rfl (by rcases r with _ | _<;>rfl) (by rcases r with _ | _<;>kernel_rfl) (fun Q_0 hR_0 hN_0=>?_)
 refine Sa (sT [(1,jI one),(2,jI other),pR 3 0,pR 6 1] (y30 x) 2 0) ?_
 refine AW.seqK fun K_1 hK_1=>AW.srwK fun Q_2 hQ_2=>?_
 refine Au 1 (sT [(1,jI one),(2,jI other),pR 3 0,pR 6 1,(9,.agg [jI x.Round,.d (.sl 1 (List.map e29 x.Horses))])] (y30 x) 2 0) ?_
 obtain ⟨r0_4,hx_3,h⟩:=bsome h
 refine rC (k13 x _ hx_3) ?_
 refine Au 1 (sT [(1,jI one),(2,jI other),pR 3 0,pR 6 1,(8,jI r0_4)] (y30 x) 2 0) ?_
 refine RW.nil (hQ_2 _ ?_)
 refine Sa (sT [(1,jI one),(2,jI other),pR 3 0,pR 6 1,(8,jI r0_4),(12,.d (.bool (decide (r0_4≠0))))] (y30 x) 2 0) ?_
 refine AW.cond rfl (fun hb_4=>?_) (fun hb_4=>?_)
 ·have h:=ifT hb_4 h
  refine Sa (sT [pR 6 1,(7,jI r0_4)] [(1,.var 53 [jI 0,.d (.nilSl),.d (.nilSl),.d (.nilMap)])] 2 0) ?_
  obtain rfl:=Option.some.inj h
  exact AW.ret (hR_0 _ (retX (.cons (.agg rfl rfl (Nat.le_of_ble_eq_true rfl)) (.cons (.tmp rfl) .nil)) (Frz.tup_of ⟨Frz.agg_of ⟨.refl _,(.nil 1),(.nil 8),.refl _,trivial⟩,.refl _,trivial⟩) rfl (by kernel_rfl) (by kernel_rfl)))
 ·have h:=ifF hb_4 h
  refine AW.skip (hK_1 _ ?_)
  refine AW.seqK fun K_5 hK_5=>AW.srwK fun Q_6 hQ_6=>?_
  refine Au 2 (sT [(1,jI one),(2,jI other),pR 3 0,pR 6 1,(15,.agg [jI x.Round,.d (.sl 1 (List.map e29 x.Horses))]),(16,jI one)] (y30 x) 2 0) ?_
  obtain ⟨r0_1,hx_7,h⟩:=bsome h
  refine rC (k33 x one _ hx_7) ?_
  refine Au 2 (sT [(1,jI one),(2,jI other),pR 3 0,pR 6 1,(19,.d (.bool (!r0_1)))] (y30 x) 2 0) ?_
  obtain ⟨v,hx_8,h⟩:=bsome h
  refine RW.cut fokW 5 ((sT [(1,jI one),(2,jI other),pR 3 0,pR 6 1,(24,.d (.bool v))] (y30 x) 2 0)) ?_ ?_
  ·refine r_split 19 rfl (fun hb_10=>?_) (fun hb_10=>?_)
   ·have h:=ifT hb_10 hx_8
    refine aX 5 (sT [(1,jI one),(2,jI other),pR 3 0,pR 6 1,(24,.d (.bool true))] (y30 x) 2 0) ?_
    obtain rfl:=Option.some.inj h
    refine RunC.finJ (Can.kp (by kernel_rfl))
   ·have h:=ifF hb_10 hx_8
    refine aX 2 (sT [(1,jI one),(2,jI other),pR 3 0,pR 6 1,(19,.d (.bool false)),(20,.agg [jI x.Round,.d (.sl 1 (List.map e29 x.Horses))]),(21,jI other)] (y30 x) 2 0) ?_
    obtain ⟨r0_1_1,hx_9,h⟩:=bsome h
    refine r_call rfl rfl (k33 x other _ hx_9) rfl rfl ?_
    refine aX 2 (sT [(1,jI one),(2,jI other),pR 3 0,pR 6 1,(24,.d (.bool (!r0_1_1)))] (y30 x) 2 0) ?_
    obtain rfl:=Option.some.inj h
    refine RunC.finJ (Can.kp (by kernel_rfl))
  ·refine RW.au fokW 5 [25] (sT [pR 3 0,pR 6 1,(29,.d (.bool (v||(decide (one=other)))))] (y30 x) 2 0) (by kernel_rfl) ?_
   refine RW.nil (hQ_6 _ ?_)
   refine AW.cond rfl (fun hb_11=>?_) (fun hb_11=>?_)
   ·have h:=ifT hb_11 h
    refine Sa (sT [pR 6 1,(7,jI 71)] [(1,.var 53 [jI 0,.d (.nilSl),.d (.nilSl),.d (.nilMap)])] 2 0) ?_
    obtain rfl:=Option.some.inj h
    exact AW.ret (hR_0 _ (retX (.cons (.agg rfl rfl (Nat.le_of_ble_eq_true rfl)) (.cons (.tmp rfl) .nil)) (Frz.tup_of ⟨Frz.agg_of ⟨.refl _,(.nil 1),(.nil 8),.refl _,trivial⟩,.refl _,trivial⟩) rfl (by kernel_rfl) (by kernel_rfl)))
   ·have h:=ifF hb_11 h
    refine AW.skip (hK_5 _ ?_)
    refine AW.srwK (fun Q_12 hQ_12=>?_)
    refine Au 1 (sT [pR 6 1,(31,.agg [jI x.Round,.d (.sl 1 (List.map e29 x.Horses))])] [(1,.var 53 [jI 0,.d (.nilSl),.d (.nilSl),.d (.nilMap)])] 2 0) ?_
    obtain ⟨⟨r0_DappleBook,r0_rows,m2⟩,hx_13,h⟩:=bsome h
    refine RW.one fokW (r_callS (zr:=[]) [] trivial rfl (k22 x _ hx_13) trivial rfl rfl ⟨.refl _,trivial⟩ rfl rfl rfl (r_end ?_))
    refine Au 2 (sT [pR 6 1,(7,jI 0)] [(1,.var 53 [jI r0_DappleBook.Round,.d (.sl 1 (List.map e29 r0_DappleBook.Horses)),.d (.sl 8 (List.map e60 r0_rows)),.map 4]),(4,.mp (List.map m87_4 m2))] 5 0) ?_
    refine RW.nil (hQ_12 _ ?_)
    obtain rfl:=Option.some.inj h
    exact rT hR_0 (.cons (.agg rfl rfl (Nat.le_of_ble_eq_true rfl)) (.cons (.tmp rfl) .nil))
end Go.Proofs.Ta
