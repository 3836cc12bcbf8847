/- Told functions, and that the program does so, part 3. Conditions: none. -/
import Derived.Test.YtjooihelppcfkaaDoorTdb
set_option linter.unusedVariables false
set_option linter.unusedSimpArgs false
namespace Go.Proofs.Tr
open Go Go.Abs Go.Proofs
def g65_4 (r0_4:(List Int)):Int→(List Int)→(List Int)→Option (List Int):=fun i p l=>(g41 r0_4 i).bind fun r0_1=>bif (decide (r0_1<0)) then ((appL 8 l [i]).bind fun l1=>some l1) else (some l)
def g65 (b:HarnessBook):Option (List Int):=(g96 b.Hair).bind fun (r0_4,r1_1)=>(eachS (g65_4 r0_4) b.Needs 0 ([]:List Int)).bind fun l=>some l
theorem k65 (b:HarnessBook) (r:(List Int)) (h:g65 b=some r):SCall Tryd.prog Gs 65 [.agg (cv29 b)] [] 0 Fr.emp (.d (q1 r)) [] 0 Fr.emp:=by
 unfold g65 at h
 refine SCall.mkK Tryd.func65 c65 rfl rfl (by kernel_rfl) (fun Q_0 hR_0 hN_0=>?_)
 refine Sa (sT [pR 1 0] [(0,.var 29 (cv29 b))] 1 0) ?_
 refine AW.srwK (fun Q_1 hQ_1=>?_)
 refine Au 2 (sT [pR 1 0,(9,.agg (cv25 b.Hair))] [(0,.var 29 (cv29 b))] 1 0) ?_
 obtain ⟨⟨r0_4,r1_1⟩,hx_2,h⟩:=bsome h
 refine rC (k96 b.Hair _ hx_2) ?_
 refine Au 5 (sT [pR 1 0,(3,.d (q1 r0_4))] [(0,.var 29 (cv29 b))] 1 0) ?_
 refine RW.nil (hQ_1 _ ?_)
 refine Sa (sT [pR 1 0,(3,.d (q1 r0_4)),(5,.own 1 (List.map e3 []).length)] [(1,.row 3 1 (List.map e3 [])),(0,.var 29 (cv29 b))] 2 0) ?_
 refine AW.seqK (fun K_3 hK_3=>?_)
 refine Sa (sT [pR 1 0,(3,.d (q1 r0_4)),(5,.own 1 (List.map e3 []).length),(6,jI 0)] [(1,.row 3 1 (List.map e3 [])),(0,.var 29 (cv29 b))] 2 0) ?_
 refine AW.block ?_
 refine AW.slh (r:=0) (off:=5) rfl rfl (fun hN_4=>?_)
 rw [List.length_map] at hN_4
 obtain ⟨out_4,hx_4,h⟩:=bsome h
 refine AW.evSK (fun (i:Int) (l:List Int)=>(sT [pR 1 0,(3,.d (q1 r0_4)),(5,.own 1 (List.map e3 l).length),(6,jI i)] [(1,.row 3 1 (List.map e3 l)),(0,.var 29 (cv29 b))] 2 0)) (g65_4 r0_4) hx_4 (Can.kp (by kernel_rfl)) (fun i p l hi_4 hl_4 hp_4 c_4 h K_4 hK_4=>?_) (fun i l hi_4 hl_4 hout=>?_)
 ·unfold g65_4 at h
  refine AW.seqK fun K_5 hK_5=>AW.srwK fun Q_6 hQ_6=>?_
  refine Au 3 (sT [pR 1 0,(3,.d (q1 r0_4)),(5,.own 1 (List.map e3 l).length),(6,jI i),(14,jI i),(16,.d (.sl 1 (List.map e30 b.Needs)))] [(1,.row 3 1 (List.map e3 l)),(0,.var 29 (cv29 b))] 2 0) ?_
  refine rL rfl ?_
  refine Au 1 (sT [pR 1 0,(3,.d (q1 r0_4)),(5,.own 1 (List.map e3 l).length),(6,jI i),(18,.d (.bool (decide (i<(b.Needs.length:Int)))))] [(1,.row 3 1 (List.map e3 l)),(0,.var 29 (cv29 b))] 2 0) ?_
  refine RW.nil (hQ_6 _ ?_)
  refine AW.cond rfl (fun hb_7=>?_) (fun hb_7=>False.elim (by have:=of_decide_eq_false hb_7;omega))
  refine AW.skip (hK_5 _ ?_)
  refine AW.seqK (fun K_8 hK_8=>?_)
  refine AW.block ?_
  refine AW.srwK (fun Q_9 hQ_9=>?_)
  refine Au 2 (sT [pR 1 0,(3,.d (q1 r0_4)),(5,.own 1 (List.map e3 l).length),(6,jI i),(21,.d (q1 r0_4)),(22,jI i)] [(1,.row 3 1 (List.map e3 l)),(0,.var 29 (cv29 b))] 2 0) ?_
  obtain ⟨r0_1,hx_10,h⟩:=bsome h
  refine rC (k41 r0_4 i _ hx_10) ?_
  refine Au 1 (sT [pR 1 0,(3,.d (q1 r0_4)),(5,.own 1 (List.map e3 l).length),(6,jI i),(24,.d (.bool (decide (r0_1<0))))] [(1,.row 3 1 (List.map e3 l)),(0,.var 29 (cv29 b))] 2 0) ?_
  refine RW.nil (hQ_9 _ ?_)
  refine AW.cond rfl (fun hb_11=>?_) (fun hb_11=>?_)
  ·have h:=ifT hb_11 h
   refine AW.rw ?_
   refine Au 3 (sT [pR 1 0,(3,.d (q1 r0_4)),(6,jI i),(25,.own 1 (List.map e3 l).length),(27,.own 2 (List.map e3 [i]).length)] [(2,.row 3 1 (List.map e3 [i])),(1,.row 3 1 (List.map e3 l)),(0,.var 29 (cv29 b))] 3 0) ?_
   obtain ⟨l1,hv_13,h⟩:=bsome h
   refine RW.one fokW (r_apO trivial rfl rfl rfl rfl rfl rfl (apz hv_13 e3) (apr hv_13 e3) (r_end ?_))
   refine Au 1 (sT [pR 1 0,(3,.d (q1 r0_4)),(5,.own 1 (List.map e3 l1).length),(6,jI i)] [(1,.row 3 1 (List.map e3 l1)),(0,.var 29 (cv29 b))] 3 0) ?_
   refine RW.nil ?_
   refine hK_8 _ ?_
   refine Ra (sT [pR 1 0,(3,.d (q1 r0_4)),(5,.own 1 (List.map e3 l1).length),(6,jI (wr (i+1)))] [(1,.row 3 1 (List.map e3 l1)),(0,.var 29 (cv29 b))] 3 0) ?_
   obtain rfl:=Option.some.inj h
   have ew:wr (i+1)=i+1:=inext (N:=(b.Needs.length:Int)) (by omega) (by omega) (by omega)
   rw [ew]
   exact hK_4 _ (Can.kp (by kernel_rfl))
  ·have h:=ifF hb_11 h
   refine AW.skip (hK_8 _ ?_)
   refine Ra (sT [pR 1 0,(3,.d (q1 r0_4)),(5,.own 1 (List.map e3 l).length),(6,jI (wr (i+1)))] [(1,.row 3 1 (List.map e3 l)),(0,.var 29 (cv29 b))] 2 0) ?_
   obtain rfl:=Option.some.inj h
   have ew:wr (i+1)=i+1:=inext (N:=(b.Needs.length:Int)) (by omega) (by omega) (by omega)
   rw [ew]
   exact hK_4 _ (Can.kp (by kernel_rfl))
 ·subst hout
  refine AW.seqK fun K_14 hK_14=>AW.srwK fun Q_15 hQ_15=>?_
  refine Au 3 (sT [pR 1 0,(3,.d (q1 r0_4)),(5,.own 1 (List.map e3 l).length),(6,jI i),(14,jI i),(16,.d (.sl 1 (List.map e30 b.Needs)))] [(1,.row 3 1 (List.map e3 l)),(0,.var 29 (cv29 b))] 2 0) ?_
  refine rL rfl ?_
  refine Au 1 (sT [pR 1 0,(3,.d (q1 r0_4)),(5,.own 1 (List.map e3 l).length),(6,jI i),(18,.d (.bool (decide (i<(b.Needs.length:Int)))))] [(1,.row 3 1 (List.map e3 l)),(0,.var 29 (cv29 b))] 2 0) ?_
  refine RW.nil (hQ_15 _ ?_)
  refine AW.cond rfl (fun hb_16=>False.elim (by have:=of_decide_eq_true hb_16;omega)) (fun hb_16=>?_)
  refine AW.exit ?_
  refine hK_3 _ ?_
  refine Sa (sT [(2,.own 1 (List.map e3 l).length)] [(1,.row 3 1 (List.map e3 l))] 2 0) ?_
  obtain rfl:=Option.some.inj h
  exact AW.ret (hR_0 _ (retX (.cons (.tmp rfl) .nil) (.own rfl rfl) rfl (by kernel_rfl) (by kernel_rfl)))
def g81_4 (b:HarnessBook) (kind:Int):Int→Int→Int→Option Int:=fun i p n=>(ixL b.Needs p).bind fun p1=>(ixL p1 kind).bind fun p2=>some (wr (n+p2))
def g81 (b:HarnessBook) (kind:Int):Option Int:=(g65 b).bind fun r0=>(eachS (g81_4 b kind) r0 0 0).bind fun n=>some n
theorem k81 (b:HarnessBook) (kind:Int) (r:Int) (h:g81 b kind=some r):SCall Tryd.prog Gs 81 [.agg (cv29 b),jI kind] [] 0 Fr.emp (jI r) [] 0 Fr.emp:=by
 unfold g81 at h
 refine SCall.mkK Tryd.func81 c81 rfl rfl (by kernel_rfl) (fun Q_0 hR_0 hN_0=>?_)
 refine Sa (sT [(1,jI kind),pR 2 0] [(0,.var 29 (cv29 b))] 1 0) ?_
 refine AW.srwK (fun Q_1 hQ_1=>?_)
 refine Au 1 (sT [(1,jI kind),pR 2 0,(8,.agg (cv29 b))] [(0,.var 29 (cv29 b))] 1 0) ?_
 obtain ⟨r0,hx_2,h⟩:=bsome h
 refine rC (k65 b _ hx_2) ?_
 refine Au 2 (sT [(1,jI kind),pR 2 0,(5,jI 0),(6,.d (q1 r0))] [(0,.var 29 (cv29 b))] 1 0) ?_
 refine RW.nil (hQ_1 _ ?_)
 refine AW.seqK (fun K_3 hK_3=>?_)
 refine Sa (sT [(1,jI kind),pR 2 0,(5,jI 0),(6,.d (q1 r0)),(7,jI 0)] [(0,.var 29 (cv29 b))] 1 0) ?_
 refine AW.block ?_
 refine AW.sln (t:=6) rfl (fun hN_4=>?_)
 rw [List.length_map] at hN_4
 obtain ⟨out_4,hx_4,h⟩:=bsome h
 refine AW.evSK (fun (i:Int) (n:Int)=>(sT [(1,jI kind),pR 2 0,(5,jI n),(6,.d (q1 r0)),(7,jI i)] [(0,.var 29 (cv29 b))] 1 0)) (g81_4 b kind) hx_4 (Can.kp (by kernel_rfl)) (fun i p n hi_4 hl_4 hp_4 c_4 h K_4 hK_4=>?_) (fun i n hi_4 hl_4 hout=>?_)
 ·unfold g81_4 at h
  refine AW.seqK fun K_5 hK_5=>AW.srwK fun Q_6 hQ_6=>?_
  refine Au 2 (sT [(1,jI kind),pR 2 0,(5,jI n),(6,.d (q1 r0)),(7,jI i),(10,jI i),(11,.d (q1 r0))] [(0,.var 29 (cv29 b))] 1 0) ?_
  refine rL rfl ?_
  refine Au 1 (sT [(1,jI kind),pR 2 0,(5,jI n),(6,.d (q1 r0)),(7,jI i),(13,.d (.bool (decide (i<(r0.length:Int)))))] [(0,.var 29 (cv29 b))] 1 0) ?_
  refine RW.nil (hQ_6 _ ?_)
  refine AW.cond rfl (fun hb_7=>?_) (fun hb_7=>False.elim (by have:=of_decide_eq_false hb_7;omega))
  refine AW.skip (hK_5 _ ?_)
  refine AW.seqK (fun K_8 hK_8=>?_)
  refine AW.block ?_
  refine AW.drw fokW ?_
  refine aX 5 (sT [(1,jI kind),pR 2 0,(6,.d (q1 r0)),(7,jI i),(16,jI n),(18,.d (.sl 1 (List.map e30 b.Needs))),(19,.d (q1 r0)),(20,jI i)] [(0,.var 29 (cv29 b))] 1 0) ?_
  refine r_iaD trivial rfl rfl hi_4 (row:=e3 p) (mapget hp_4) ?_
  refine aX 1 (sT [(1,jI kind),pR 2 0,(6,.d (q1 r0)),(7,jI i),(16,jI n),(18,.d (.sl 1 (List.map e30 b.Needs))),(22,jI p)] [(0,.var 29 (cv29 b))] 1 0) ?_
  obtain ⟨p1,hv_10,h⟩:=bsome h
  refine r_iaD trivial rfl rfl (ixL_ok hv_10).1 (row:=e30 p1) (mapget (ixL_ok hv_10).2) ?_
  refine aX 2 (sT [(1,jI kind),pR 2 0,(6,.d (q1 r0)),(7,jI i),(16,jI n),(24,.d (q1 p1)),(25,jI kind)] [(0,.var 29 (cv29 b))] 1 0) ?_
  obtain ⟨p2,hv_11,h⟩:=bsome h
  refine r_iaD trivial rfl rfl (ixL_ok hv_11).1 (row:=e3 p2) (mapget (ixL_ok hv_11).2) ?_
  refine aX 3 (sT [(1,jI kind),pR 2 0,(5,jI (wr (n+p2))),(6,.d (q1 r0)),(7,jI i)] [(0,.var 29 (cv29 b))] 1 0) ?_
  refine Fi (sT [(1,jI kind),pR 2 0,(5,jI (wr (n+p2))),(6,.d (q1 r0)),(7,jI i)] [(0,.var 29 (cv29 b))] 1 0) ?_
  refine hK_8 _ ?_
  refine Ra (sT [(1,jI kind),pR 2 0,(5,jI (wr (n+p2))),(6,.d (q1 r0)),(7,jI (wr (i+1)))] [(0,.var 29 (cv29 b))] 1 0) ?_
  obtain rfl:=Option.some.inj h
  have ew:wr (i+1)=i+1:=inext (N:=(r0.length:Int)) (by omega) (by omega) (by omega)
  rw [ew]
  exact hK_4 _ (Can.kp (by kernel_rfl))
 ·subst hout
  refine AW.seqK fun K_12 hK_12=>AW.srwK fun Q_13 hQ_13=>?_
  refine Au 2 (sT [(1,jI kind),pR 2 0,(5,jI n),(6,.d (q1 r0)),(7,jI i),(10,jI i),(11,.d (q1 r0))] [(0,.var 29 (cv29 b))] 1 0) ?_
  refine rL rfl ?_
  refine Au 1 (sT [(1,jI kind),pR 2 0,(5,jI n),(6,.d (q1 r0)),(7,jI i),(13,.d (.bool (decide (i<(r0.length:Int)))))] [(0,.var 29 (cv29 b))] 1 0) ?_
  refine RW.nil (hQ_13 _ ?_)
  refine AW.cond rfl (fun hb_14=>False.elim (by have:=of_decide_eq_true hb_14;omega)) (fun hb_14=>?_)
  refine AW.exit ?_
  refine hK_3 _ ?_
  refine Sa (sT [(4,jI n)] [] 1 0) ?_
  obtain rfl:=Option.some.inj h
  exact rT hR_0 (.cons (.tmp rfl) .nil)
def g26 (b:HarnessBook) (kind:Int):Option (Span×Int):=(g19 b).bind fun r0_6=>bif (decide (r0_6≠0)) then (some ((Span.mk 0 0),r0_6)) else ((g80 b kind).bind fun r0_1=>bif (!r0_1) then (some ((Span.mk 0 0),101)) else ((g81 b kind).bind fun r0_1_1=>(ixL b.Stock kind).bind fun p=>(g46 (max 0 (wr (r0_1_1 - p.High))) (max 0 (wr (r0_1_1 - p.Low)))).bind fun r0=>some (r0,0)))
theorem k26 (b:HarnessBook) (kind:Int) (r:Span×Int) (h:g26 b kind=some r):SCall Tryd.prog Gs 26 [.agg (cv29 b),jI kind] [] 0 Fr.emp (match r with | (r0_4,r1_2)=>.tup [.agg [jI r0_4.Low,jI r0_4.High],jI r1_2]) [] 0 Fr.emp:=by
 unfold g26 at h
 refine SCall.mkK Tryd.func26 c26 rfl rfl (by kernel_rfl) (fun Q_0 hR_0 hN_0=>?_)
 refine Sa (sT [(1,jI kind),pR 2 0,pR 4 1] [(1,.var 37 [jI 0,jI 0]),(0,.var 29 (cv29 b))] 2 0) ?_
 refine AW.seqK fun K_1 hK_1=>AW.srwK fun Q_2 hQ_2=>?_
 refine Au 1 (sT [(1,jI kind),pR 2 0,pR 4 1,(9,.agg (cv29 b))] [(1,.var 37 [jI 0,jI 0]),(0,.var 29 (cv29 b))] 2 0) ?_
 obtain ⟨r0_6,hx_3,h⟩:=bsome h
 refine rC (k19 b _ hx_3) ?_
 refine Au 1 (sT [(1,jI kind),pR 2 0,pR 4 1,(6,jI r0_6)] [(1,.var 37 [jI 0,jI 0]),(0,.var 29 (cv29 b))] 2 0) ?_
 refine RW.nil (hQ_2 _ ?_)
 refine Sa (sT [(1,jI kind),pR 2 0,pR 4 1,(6,jI r0_6),(12,.d (.bool (decide (r0_6≠0))))] [(1,.var 37 [jI 0,jI 0]),(0,.var 29 (cv29 b))] 2 0) ?_
 refine AW.cond rfl (fun hb_4=>?_) (fun hb_4=>?_)
 ·have h:=ifT hb_4 h
  refine Sa (sT [pR 4 1,(5,jI r0_6)] [(1,.var 37 [jI 0,jI 0])] 2 0) ?_
  obtain rfl:=Option.some.inj h
  exact rT hR_0 (.cons (.agg rfl rfl (Nat.le_of_ble_eq_true rfl)) (.cons (.tmp rfl) .nil))
 ·have h:=ifF hb_4 h
  refine AW.skip (hK_1 _ ?_)
  refine AW.seqK fun K_5 hK_5=>AW.srwK fun Q_6 hQ_6=>?_
  refine Au 2 (sT [(1,jI kind),pR 2 0,pR 4 1,(15,.agg (cv29 b)),(16,jI kind)] [(1,.var 37 [jI 0,jI 0]),(0,.var 29 (cv29 b))] 2 0) ?_
  obtain ⟨r0_1,hx_7,h⟩:=bsome h
  refine rC (k80 b kind _ hx_7) ?_
  refine Au 1 (sT [(1,jI kind),pR 2 0,pR 4 1,(18,.d (.bool (!r0_1)))] [(1,.var 37 [jI 0,jI 0]),(0,.var 29 (cv29 b))] 2 0) ?_
  refine RW.nil (hQ_6 _ ?_)
  refine AW.cond rfl (fun hb_8=>?_) (fun hb_8=>?_)
  ·have h:=ifT hb_8 h
   refine Sa (sT [pR 4 1,(5,jI 101)] [(1,.var 37 [jI 0,jI 0])] 2 0) ?_
   obtain rfl:=Option.some.inj h
   exact rT hR_0 (.cons (.agg rfl rfl (Nat.le_of_ble_eq_true rfl)) (.cons (.tmp rfl) .nil))
  ·have h:=ifF hb_8 h
   refine AW.skip (hK_5 _ ?_)
   refine AW.sdrwK fokW (fun Q_9 hQ_9=>?_)
   refine aX 2 (sT [(1,jI kind),pR 2 0,pR 4 1,(20,.agg (cv29 b)),(21,jI kind)] [(1,.var 37 [jI 0,jI 0]),(0,.var 29 (cv29 b))] 2 0) ?_
   obtain ⟨r0_1_1,hx_10,h⟩:=bsome h
   refine r_call trivial rfl (k81 b kind _ hx_10) rfl rfl ?_
   refine aX 3 (sT [pR 4 1,(22,jI r0_1_1),(24,.d (.sl 2 (List.map e37 b.Stock))),(25,jI kind)] [(1,.var 37 [jI 0,jI 0]),(0,.var 29 (cv29 b))] 2 0) ?_
   obtain ⟨p,hv_11,h⟩:=bsome h
   refine r_iaD trivial rfl rfl (ixL_ok hv_11).1 (row:=e37 p) (mapget (ixL_ok hv_11).2) ?_
   refine aX 4 (sT [pR 4 1,(7,jI r0_1_1),pR 8 2] [(2,.var 37 [jI p.Low,jI p.High]),(1,.var 37 [jI 0,jI 0]),(0,.var 29 (cv29 b))] 3 0) ?_
   refine Fi (sT [pR 4 1,(7,jI r0_1_1),pR 8 2] [(2,.var 37 [jI p.Low,jI p.High]),(1,.var 37 [jI 0,jI 0])] 3 0) ?_
   refine hQ_9 _ ?_
   refine AW.srwK (fun Q_12 hQ_12=>?_)
   refine Au 10 (sT [pR 4 1,(32,jI (max 0 (wr (r0_1_1 - p.High)))),(37,jI (max 0 (wr (r0_1_1 - p.Low))))] [(1,.var 37 [jI 0,jI 0])] 3 0) ?_
   obtain ⟨r0,hx_13,h⟩:=bsome h
   refine rC (k46 (max 0 (wr (r0_1_1 - p.High))) (max 0 (wr (r0_1_1 - p.Low))) _ hx_13) ?_
   refine Au 2 (sT [pR 4 1,(5,jI 0)] [(1,.var 37 [jI r0.Low,jI r0.High])] 3 0) ?_
   refine RW.nil (hQ_12 _ ?_)
   obtain rfl:=Option.some.inj h
   exact rT hR_0 (.cons (.agg rfl rfl (Nat.le_of_ble_eq_true rfl)) (.cons (.tmp rfl) .nil))
def g83_2 (b:HarnessBook) (kind:Int):Int→Option (Ctl (Int) (Int)):=fun  n1=>(ixL b.Stock kind).bind fun p=>(g81 b kind).bind fun r0_1=>bif (decide ((wr (p.Low+(wr (n1*(wr (b.Pack - b.Bad))))))<r0_1)) then (some (.next (wr (n1+1)))) else (some (.brk n1))
def g83 (b:HarnessBook) (kind:Int):Option Int:=(whileC (g83_2 b kind) 1000 0).bind fun n=>some n
theorem k83 (b:HarnessBook) (kind:Int) (r:Int) (h:g83 b kind=some r):SCall Tryd.prog Gs 83 [.agg (cv29 b),jI kind] [] 0 Fr.emp (jI r) [] 0 Fr.emp:=by
 unfold g83 at h
 refine SCall.mkK Tryd.func83 c83 rfl rfl (by kernel_rfl) (fun Q_0 hR_0 hN_0=>?_)
 refine Sa (sT [(1,jI kind),pR 2 0] [(0,.var 29 (cv29 b))] 1 0) ?_
 refine Sa (sT [(1,jI kind),pR 2 0,(5,jI 0)] [(0,.var 29 (cv29 b))] 1 0) ?_
 obtain ⟨n,hx_1,h⟩:=bsome h
 refine AW.jnSK (fun (n:Int)=>(sT [(5,jI n)] [] 1 0)) (c:=n) (fun K_1 hK_1=>?_) ?_
 ·have h:=hx_1
  refine AW.block ?_
  refine AW.whK (fun (n1:Int)=>(sT [(1,jI kind),pR 2 0,(5,jI n1)] [(0,.var 29 (cv29 b))] 1 0)) (g83_2 b kind) h (Can.kp (by kernel_rfl)) (fun n1 c_2 h hb_2 K_2 hK_2=>?_)
  unfold g83_2 at h
  refine AW.seqK (fun K_3 hK_3=>?_)
  refine AW.sdrwK fokW (fun Q_4 hQ_4=>?_)
  refine aX 3 (sT [(1,jI kind),pR 2 0,(5,jI n1),(7,.d (.sl 2 (List.map e37 b.Stock))),(8,jI kind)] [(0,.var 29 (cv29 b))] 1 0) ?_
  obtain ⟨p,hv_5,h⟩:=bsome h
  refine r_iaD trivial rfl rfl (ixL_ok hv_5).1 (row:=e37 p) (mapget (ixL_ok hv_5).2) ?_
  refine aX 12 (sT [(1,jI kind),pR 2 0,(5,jI n1),(19,jI (wr (p.Low+(wr (n1*(wr (b.Pack - b.Bad))))))),(20,.agg (cv29 b)),(21,jI kind)] [(0,.var 29 (cv29 b))] 1 0) ?_
  obtain ⟨r0_1,hx_6,h⟩:=bsome h
  refine r_call trivial rfl (k81 b kind _ hx_6) rfl rfl ?_
  refine aX 1 (sT [(1,jI kind),pR 2 0,(5,jI n1),(23,.d (.bool (decide ((wr (p.Low+(wr (n1*(wr (b.Pack - b.Bad))))))<r0_1))))] [(0,.var 29 (cv29 b))] 1 0) ?_
  refine Fi (sT [(1,jI kind),pR 2 0,(5,jI n1),(23,.d (.bool (decide ((wr (p.Low+(wr (n1*(wr (b.Pack - b.Bad))))))<r0_1))))] [(0,.var 29 (cv29 b))] 1 0) ?_
  refine hQ_4 _ ?_
  refine AW.cond rfl (fun hb_7=>?_) (fun hb_7=>?_)
  ·have h:=ifT hb_7 h
   refine AW.skip (hK_3 _ ?_)
   refine AW.block ?_
   refine Ra (sT [(1,jI kind),pR 2 0,(5,jI (wr (n1+1)))] [(0,.var 29 (cv29 b))] 1 0) ?_
   obtain rfl:=Option.some.inj h
   exact hK_2 _ _ rfl (Can.kp (by kernel_rfl))
  ·have h:=ifF hb_7 h
   refine AW.exit ?_
   obtain rfl:=Option.some.inj h
   obtain rfl:=hb_2 _ rfl
   exact hK_1 _ (Can.kp (by kernel_rfl))
 ·refine Sa (sT [(4,jI n)] [] 1 0) ?_
  obtain rfl:=Option.some.inj h
  exact rT hR_0 (.cons (.tmp rfl) .nil)
def g28_6 (b:HarnessBook):Int→Span→(List Int)→Option (List Int):=fun k p l=>(g83 b k).bind fun r0=>(appL 8 l [r0]).bind fun l1=>some l1
def g28 (b:HarnessBook):Option ((List Int)×Int):=(g19 b).bind fun r0_6=>bif (decide (r0_6≠0)) then (some ([],r0_6)) else ((eachS (g28_6 b) b.Stock 0 ([]:List Int)).bind fun l=>some (l,0))
theorem k28 (b:HarnessBook) (r:(List Int)×Int) (h:g28 b=some r):SCall Tryd.prog Gs 28 [.agg (cv29 b)] [] 0 Fr.emp (match r with | (r0_2,r1_1)=>.tup [.d (q1 r0_2),jI r1_1]) [] 0 Fr.emp:=by
 unfold g28 at h
 refine SCall.mkK Tryd.func28 c28 rfl rfl (by kernel_rfl) (fun Q_0 hR_0 hN_0=>?_)
 refine Sa (sT [pR 1 0] [(0,.var 29 (cv29 b))] 1 0) ?_
 refine AW.seqK fun K_1 hK_1=>AW.srwK fun Q_2 hQ_2=>?_
 refine Au 1 (sT [pR 1 0,(7,.agg (cv29 b))] [(0,.var 29 (cv29 b))] 1 0) ?_
 obtain ⟨r0_6,hx_3,h⟩:=bsome h
 refine rC (k19 b _ hx_3) ?_
 refine Au 1 (sT [pR 1 0,(4,jI r0_6)] [(0,.var 29 (cv29 b))] 1 0) ?_
 refine RW.nil (hQ_2 _ ?_)
 refine Sa (sT [pR 1 0,(4,jI r0_6),(10,.d (.bool (decide (r0_6≠0))))] [(0,.var 29 (cv29 b))] 1 0) ?_
 refine AW.cond rfl (fun hb_4=>?_) (fun hb_4=>?_)
 ·have h:=ifT hb_4 h
  refine Sa (sT [(2,.d (.nilSl)),(3,jI r0_6)] [] 1 0) ?_
  obtain rfl:=Option.some.inj h
  exact AW.ret (hR_0 _ (retX (.cons (.tmp rfl) (.cons (.tmp rfl) .nil)) (Frz.tup_of ⟨.nil 1,.refl _,trivial⟩) rfl (by kernel_rfl) (by kernel_rfl)))
 ·have h:=ifF hb_4 h
  refine AW.skip (hK_1 _ ?_)
  refine Sa (sT [pR 1 0,(5,.d (.nilSl))] [(0,.var 29 (cv29 b))] 1 0) ?_
  refine AW.seqK (fun K_5 hK_5=>?_)
  refine Sa (sT [pR 1 0,(5,.d (.nilSl)),(6,jI 0)] [(0,.var 29 (cv29 b))] 1 0) ?_
  refine AW.block ?_
  refine AW.slh (r:=0) (off:=6) rfl rfl (fun hN_6=>?_)
  rw [List.length_map] at hN_6
  obtain ⟨out_6,hx_6,h⟩:=bsome h
  refine AW.evSK (fun (k:Int) (l:List Int)=>(sT [pR 1 0,(5,.own 1 (List.map e3 l).length),(6,jI k)] [(1,.row 3 1 (List.map e3 l)),(0,.var 29 (cv29 b))] 2 0)) (g28_6 b) hx_6 (Can.trans (Can.thawT 5 3 1 rfl rfl) (Can.kp (by kernel_rfl))) (fun k p l hi_6 hl_6 hp_6 c_6 h K_6 hK_6=>?_) (fun k l hi_6 hl_6 hout=>?_)
  ·unfold g28_6 at h
   refine AW.seqK fun K_7 hK_7=>AW.srwK fun Q_8 hQ_8=>?_
   refine Au 3 (sT [pR 1 0,(5,.own 1 (List.map e3 l).length),(6,jI k),(12,jI k),(14,.d (.sl 2 (List.map e37 b.Stock)))] [(1,.row 3 1 (List.map e3 l)),(0,.var 29 (cv29 b))] 2 0) ?_
   refine rL rfl ?_
   refine Au 1 (sT [pR 1 0,(5,.own 1 (List.map e3 l).length),(6,jI k),(16,.d (.bool (decide (k<(b.Stock.length:Int)))))] [(1,.row 3 1 (List.map e3 l)),(0,.var 29 (cv29 b))] 2 0) ?_
   refine RW.nil (hQ_8 _ ?_)
   refine AW.cond rfl (fun hb_9=>?_) (fun hb_9=>False.elim (by have:=of_decide_eq_false hb_9;omega))
   refine AW.skip (hK_7 _ ?_)
   refine AW.seqK (fun K_10 hK_10=>?_)
   refine AW.block ?_
   refine AW.rw ?_
   refine Au 3 (sT [pR 1 0,(6,jI k),(19,.own 1 (List.map e3 l).length),(20,.agg (cv29 b)),(21,jI k)] [(1,.row 3 1 (List.map e3 l)),(0,.var 29 (cv29 b))] 2 0) ?_
   obtain ⟨r0,hx_12,h⟩:=bsome h
   refine rC (k83 b k _ hx_12) ?_
   refine Au 1 (sT [pR 1 0,(6,jI k),(19,.own 1 (List.map e3 l).length),(23,.own 2 (List.map e3 [r0]).length)] [(2,.row 3 1 (List.map e3 [r0])),(1,.row 3 1 (List.map e3 l)),(0,.var 29 (cv29 b))] 3 0) ?_
   obtain ⟨l1,hv_13,h⟩:=bsome h
   refine RW.one fokW (r_apO trivial rfl rfl rfl rfl rfl rfl (apz hv_13 e3) (apr hv_13 e3) (r_end ?_))
   refine Au 1 (sT [pR 1 0,(5,.own 1 (List.map e3 l1).length),(6,jI k)] [(1,.row 3 1 (List.map e3 l1)),(0,.var 29 (cv29 b))] 3 0) ?_
   refine RW.nil ?_
   refine hK_10 _ ?_
   refine Ra (sT [pR 1 0,(5,.own 1 (List.map e3 l1).length),(6,jI (wr (k+1)))] [(1,.row 3 1 (List.map e3 l1)),(0,.var 29 (cv29 b))] 3 0) ?_
   obtain rfl:=Option.some.inj h
   have ew:wr (k+1)=k+1:=inext (N:=(b.Stock.length:Int)) (by omega) (by omega) (by omega)
   rw [ew]
   exact hK_6 _ (Can.kp (by kernel_rfl))
  ·subst hout
   refine AW.seqK fun K_14 hK_14=>AW.srwK fun Q_15 hQ_15=>?_
   refine Au 3 (sT [pR 1 0,(5,.own 1 (List.map e3 l).length),(6,jI k),(12,jI k),(14,.d (.sl 2 (List.map e37 b.Stock)))] [(1,.row 3 1 (List.map e3 l)),(0,.var 29 (cv29 b))] 2 0) ?_
   refine rL rfl ?_
   refine Au 1 (sT [pR 1 0,(5,.own 1 (List.map e3 l).length),(6,jI k),(16,.d (.bool (decide (k<(b.Stock.length:Int)))))] [(1,.row 3 1 (List.map e3 l)),(0,.var 29 (cv29 b))] 2 0) ?_
   refine RW.nil (hQ_15 _ ?_)
   refine AW.cond rfl (fun hb_16=>False.elim (by have:=of_decide_eq_true hb_16;omega)) (fun hb_16=>?_)
   refine AW.exit ?_
   refine hK_5 _ ?_
   refine Sa (sT [(2,.own 1 (List.map e3 l).length),(3,jI 0)] [(1,.row 3 1 (List.map e3 l))] 2 0) ?_
   obtain rfl:=Option.some.inj h
   exact AW.ret (hR_0 _ (retX (.cons (.tmp rfl) (.cons (.tmp rfl) .nil)) (Frz.tup_of ⟨.own rfl rfl,.refl _,trivial⟩) rfl (by kernel_rfl) (by kernel_rfl)))
def g30 (b:HarnessBook) (kind:Int):Option (Span×Int):=(g19 b).bind fun r0_6=>bif (decide (r0_6≠0)) then (some ((Span.mk 0 0),r0_6)) else ((g80 b kind).bind fun r0_1=>bif (!r0_1) then (some ((Span.mk 0 0),101)) else ((g81 b kind).bind fun r0_1_1=>(g83 b kind).bind fun r0=>(ixL b.Stock kind).bind fun p=>(g46 (wr ((wr (p.Low+(wr (r0*(wr (b.Pack - b.Bad)))))) - r0_1_1)) (wr ((wr (p.High+(wr (r0*b.Pack)))) - r0_1_1))).bind fun r0_2=>some (r0_2,0)))
theorem k30 (b:HarnessBook) (kind:Int) (r:Span×Int) (h:g30 b kind=some r):SCall Tryd.prog Gs 30 [.agg (cv29 b),jI kind] [] 0 Fr.emp (match r with | (r0_5,r1_2)=>.tup [.agg [jI r0_5.Low,jI r0_5.High],jI r1_2]) [] 0 Fr.emp:=by
 unfold g30 at h
 refine SCall.mkK Tryd.func30 c30 rfl rfl (by kernel_rfl) (fun Q_0 hR_0 hN_0=>?_)
 refine Sa (sT [(1,jI kind),pR 2 0,pR 4 1] [(1,.var 37 [jI 0,jI 0]),(0,.var 29 (cv29 b))] 2 0) ?_
 refine AW.seqK fun K_1 hK_1=>AW.srwK fun Q_2 hQ_2=>?_
 refine Au 1 (sT [(1,jI kind),pR 2 0,pR 4 1,(10,.agg (cv29 b))] [(1,.var 37 [jI 0,jI 0]),(0,.var 29 (cv29 b))] 2 0) ?_
 obtain ⟨r0_6,hx_3,h⟩:=bsome h
 refine rC (k19 b _ hx_3) ?_
 refine Au 1 (sT [(1,jI kind),pR 2 0,pR 4 1,(6,jI r0_6)] [(1,.var 37 [jI 0,jI 0]),(0,.var 29 (cv29 b))] 2 0) ?_
 refine RW.nil (hQ_2 _ ?_)
 refine Sa (sT [(1,jI kind),pR 2 0,pR 4 1,(6,jI r0_6),(13,.d (.bool (decide (r0_6≠0))))] [(1,.var 37 [jI 0,jI 0]),(0,.var 29 (cv29 b))] 2 0) ?_
 refine AW.cond rfl (fun hb_4=>?_) (fun hb_4=>?_)
 ·have h:=ifT hb_4 h
  refine Sa (sT [pR 4 1,(5,jI r0_6)] [(1,.var 37 [jI 0,jI 0])] 2 0) ?_
  obtain rfl:=Option.some.inj h
  exact rT hR_0 (.cons (.agg rfl rfl (Nat.le_of_ble_eq_true rfl)) (.cons (.tmp rfl) .nil))
 ·have h:=ifF hb_4 h
  refine AW.skip (hK_1 _ ?_)
  refine AW.seqK fun K_5 hK_5=>AW.srwK fun Q_6 hQ_6=>?_
  refine Au 2 (sT [(1,jI kind),pR 2 0,pR 4 1,(16,.agg (cv29 b)),(17,jI kind)] [(1,.var 37 [jI 0,jI 0]),(0,.var 29 (cv29 b))] 2 0) ?_
  obtain ⟨r0_1,hx_7,h⟩:=bsome h
  refine rC (k80 b kind _ hx_7) ?_
  refine Au 1 (sT [(1,jI kind),pR 2 0,pR 4 1,(19,.d (.bool (!r0_1)))] [(1,.var 37 [jI 0,jI 0]),(0,.var 29 (cv29 b))] 2 0) ?_
  refine RW.nil (hQ_6 _ ?_)
  refine AW.cond rfl (fun hb_8=>?_) (fun hb_8=>?_)
  ·have h:=ifT hb_8 h
   refine Sa (sT [pR 4 1,(5,jI 101)] [(1,.var 37 [jI 0,jI 0])] 2 0) ?_
   obtain rfl:=Option.some.inj h
   exact rT hR_0 (.cons (.agg rfl rfl (Nat.le_of_ble_eq_true rfl)) (.cons (.tmp rfl) .nil))
  ·have h:=ifF hb_8 h
   refine AW.skip (hK_5 _ ?_)
   refine AW.sdrwK fokW (fun Q_9 hQ_9=>?_)
   refine aX 2 (sT [(1,jI kind),pR 2 0,pR 4 1,(21,.agg (cv29 b)),(22,jI kind)] [(1,.var 37 [jI 0,jI 0]),(0,.var 29 (cv29 b))] 2 0) ?_
   obtain ⟨r0_1_1,hx_10,h⟩:=bsome h
   refine r_call trivial rfl (k81 b kind _ hx_10) rfl rfl ?_
   refine aX 2 (sT [(1,jI kind),pR 2 0,pR 4 1,(23,jI r0_1_1),(24,.agg (cv29 b)),(25,jI kind)] [(1,.var 37 [jI 0,jI 0]),(0,.var 29 (cv29 b))] 2 0) ?_
   obtain ⟨r0,hx_11,h⟩:=bsome h
   refine r_call trivial rfl (k83 b kind _ hx_11) rfl rfl ?_
   refine aX 3 (sT [pR 2 0,pR 4 1,(23,jI r0_1_1),(26,jI r0),(28,.d (.sl 2 (List.map e37 b.Stock))),(29,jI kind)] [(1,.var 37 [jI 0,jI 0]),(0,.var 29 (cv29 b))] 2 0) ?_
   obtain ⟨p,hv_12,h⟩:=bsome h
   refine r_iaD trivial rfl rfl (ixL_ok hv_12).1 (row:=e37 p) (mapget (ixL_ok hv_12).2) ?_
   refine aX 5 (sT [pR 2 0,pR 4 1,(7,jI r0_1_1),(8,jI r0),pR 9 2] [(2,.var 37 [jI p.Low,jI p.High]),(1,.var 37 [jI 0,jI 0]),(0,.var 29 (cv29 b))] 3 0) ?_
   refine Fi (sT [pR 2 0,pR 4 1,(7,jI r0_1_1),(8,jI r0),pR 9 2] [(2,.var 37 [jI p.Low,jI p.High]),(1,.var 37 [jI 0,jI 0]),(0,.var 29 (cv29 b))] 3 0) ?_
   refine hQ_9 _ ?_
   refine AW.srwK (fun Q_13 hQ_13=>?_)
   refine Au 21 (sT [pR 4 1,(43,jI (wr ((wr (p.Low+(wr (r0*(wr (b.Pack - b.Bad)))))) - r0_1_1))),(52,jI (wr ((wr (p.High+(wr (r0*b.Pack)))) - r0_1_1)))] [(1,.var 37 [jI 0,jI 0])] 3 0) ?_
   obtain ⟨r0_2,hx_14,h⟩:=bsome h
   refine rC (k46 (wr ((wr (p.Low+(wr (r0*(wr (b.Pack - b.Bad)))))) - r0_1_1)) (wr ((wr (p.High+(wr (r0*b.Pack)))) - r0_1_1)) _ hx_14) ?_
   refine Au 2 (sT [pR 4 1,(5,jI 0)] [(1,.var 37 [jI r0_2.Low,jI r0_2.High])] 3 0) ?_
   refine RW.nil (hQ_13 _ ?_)
   obtain rfl:=Option.some.inj h
   exact rT hR_0 (.cons (.agg rfl rfl (Nat.le_of_ble_eq_true rfl)) (.cons (.tmp rfl) .nil))
def g4 (b:HarnessBook) (kind:Int):Option Bool:=(g25 b kind).bind fun (r0_3,r1_4)=>(g26 b kind).bind fun (r0_4,r1_2)=>bif ((true != ((r0_3.Low==r0_4.Low)&&((r0_3.High==r0_4.High)&&true)))||(decide (r1_4≠r1_2))) then (some false) else ((g27 b).bind fun (r0_3_1,r1_4_1)=>(g28 b).bind fun (r0_2,r1_1)=>(g17 r0_3_1 r0_2).bind fun r0=>bif ((!r0)||(decide (r1_4_1≠r1_1))) then (some false) else ((g29 b kind).bind fun (r0_4_1,r1_4_2)=>(g30 b kind).bind fun (r0_5,r1_2_1)=>(bif ((false != ((r0_4_1.Low==r0_5.Low)&&((r0_4_1.High==r0_5.High)&&true)))&&(decide (r1_4_2=r1_2_1))) then ((g24).bind fun t2=>some t2) else (some false)).bind fun v=>some v))
theorem k4 (b:HarnessBook) (kind:Int) (r:Bool) (h:g4 b kind=some r):SCall Tryd.prog Gs 4 [.agg (cv29 b),jI kind] [] 0 Fr.emp (.d (.bool r)) [] 0 Fr.emp:=by
 unfold g4 at h
 refine SCall.mkK Tryd.func4 c4 rfl rfl (by kernel_rfl) (fun Q_0 hR_0 hN_0=>?_)
 refine Sa (sT [(1,jI kind),pR 2 0] [(0,.var 29 (cv29 b))] 1 0) ?_
 refine AW.srwK (fun Q_1 hQ_1=>?_)
 refine Au 2 (sT [(1,jI kind),pR 2 0,(12,.agg (cv29 b)),(13,jI kind)] [(0,.var 29 (cv29 b))] 1 0) ?_
 obtain ⟨⟨r0_3,r1_4⟩,hx_2,h⟩:=bsome h
 refine rC (k25 b kind _ hx_2) ?_
 refine Au 6 (sT [(1,jI kind),pR 2 0,pR 5 1,(6,jI r1_4)] [(1,.var 37 [jI r0_3.Low,jI r0_3.High]),(0,.var 29 (cv29 b))] 2 0) ?_
 refine RW.nil (hQ_1 _ ?_)
 refine AW.srwK (fun Q_3 hQ_3=>?_)
 refine Au 2 (sT [(1,jI kind),pR 2 0,pR 5 1,(6,jI r1_4),(18,.agg (cv29 b)),(19,jI kind)] [(1,.var 37 [jI r0_3.Low,jI r0_3.High]),(0,.var 29 (cv29 b))] 2 0) ?_
 obtain ⟨⟨r0_4,r1_2⟩,hx_4,h⟩:=bsome h
 refine rC (k26 b kind _ hx_4) ?_
 refine Au 6 (sT [(1,jI kind),pR 2 0,pR 5 1,(6,jI r1_4),pR 7 2,(8,jI r1_2)] [(2,.var 37 [jI r0_4.Low,jI r0_4.High]),(1,.var 37 [jI r0_3.Low,jI r0_3.High]),(0,.var 29 (cv29 b))] 3 0) ?_
 refine RW.nil (hQ_3 _ ?_)
 refine AW.seqK fun K_5 hK_5=>AW.srwK fun Q_6 hQ_6=>?_
 refine Au 2 (sT [(1,jI kind),pR 2 0,pR 5 1,(6,jI r1_4),pR 7 2,(8,jI r1_2),(23,.agg [jI r0_3.Low,jI r0_3.High]),(24,.agg [jI r0_4.Low,jI r0_4.High])] [(2,.var 37 [jI r0_4.Low,jI r0_4.High]),(1,.var 37 [jI r0_3.Low,jI r0_3.High]),(0,.var 29 (cv29 b))] 3 0) ?_
 refine RW.one fokW (r_aeq trivial rfl rfl rfl rfl ft37 rfl rfl rfl (r_end ?_))
 refine RW.au fokW 5 [26] (sT [(1,jI kind),pR 2 0,pR 5 1,pR 7 2,(30,.d (.bool ((true != ((r0_3.Low==r0_4.Low)&&((r0_3.High==r0_4.High)&&true)))||(decide (r1_4≠r1_2)))))] [(2,.var 37 [jI r0_4.Low,jI r0_4.High]),(1,.var 37 [jI r0_3.Low,jI r0_3.High]),(0,.var 29 (cv29 b))] 3 0) (by kernel_rfl) ?_
 refine RW.nil (hQ_6 _ ?_)
 refine AW.cond rfl (fun hb_7=>?_) (fun hb_7=>?_)
 ·have h:=ifT hb_7 h
  refine Sa (sT [(4,.d (.bool false))] [] 3 0) ?_
  obtain rfl:=Option.some.inj h
  exact rT hR_0 (.cons (.tmp rfl) .nil)
 ·have h:=ifF hb_7 h
  refine AW.skip (hK_5 _ ?_)
  refine AW.srwK (fun Q_8 hQ_8=>?_)
  refine Au 1 (sT [(1,jI kind),pR 2 0,pR 5 1,pR 7 2,(32,.agg (cv29 b))] [(2,.var 37 [jI r0_4.Low,jI r0_4.High]),(1,.var 37 [jI r0_3.Low,jI r0_3.High]),(0,.var 29 (cv29 b))] 3 0) ?_
  obtain ⟨⟨r0_3_1,r1_4_1⟩,hx_9,h⟩:=bsome h
  refine rC (k27 b _ hx_9) ?_
  refine Au 5 (sT [(1,jI kind),pR 2 0,pR 5 1,(6,jI r1_4_1),pR 7 2,(9,.d (q1 r0_3_1))] [(2,.var 37 [jI r0_4.Low,jI r0_4.High]),(1,.var 37 [jI r0_3.Low,jI r0_3.High]),(0,.var 29 (cv29 b))] 3 0) ?_
  refine RW.nil (hQ_8 _ ?_)
  refine AW.srwK (fun Q_10 hQ_10=>?_)
  refine Au 1 (sT [(1,jI kind),pR 2 0,pR 5 1,(6,jI r1_4_1),pR 7 2,(9,.d (q1 r0_3_1)),(37,.agg (cv29 b))] [(2,.var 37 [jI r0_4.Low,jI r0_4.High]),(1,.var 37 [jI r0_3.Low,jI r0_3.High]),(0,.var 29 (cv29 b))] 3 0) ?_
  obtain ⟨⟨r0_2,r1_1⟩,hx_11,h⟩:=bsome h
  refine rC (k28 b _ hx_11) ?_
  refine Au 5 (sT [(1,jI kind),pR 2 0,pR 5 1,(6,jI r1_4_1),pR 7 2,(8,jI r1_1),(9,.d (q1 r0_3_1)),(10,.d (q1 r0_2))] [(2,.var 37 [jI r0_4.Low,jI r0_4.High]),(1,.var 37 [jI r0_3.Low,jI r0_3.High]),(0,.var 29 (cv29 b))] 3 0) ?_
  refine RW.nil (hQ_10 _ ?_)
  refine AW.seqK fun K_12 hK_12=>AW.srwK fun Q_13 hQ_13=>?_
  refine Au 2 (sT [(1,jI kind),pR 2 0,pR 5 1,(6,jI r1_4_1),pR 7 2,(8,jI r1_1),(41,.d (q1 r0_3_1)),(42,.d (q1 r0_2))] [(2,.var 37 [jI r0_4.Low,jI r0_4.High]),(1,.var 37 [jI r0_3.Low,jI r0_3.High]),(0,.var 29 (cv29 b))] 3 0) ?_
  obtain ⟨r0,hx_14,h⟩:=bsome h
  refine rC (k17 r0_3_1 r0_2 _ hx_14) ?_
  refine RW.au fokW 6 [45] (sT [(1,jI kind),pR 2 0,pR 5 1,pR 7 2,(49,.d (.bool ((!r0)||(decide (r1_4_1≠r1_1)))))] [(2,.var 37 [jI r0_4.Low,jI r0_4.High]),(1,.var 37 [jI r0_3.Low,jI r0_3.High]),(0,.var 29 (cv29 b))] 3 0) (by kernel_rfl) ?_
  refine RW.nil (hQ_13 _ ?_)
  refine AW.cond rfl (fun hb_15=>?_) (fun hb_15=>?_)
  ·have h:=ifT hb_15 h
   refine Sa (sT [(4,.d (.bool false))] [] 3 0) ?_
   obtain rfl:=Option.some.inj h
   exact rT hR_0 (.cons (.tmp rfl) .nil)
  ·have h:=ifF hb_15 h
   refine AW.skip (hK_12 _ ?_)
   refine AW.srwK (fun Q_16 hQ_16=>?_)
   refine Au 2 (sT [(1,jI kind),pR 2 0,pR 5 1,pR 7 2,(51,.agg (cv29 b)),(52,jI kind)] [(2,.var 37 [jI r0_4.Low,jI r0_4.High]),(1,.var 37 [jI r0_3.Low,jI r0_3.High]),(0,.var 29 (cv29 b))] 3 0) ?_
   obtain ⟨⟨r0_4_1,r1_4_2⟩,hx_17,h⟩:=bsome h
   refine rC (k29 b kind _ hx_17) ?_
   refine Au 5 (sT [(1,jI kind),pR 2 0,pR 5 1,(6,jI r1_4_2),pR 7 2] [(1,.var 37 [jI r0_4_1.Low,jI r0_4_1.High]),(2,.var 37 [jI r0_4.Low,jI r0_4.High]),(0,.var 29 (cv29 b))] 3 0) ?_
   refine RW.nil (hQ_16 _ ?_)
   refine AW.srwK (fun Q_18 hQ_18=>?_)
   refine Au 2 (sT [pR 5 1,(6,jI r1_4_2),pR 7 2,(57,.agg (cv29 b)),(58,jI kind)] [(1,.var 37 [jI r0_4_1.Low,jI r0_4_1.High]),(2,.var 37 [jI r0_4.Low,jI r0_4.High])] 3 0) ?_
   obtain ⟨⟨r0_5,r1_2_1⟩,hx_19,h⟩:=bsome h
   refine rC (k30 b kind _ hx_19) ?_
   refine Au 5 (sT [pR 5 1,(6,jI r1_4_2),pR 7 2,(8,jI r1_2_1)] [(2,.var 37 [jI r0_5.Low,jI r0_5.High]),(1,.var 37 [jI r0_4_1.Low,jI r0_4_1.High])] 3 0) ?_
   refine RW.nil (hQ_18 _ ?_)
   refine AW.srwK (fun Q_20 hQ_20=>?_)
   refine Au 2 (sT [(6,jI r1_4_2),(8,jI r1_2_1),(62,.agg [jI r0_4_1.Low,jI r0_4_1.High]),(63,.agg [jI r0_5.Low,jI r0_5.High])] [] 3 0) ?_
   refine RW.one fokW (r_aeq trivial rfl rfl rfl rfl ft37 rfl rfl rfl (r_end ?_))
   refine RW.au fokW 6 [65] (sT [(70,.d (.bool ((false != ((r0_4_1.Low==r0_5.Low)&&((r0_4_1.High==r0_5.High)&&true)))&&(decide (r1_4_2=r1_2_1)))))] [] 3 0) (by kernel_rfl) ?_
   obtain ⟨v,hx_21,h⟩:=bsome h
   refine RW.cut fokW 2 ((sT [(72,.d (.bool v))] [] 3 0)) ?_ ?_
   ·refine r_split 70 rfl (fun hb_23=>?_) (fun hb_23=>?_)
    ·have h:=ifT hb_23 hx_21
     obtain ⟨t2,hx_22,h⟩:=bsome h
     refine r_call rfl rfl (k24 _ hx_22) rfl rfl ?_
     refine aX 1 (sT [(72,.d (.bool t2))] [] 3 0) ?_
     obtain rfl:=Option.some.inj h
     refine RunC.finJ (Can.kp (by kernel_rfl))
    ·have h:=ifF hb_23 hx_21
     refine aX 2 (sT [(72,.d (.bool false))] [] 3 0) ?_
     obtain rfl:=Option.some.inj h
     refine RunC.finJ (Can.kp (by kernel_rfl))
   ·refine Au 1 (sT [(4,.d (.bool v))] [] 3 0) ?_
    refine RW.nil (hQ_20 _ ?_)
    obtain rfl:=Option.some.inj h
    exact rT hR_0 (.cons (.tmp rfl) .nil)
end Go.Proofs.Tr
