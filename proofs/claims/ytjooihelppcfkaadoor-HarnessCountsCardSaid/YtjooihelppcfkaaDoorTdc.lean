/- Told functions, and that the program does so, part 3. Conditions: none. -/
import Derived.Test.YtjooihelppcfkaaDoorTdb
set_option linter.unusedVariables false
set_option linter.unusedSimpArgs false
namespace Go.Proofs.Tr
open Go Go.Abs Go.Proofs
def g65_4 (r0_4:(List Int)):Int→(List Int)→(List Int)→Option (List Int):=fun i p l=>(g41 r0_4 i).bind fun r0_1=>bif (decide (r0_1<0)) then ((appL 8 l [i]).bind fun l1=>some l1) else (some l)
def g65 (b:HarnessBook):Option (List Int):=(g96 b.Hair).bind fun (r0_4,r1_1)=>(eachS (g65_4 r0_4) b.Needs 0 ([]:List Int)).bind fun l=>some l
theorem k65 (b:HarnessBook) (r:(List Int)) (h:g65 b=some r):SCall Tryd.prog Gs 65 [.agg (cv29 b)] [] 0 Fr.emp (.d (q1 r)) [] 0 Fr.emp:=by
 unfold g65 at h
 refine SCall.mkK Tryd.func65 c65 rfl rfl (by kernel_rfl) (fun Q_0 hR_0 hN_0=>?_)
 refine Sa (sT [pR 1 0] [(0,.var 29 (cv29 b))] 1 0) ?_
 refine AW.srwK (fun Q_1 hQ_1=>?_)
 refine Au 2 (sT [pR 1 0,(9,.agg (cv25 b.Hair))] [(0,.var 29 (cv29 b))] 1 0) ?_
 obtain ⟨⟨r0_4,r1_1⟩,hx_2,h⟩:=bsome h
 refine rC (k96 b.Hair _ hx_2) ?_
 refine Au 5 (sT [pR 1 0,(3,.d (q1 r0_4))] [(0,.var 29 (cv29 b))] 1 0) ?_
 refine RW.nil (hQ_1 _ ?_)
 refine Sa (sT [pR 1 0,(3,.d (q1 r0_4)),(5,.own 1 (List.map e3 []).length)] [(1,.row 3 1 (List.map e3 [])),(0,.var 29 (cv29 b))] 2 0) ?_
 refine AW.seqK (fun K_3 hK_3=>?_)
 refine Sa (sT [pR 1 0,(3,.d (q1 r0_4)),(5,.own 1 (List.map e3 []).length),(6,jI 0)] [(1,.row 3 1 (List.map e3 [])),(0,.var 29 (cv29 b))] 2 0) ?_
 refine AW.block ?_
 refine AW.slh (r:=0) (off:=5) rfl rfl (fun hN_4=>?_)
 rw [List.length_map] at hN_4
 obtain ⟨out_4,hx_4,h⟩:=bsome h
 refine AW.evSK (fun (i:Int) (l:List Int)=>(sT [pR 1 0,(3,.d (q1 r0_4)),(5,.own 1 (List.map e3 l).length),(6,jI i)] [(1,.row 3 1 (List.map e3 l)),(0,.var 29 (cv29 b))] 2 0)) (g65_4 r0_4) hx_4 (Can.kp (by kernel_rfl)) (fun i p l hi_4 hl_4 hp_4 c_4 h K_4 hK_4=>?_) (fun i l hi_4 hl_4 hout=>?_)
 ·unfold g65_4 at h
  refine AW.seqK fun K_5 hK_5=>AW.srwK fun Q_6 hQ_6=>?_
  refine Au 3 (sT [pR 1 0,(3,.d (q1 r0_4)),(5,.own 1 (List.map e3 l).length),(6,jI i),(14,jI i),(16,.d (.sl 1 (List.map e30 b.Needs)))] [(1,.row 3 1 (List.map e3 l)),(0,.var 29 (cv29 b))] 2 0) ?_
  refine rL rfl ?_
  refine Au 1 (sT [pR 1 0,(3,.d (q1 r0_4)),(5,.own 1 (List.map e3 l).length),(6,jI i),(18,.d (.bool (decide (i<(b.Needs.length:Int)))))] [(1,.row 3 1 (List.map e3 l)),(0,.var 29 (cv29 b))] 2 0) ?_
  refine RW.nil (hQ_6 _ ?_)
  refine AW.cond rfl (fun hb_7=>?_) (fun hb_7=>False.elim (by have:=of_decide_eq_false hb_7;omega))
  refine AW.skip (hK_5 _ ?_)
  refine AW.seqK (fun K_8 hK_8=>?_)
  refine AW.block ?_
  refine AW.srwK (fun Q_9 hQ_9=>?_)
  refine Au 2 (sT [pR 1 0,(3,.d (q1 r0_4)),(5,.own 1 (List.map e3 l).length),(6,jI i),(21,.d (q1 r0_4)),(22,jI i)] [(1,.row 3 1 (List.map e3 l)),(0,.var 29 (cv29 b))] 2 0) ?_
  obtain ⟨r0_1,hx_10,h⟩:=bsome h
  refine rC (k41 r0_4 i _ hx_10) ?_
  refine Au 1 (sT [pR 1 0,(3,.d (q1 r0_4)),(5,.own 1 (List.map e3 l).length),(6,jI i),(24,.d (.bool (decide (r0_1<0))))] [(1,.row 3 1 (List.map e3 l)),(0,.var 29 (cv29 b))] 2 0) ?_
  refine RW.nil (hQ_9 _ ?_)
  refine AW.cond rfl (fun hb_11=>?_) (fun hb_11=>?_)
  ·have h:=ifT hb_11 h
   refine AW.rw ?_
   refine Au 3 (sT [pR 1 0,(3,.d (q1 r0_4)),(6,jI i),(25,.own 1 (List.map e3 l).length),(27,.own 2 (List.map e3 [i]).length)] [(2,.row 3 1 (List.map e3 [i])),(1,.row 3 1 (List.map e3 l)),(0,.var 29 (cv29 b))] 3 0) ?_
   obtain ⟨l1,hv_13,h⟩:=bsome h
   refine RW.one fokW (r_apO trivial rfl rfl rfl rfl rfl rfl (apz hv_13 e3) (apr hv_13 e3) (r_end ?_))
   refine Au 1 (sT [pR 1 0,(3,.d (q1 r0_4)),(5,.own 1 (List.map e3 l1).length),(6,jI i)] [(1,.row 3 1 (List.map e3 l1)),(0,.var 29 (cv29 b))] 3 0) ?_
   refine RW.nil ?_
   refine hK_8 _ ?_
   refine Ra (sT [pR 1 0,(3,.d (q1 r0_4)),(5,.own 1 (List.map e3 l1).length),(6,jI (wr (i+1)))] [(1,.row 3 1 (List.map e3 l1)),(0,.var 29 (cv29 b))] 3 0) ?_
   obtain rfl:=Option.some.inj h
   have ew:wr (i+1)=i+1:=inext (N:=(b.Needs.length:Int)) (by omega) (by omega) (by omega)
   rw [ew]
   exact hK_4 _ (Can.kp (by kernel_rfl))
  ·have h:=ifF hb_11 h
   refine AW.skip (hK_8 _ ?_)
   refine Ra (sT [pR 1 0,(3,.d (q1 r0_4)),(5,.own 1 (List.map e3 l).length),(6,jI (wr (i+1)))] [(1,.row 3 1 (List.map e3 l)),(0,.var 29 (cv29 b))] 2 0) ?_
   obtain rfl:=Option.some.inj h
   have ew:wr (i+1)=i+1:=inext (N:=(b.Needs.length:Int)) (by omega) (by omega) (by omega)
   rw [ew]
   exact hK_4 _ (Can.kp (by kernel_rfl))
 ·subst hout
  refine AW.seqK fun K_14 hK_14=>AW.srwK fun Q_15 hQ_15=>?_
  refine Au 3 (sT [pR 1 0,(3,.d (q1 r0_4)),(5,.own 1 (List.map e3 l).length),(6,jI i),(14,jI i),(16,.d (.sl 1 (List.map e30 b.Needs)))] [(1,.row 3 1 (List.map e3 l)),(0,.var 29 (cv29 b))] 2 0) ?_
  refine rL rfl ?_
  refine Au 1 (sT [pR 1 0,(3,.d (q1 r0_4)),(5,.own 1 (List.map e3 l).length),(6,jI i),(18,.d (.bool (decide (i<(b.Needs.length:Int)))))] [(1,.row 3 1 (List.map e3 l)),(0,.var 29 (cv29 b))] 2 0) ?_
  refine RW.nil (hQ_15 _ ?_)
  refine AW.cond rfl (fun hb_16=>False.elim (by have:=of_decide_eq_true hb_16;omega)) (fun hb_16=>?_)
  refine AW.exit ?_
  refine hK_3 _ ?_
  refine Sa (sT [(2,.own 1 (List.map e3 l).length)] [(1,.row 3 1 (List.map e3 l))] 2 0) ?_
  obtain rfl:=Option.some.inj h
  exact AW.ret (hR_0 _ (retX (.cons (.tmp rfl) .nil) (.own rfl rfl) rfl (by kernel_rfl) (by kernel_rfl)))
def g66 (b:HarnessBook):Option (List Int):=(must (decide (0≤(b.Needs.length:Int)))).bind fun _=>(g74 (wr ((shl64 1 (b.Needs.length:Int)) - 1)) (b.Needs.length:Int)).bind fun r0_1=>some r0_1
theorem k66 (b:HarnessBook) (r:(List Int)) (h:g66 b=some r):SCall Tryd.prog Gs 66 [.agg (cv29 b)] [] 0 Fr.emp (.d (q1 r)) [] 0 Fr.emp:=by
 unfold g66 at h
 refine SCall.mkK Tryd.func66 c66 rfl rfl (by kernel_rfl) (fun Q_0 hR_0 hN_0=>?_)
 refine Sa (sT [pR 1 0] [(0,.var 29 (cv29 b))] 1 0) ?_
 refine AW.sdrwK fokW (fun Q_1 hQ_1=>?_)
 refine aX 2 (sT [pR 1 0,(4,.d (.sl 1 (List.map e30 b.Needs)))] [(0,.var 29 (cv29 b))] 1 0) ?_
 refine r_lenX trivial rfl lenm ?_
 obtain ⟨_,hv_2,h⟩:=bsome h
 refine r_sh trivial rfl rfl (shl64_ok (of_decide_eq_true (must_ok hv_2))) ?_
 refine aX 3 (sT [(7,jI (wr ((shl64 1 (b.Needs.length:Int)) - 1))),(9,.d (.sl 1 (List.map e30 b.Needs)))] [(0,.var 29 (cv29 b))] 1 0) ?_
 refine r_lenX trivial rfl lenm ?_
 obtain ⟨r0_1,hx_3,h⟩:=bsome h
 refine r_call trivial rfl (k74 (wr ((shl64 1 (b.Needs.length:Int)) - 1)) (b.Needs.length:Int) _ hx_3) rfl rfl ?_
 refine aX 1 (sT [(2,.d (q1 r0_1))] [(0,.var 29 (cv29 b))] 1 0) ?_
 refine Fi (sT [(2,.d (q1 r0_1))] [] 1 0) ?_
 refine hQ_1 _ ?_
 obtain rfl:=Option.some.inj h
 exact rT hR_0 (.cons (.tmp rfl) .nil)
def g94_8 (rec_:HarnessBook→(List Int)→Option (List (List Int))) (b:HarnessBook) (some_:(List Int)):Int→(List (List Int))→Option (List (List Int)):=fun n l2=>(g109 some_ n).bind fun r0=>(rec_ b r0).bind fun r0_3_1=>(appL 24 l2 r0_3_1).bind fun l3=>some l3
def g94:Nat→HarnessBook→(List Int)→Option (List (List Int))
 | 0,_,_=>none
 | n_+1,b,some_=>bif (decide ((some_.length:Int)=(b.Stock.length:Int))) then (some [some_]) else ((ixL b.Stock (some_.length:Int)).bind fun p=>(((must (decide ((p.High+1)≤9223372036854775807))).bind fun _=>(must (decide (-9223372036854775808≤p.Low))).bind fun _=>(forS (g94_8 (g94 n_) b some_) ((((p.High+1):Int) - p.Low).toNat) p.Low ([]:List (List Int))).bind fun l2=>some l2).bind fun l1=>some l1).bind fun l=>some l)
theorem k94:∀ (n_:Nat) (b:HarnessBook) (some_:(List Int)) (r:(List (List Int))) (h:g94 n_ b some_=some r),SCall Tryd.prog Gs 94 [.agg (cv29 b),.d (q1 some_)] [] 0 Fr.emp (.d (.sl 1 (List.map e30 r))) [] 0 Fr.emp:=by
 intro n_
 induction n_ with
 | zero=>intro b some_ r h;cases h
 | succ n_ ih=>
  intro b some_ r h
  rw [g94] at h
  refine SCall.mkK Tryd.func94 c94 rfl rfl (by kernel_rfl) (fun Q_0 hR_0 hN_0=>?_)
  refine Sa (sT [(1,.d (q1 some_)),pR 2 0] [(0,.var 29 (cv29 b))] 1 0) ?_
  refine AW.seqK fun K_1 hK_1=>AW.srwK fun Q_2 hQ_2=>?_
  refine Au 1 (sT [(1,.d (q1 some_)),pR 2 0,(8,.d (q1 some_))] [(0,.var 29 (cv29 b))] 1 0) ?_
  refine rL rfl ?_
  refine Au 2 (sT [(1,.d (q1 some_)),pR 2 0,(9,jI (some_.length:Int)),(11,.d (.sl 2 (List.map e37 b.Stock)))] [(0,.var 29 (cv29 b))] 1 0) ?_
  refine rL rfl ?_
  refine Au 1 (sT [(1,.d (q1 some_)),pR 2 0,(13,.d (.bool (decide ((some_.length:Int)=(b.Stock.length:Int)))))] [(0,.var 29 (cv29 b))] 1 0) ?_
  refine RW.nil (hQ_2 _ ?_)
  refine AW.cond rfl (fun hb_3=>?_) (fun hb_3=>?_)
  ·have h:=ifT hb_3 h
   refine Sa (sT [(4,.own 1 (List.map e30 [some_]).length)] [(1,.row 30 1 (List.map e30 [some_]))] 2 0) ?_
   obtain rfl:=Option.some.inj h
   exact AW.ret (hR_0 _ (retX (.cons (.tmp rfl) .nil) (.own rfl rfl) rfl (by kernel_rfl) (by kernel_rfl)))
  ·have h:=ifF hb_3 h
   refine AW.skip (hK_1 _ ?_)
   refine Sa (sT [(1,.d (q1 some_)),pR 2 0,(5,.d (.nilSl))] [(0,.var 29 (cv29 b))] 1 0) ?_
   refine AW.srwK (fun Q_4 hQ_4=>?_)
   refine Au 3 (sT [(1,.d (q1 some_)),pR 2 0,(5,.d (.nilSl)),(17,.d (.sl 2 (List.map e37 b.Stock))),(18,.d (q1 some_))] [(0,.var 29 (cv29 b))] 1 0) ?_
   refine rL rfl ?_
   obtain ⟨p,hv_5,h⟩:=bsome h
   refine RW.one fokW (r_iaD trivial rfl rfl (ixL_ok hv_5).1 (row:=e37 p) (mapget (ixL_ok hv_5).2) (r_end ?_))
   refine Au 3 (sT [(1,.d (q1 some_)),pR 2 0,(5,.d (.nilSl)),pR 6 1] [(1,.var 37 [jI p.Low,jI p.High]),(0,.var 29 (cv29 b))] 2 0) ?_
   refine RW.nil (hQ_4 _ ?_)
   obtain ⟨l,hx_6,h⟩:=bsome h
   refine AW.jnSK (fun (l:List (List Int))=>(sT [(5,.own 2 (List.map e30 l).length)] [(2,.row 30 1 (List.map e30 l))] 3 0)) (c:=l) (fun K_6 hK_6=>?_) ?_
   ·have h:=hx_6
    refine Sa (sT [(1,.d (q1 some_)),pR 2 0,(5,.d (.nilSl)),pR 6 1,(7,jI p.Low)] [(1,.var 37 [jI p.Low,jI p.High]),(0,.var 29 (cv29 b))] 2 0) ?_
    obtain ⟨l1,hx_7,h⟩:=bsome h
    refine AW.jqSK (fun (l1:List (List Int))=>(sT [(5,.own 2 (List.map e30 l1).length)] [(2,.row 30 1 (List.map e30 l1))] 3 0)) (c:=l1) (fun K_7 hK_7=>?_) ?_
    ·have h:=hx_7
     refine AW.block ?_
     obtain ⟨_,hN_8,h⟩:=bsome h
     have hN_8:=of_decide_eq_true (must_ok hN_8)
     obtain ⟨_,h0_8,h⟩:=bsome h
     have h0_8:=of_decide_eq_true (must_ok h0_8)
     obtain ⟨out_8,hx_8,h⟩:=bsome h
     refine AW.lpSK (fun (n:Int) (l2:List (List Int))=>(sT [(1,.d (q1 some_)),pR 2 0,(5,.own 2 (List.map e30 l2).length),pR 6 1,(7,jI n)] [(2,.row 30 1 (List.map e30 l2)),(1,.var 37 [jI p.Low,jI p.High]),(0,.var 29 (cv29 b))] 3 0)) (g94_8 (g94 n_) b some_) ((p.High+1)) hx_8 (Can.trans (Can.thawT 5 30 1 rfl rfl) (Can.kp (by kernel_rfl))) (fun n l2 hi_8 hl_8 c_8 h K_8 hK_8=>?_) (fun n l2 hi_8 hl_8 hout=>?_)
     ·unfold g94_8 at h
      refine AW.seqK (fun K_9 hK_9=>?_)
      refine Sa (sT [(1,.d (q1 some_)),pR 2 0,(5,.own 2 (List.map e30 l2).length),pR 6 1,(7,jI n),(27,.d (.bool (decide (n≤p.High))))] [(2,.row 30 1 (List.map e30 l2)),(1,.var 37 [jI p.Low,jI p.High]),(0,.var 29 (cv29 b))] 3 0) ?_
      refine AW.cond rfl (fun hb_10=>?_) (fun hb_10=>False.elim (by have:=of_decide_eq_false hb_10;omega))
      refine AW.skip (hK_9 _ ?_)
      refine AW.seqK (fun K_11 hK_11=>?_)
      refine AW.block ?_
      refine AW.drw fokW ?_
      refine aX 4 (sT [(1,.d (q1 some_)),pR 2 0,pR 6 1,(7,jI n),(30,.own 2 (List.map e30 l2).length),(31,.agg (cv29 b)),(32,.d (q1 some_)),(33,jI n)] [(2,.row 30 1 (List.map e30 l2)),(1,.var 37 [jI p.Low,jI p.High]),(0,.var 29 (cv29 b))] 3 0) ?_
      obtain ⟨r0,hx_13,h⟩:=bsome h
      refine r_call trivial rfl (k109 some_ n _ hx_13) rfl rfl ?_
      obtain ⟨r0_3_1,hx_14,h⟩:=bsome h
      refine r_call trivial rfl (ih b r0 _ hx_14) rfl rfl ?_
      obtain ⟨l3,hv_15,h⟩:=bsome h
      refine r_apD trivial rfl rfl rfl rfl (apz hv_15 e30) (apr hv_15 e30) ?_
      refine aX 1 (sT [(1,.d (q1 some_)),pR 2 0,(5,.own 2 (List.map e30 l3).length),pR 6 1,(7,jI n)] [(2,.row 30 1 (List.map e30 l3)),(1,.var 37 [jI p.Low,jI p.High]),(0,.var 29 (cv29 b))] 3 0) ?_
      refine Fi (sT [(1,.d (q1 some_)),pR 2 0,(5,.own 2 (List.map e30 l3).length),pR 6 1,(7,jI n)] [(2,.row 30 1 (List.map e30 l3)),(1,.var 37 [jI p.Low,jI p.High]),(0,.var 29 (cv29 b))] 3 0) ?_
      refine hK_11 _ ?_
      refine Ra (sT [(1,.d (q1 some_)),pR 2 0,(5,.own 2 (List.map e30 l3).length),pR 6 1,(7,jI (wr (n+1)))] [(2,.row 30 1 (List.map e30 l3)),(1,.var 37 [jI p.Low,jI p.High]),(0,.var 29 (cv29 b))] 3 0) ?_
      obtain rfl:=Option.some.inj h
      have ew:wr (n+1)=n+1:=inext (N:=(p.High+1)) (by omega) (by omega) (by omega)
      rw [ew]
      exact hK_8 _ (Can.kp (by kernel_rfl))
     ·subst hout
      refine AW.seqK (fun K_16 hK_16=>?_)
      refine Sa (sT [(1,.d (q1 some_)),pR 2 0,(5,.own 2 (List.map e30 l2).length),pR 6 1,(7,jI n),(27,.d (.bool (decide (n≤p.High))))] [(2,.row 30 1 (List.map e30 l2)),(1,.var 37 [jI p.Low,jI p.High]),(0,.var 29 (cv29 b))] 3 0) ?_
      refine AW.cond rfl (fun hb_17=>False.elim (by have:=of_decide_eq_true hb_17;omega)) (fun hb_17=>?_)
      refine AW.exit ?_
      obtain rfl:=Option.some.inj h
      exact hK_7 _ (Can.kp (by kernel_rfl))
    ·obtain rfl:=Option.some.inj h
     exact hK_6 _ (Can.kp (by kernel_rfl))
   ·refine Sa (sT [(4,.own 2 (List.map e30 l).length)] [(2,.row 30 1 (List.map e30 l))] 3 0) ?_
    obtain rfl:=Option.some.inj h
    exact AW.ret (hR_0 _ (retX (.cons (.tmp rfl) .nil) (.own rfl rfl) rfl (by kernel_rfl) (by kernel_rfl)))
def g95_28 (p1:(List Int)) (ok:Bool):(Int×(List Int))→Option (Ctl (Int×(List Int)) (List Int)):=fun  (k1,l5)=>(bif ok then (some (decide (k1<(p1.length:Int)))) else (some false)).bind fun v=>bif v then ((ixL l5 k1).bind fun p4=>(ixL p1 k1).bind fun p5=>some (.next ((wr (k1+1)),(setL l5 k1 (wr (p4 - p5)))))) else (some (.brk l5))
def g95_15 (l1:List Int):Int→Int→Bool→Option Bool:=fun k p2 ok=>bif ok then ((ixL l1 k).bind fun p3=>some (decide (p2≤p3))) else (some false)
def g95_5 (b:HarnessBook) (hair:(List Int)):Int→Int→(Int×(List Int))→Option (Int×(List Int)):=fun i p (set_2,l1)=>((ixL b.Needs p).bind fun p1=>(g41 hair p).bind fun r0_1=>(eachS (g95_15 l1) p1 0 (decide (0≤r0_1))).bind fun ok=>((whileC (g95_28 p1 ok) 1000 (0,l1)).bind fun l4=>some l4).bind fun l3=>bif ok then ((must (decide (0≤p))).bind fun _=>some ((bOr set_2 (shl64 1 p)),l3)) else (some (set_2,l3))).bind fun (set_3,l2)=>some (set_3,l2)
def g95 (b:HarnessBook) (hair:(List Int)) (order:(List Int)) (stock:(List Int)):Option Int:=(appL 8 ([]:List Int) stock).bind fun l=>(((eachS (g95_5 b hair) order 0 (0,l)).bind fun (set_2,l1)=>some set_2).bind fun set_1=>some set_1).bind fun set_=>some set_
theorem k95 (b:HarnessBook) (hair:(List Int)) (order:(List Int)) (stock:(List Int)) (r:Int) (h:g95 b hair order stock=some r):SCall Tryd.prog Gs 95 [.agg (cv29 b),.d (q1 hair),.d (q1 order),.d (q1 stock)] [] 0 Fr.emp (jI r) [] 0 Fr.emp:=by
 unfold g95 at h
 refine SCall.mkK Tryd.func95 c95 rfl rfl (by kernel_rfl) (fun Q_0 hR_0 hN_0=>?_)
 refine Sa (sT [(1,.d (q1 hair)),(2,.d (q1 order)),(3,.d (q1 stock)),pR 4 0] [(0,.var 29 (cv29 b))] 1 0) ?_
 refine AW.srwK (fun Q_1 hQ_1=>?_)
 refine Au 2 (sT [(1,.d (q1 hair)),(2,.d (q1 order)),pR 4 0,(16,.own 1 (List.map e3 []).length),(17,.d (q1 stock))] [(1,.row 3 1 (List.map e3 [])),(0,.var 29 (cv29 b))] 2 0) ?_
 obtain ⟨l,hv_2,h⟩:=bsome h
 refine RW.one fokW (r_apD trivial rfl rfl rfl rfl (apz hv_2 e3) (apr hv_2 e3) (r_end ?_))
 refine Au 1 (sT [(1,.d (q1 hair)),(2,.d (q1 order)),pR 4 0,(9,.own 1 (List.map e3 l).length)] [(1,.row 3 1 (List.map e3 l)),(0,.var 29 (cv29 b))] 2 0) ?_
 refine RW.nil (hQ_1 _ ?_)
 refine Sa (sT [(1,.d (q1 hair)),(2,.d (q1 order)),pR 4 0,(9,.own 1 (List.map e3 l).length),(10,jI 0)] [(1,.row 3 1 (List.map e3 l)),(0,.var 29 (cv29 b))] 2 0) ?_
 obtain ⟨set_,hx_3,h⟩:=bsome h
 refine AW.jnSK (fun (set_:Int)=>(sT [(10,jI set_)] [] 2 0)) (c:=set_) (fun K_3 hK_3=>?_) ?_
 ·have h:=hx_3
  refine Sa (sT [(1,.d (q1 hair)),(2,.d (q1 order)),pR 4 0,(9,.own 1 (List.map e3 l).length),(10,jI 0),(11,jI 0)] [(1,.row 3 1 (List.map e3 l)),(0,.var 29 (cv29 b))] 2 0) ?_
  obtain ⟨set_1,hx_4,h⟩:=bsome h
  refine AW.jqSK (fun (set_1:Int)=>(sT [(10,jI set_1)] [] 2 0)) (c:=set_1) (fun K_4 hK_4=>?_) ?_
  ·have h:=hx_4
   refine AW.block ?_
   refine AW.sln (t:=2) rfl (fun hN_5=>?_)
   rw [List.length_map] at hN_5
   obtain ⟨out_5,hx_5,h⟩:=bsome h
   refine AW.evSK (fun (i:Int) (⟨set_2,l1⟩:Int×(List Int))=>(sT [(1,.d (q1 hair)),(2,.d (q1 order)),pR 4 0,(9,.own 1 (List.map e3 l1).length),(10,jI set_2),(11,jI i)] [(1,.row 3 1 (List.map e3 l1)),(0,.var 29 (cv29 b))] 2 0)) (g95_5 b hair) hx_5 (Can.kp (by kernel_rfl)) (fun i p s_5 hi_5 hl_5 hp_5 c_5 h K_5 hK_5=>?_) (fun i s_5 hi_5 hl_5 hout=>?_)
   ·obtain ⟨set_2,l1⟩:=s_5
    unfold g95_5 at h
    refine AW.seqK fun K_6 hK_6=>AW.srwK fun Q_7 hQ_7=>?_
    refine Au 2 (sT [(1,.d (q1 hair)),(2,.d (q1 order)),pR 4 0,(9,.own 1 (List.map e3 l1).length),(10,jI set_2),(11,jI i),(19,jI i),(20,.d (q1 order))] [(1,.row 3 1 (List.map e3 l1)),(0,.var 29 (cv29 b))] 2 0) ?_
    refine rL rfl ?_
    refine Au 1 (sT [(1,.d (q1 hair)),(2,.d (q1 order)),pR 4 0,(9,.own 1 (List.map e3 l1).length),(10,jI set_2),(11,jI i),(22,.d (.bool (decide (i<(order.length:Int)))))] [(1,.row 3 1 (List.map e3 l1)),(0,.var 29 (cv29 b))] 2 0) ?_
    refine RW.nil (hQ_7 _ ?_)
    refine AW.cond rfl (fun hb_8=>?_) (fun hb_8=>False.elim (by have:=of_decide_eq_false hb_8;omega))
    refine AW.skip (hK_6 _ ?_)
    obtain ⟨c_9,hx_9,h⟩:=bsome h
    refine AW.jnSK (fun (⟨set_3,l2⟩:Int×(List Int))=>(sT [(1,.d (q1 hair)),(2,.d (q1 order)),pR 4 0,(9,.own 1 (List.map e3 l2).length),(10,jI set_3),(11,jI i)] [(1,.row 3 1 (List.map e3 l2)),(0,.var 29 (cv29 b))] 2 0)) (c:=c_9) (fun K_9 hK_9=>?_) ?_
    ·have h:=hx_9
     refine AW.block ?_
     refine AW.sdrwK fokW (fun Q_10 hQ_10=>?_)
     refine aX 4 (sT [(1,.d (q1 hair)),(2,.d (q1 order)),pR 4 0,(9,.own 1 (List.map e3 l1).length),(10,jI set_2),(11,jI i),(26,.d (.sl 1 (List.map e30 b.Needs))),(27,.d (q1 order)),(28,jI i)] [(1,.row 3 1 (List.map e3 l1)),(0,.var 29 (cv29 b))] 2 0) ?_
     refine r_iaD trivial rfl rfl hi_5 (row:=e3 p) (mapget hp_5) ?_
     refine aX 1 (sT [(1,.d (q1 hair)),(2,.d (q1 order)),pR 4 0,(9,.own 1 (List.map e3 l1).length),(10,jI set_2),(11,jI i),(26,.d (.sl 1 (List.map e30 b.Needs))),(30,jI p)] [(1,.row 3 1 (List.map e3 l1)),(0,.var 29 (cv29 b))] 2 0) ?_
     obtain ⟨p1,hv_11,h⟩:=bsome h
     refine r_iaD trivial rfl rfl (ixL_ok hv_11).1 (row:=e30 p1) (mapget (ixL_ok hv_11).2) ?_
     refine aX 2 (sT [(1,.d (q1 hair)),(2,.d (q1 order)),pR 4 0,(9,.own 1 (List.map e3 l1).length),(10,jI set_2),(11,jI i),(12,.d (q1 p1))] [(1,.row 3 1 (List.map e3 l1)),(0,.var 29 (cv29 b))] 2 0) ?_
     refine Fi (sT [(1,.d (q1 hair)),(2,.d (q1 order)),pR 4 0,(9,.own 1 (List.map e3 l1).length),(10,jI set_2),(11,jI i),(12,.d (q1 p1))] [(1,.row 3 1 (List.map e3 l1)),(0,.var 29 (cv29 b))] 2 0) ?_
     refine hQ_10 _ ?_
     refine AW.srwK (fun Q_12 hQ_12=>?_)
     refine Au 3 (sT [(1,.d (q1 hair)),(2,.d (q1 order)),pR 4 0,(9,.own 1 (List.map e3 l1).length),(10,jI set_2),(11,jI i),(12,.d (q1 p1)),(33,.d (q1 hair)),(34,.d (q1 order)),(35,jI i)] [(1,.row 3 1 (List.map e3 l1)),(0,.var 29 (cv29 b))] 2 0) ?_
     refine RW.one fokW (r_iaD trivial rfl rfl hi_5 (row:=e3 p) (mapget hp_5) (r_end ?_))
     refine Au 1 (sT [(1,.d (q1 hair)),(2,.d (q1 order)),pR 4 0,(9,.own 1 (List.map e3 l1).length),(10,jI set_2),(11,jI i),(12,.d (q1 p1)),(33,.d (q1 hair)),(37,jI p)] [(1,.row 3 1 (List.map e3 l1)),(0,.var 29 (cv29 b))] 2 0) ?_
     obtain ⟨r0_1,hx_13,h⟩:=bsome h
     refine rC (k41 hair p _ hx_13) ?_
     refine Au 2 (sT [(1,.d (q1 hair)),(2,.d (q1 order)),pR 4 0,(9,.own 1 (List.map e3 l1).length),(10,jI set_2),(11,jI i),(12,.d (q1 p1)),(13,.d (.bool (decide (0≤r0_1))))] [(1,.row 3 1 (List.map e3 l1)),(0,.var 29 (cv29 b))] 2 0) ?_
     refine RW.nil (hQ_12 _ ?_)
     refine AW.seqK (fun K_14 hK_14=>?_)
     refine Sa (sT [(1,.d (q1 hair)),(2,.d (q1 order)),pR 4 0,(9,.own 1 (List.map e3 l1).length),(10,jI set_2),(11,jI i),(12,.d (q1 p1)),(13,.d (.bool (decide (0≤r0_1)))),(14,jI 0)] [(1,.row 3 1 (List.map e3 l1)),(0,.var 29 (cv29 b))] 2 0) ?_
     refine AW.block ?_
     refine AW.sln (t:=12) rfl (fun hN_15=>?_)
     rw [List.length_map] at hN_15
     obtain ⟨out_15,hx_15,h⟩:=bsome h
     refine AW.evSK (fun (k:Int) (ok:Bool)=>(sT [(1,.d (q1 hair)),(2,.d (q1 order)),pR 4 0,(9,.own 1 (List.map e3 l1).length),(10,jI set_2),(11,jI i),(12,.d (q1 p1)),(13,.d (.bool ok)),(14,jI k)] [(1,.row 3 1 (List.map e3 l1)),(0,.var 29 (cv29 b))] 2 0)) (g95_15 l1) hx_15 (Can.kp (by kernel_rfl)) (fun k p2 ok hi_15 hl_15 hp_15 c_15 h K_15 hK_15=>?_) (fun k ok hi_15 hl_15 hout=>?_)
     ·unfold g95_15 at h
      refine AW.seqK fun K_16 hK_16=>AW.srwK fun Q_17 hQ_17=>?_
      refine Au 2 (sT [(1,.d (q1 hair)),(2,.d (q1 order)),pR 4 0,(9,.own 1 (List.map e3 l1).length),(10,jI set_2),(11,jI i),(12,.d (q1 p1)),(13,.d (.bool ok)),(14,jI k),(40,jI k),(41,.d (q1 p1))] [(1,.row 3 1 (List.map e3 l1)),(0,.var 29 (cv29 b))] 2 0) ?_
      refine rL rfl ?_
      refine Au 1 (sT [(1,.d (q1 hair)),(2,.d (q1 order)),pR 4 0,(9,.own 1 (List.map e3 l1).length),(10,jI set_2),(11,jI i),(12,.d (q1 p1)),(13,.d (.bool ok)),(14,jI k),(43,.d (.bool (decide (k<(p1.length:Int)))))] [(1,.row 3 1 (List.map e3 l1)),(0,.var 29 (cv29 b))] 2 0) ?_
      refine RW.nil (hQ_17 _ ?_)
      refine AW.cond rfl (fun hb_18=>?_) (fun hb_18=>False.elim (by have:=of_decide_eq_false hb_18;omega))
      refine AW.skip (hK_16 _ ?_)
      refine AW.seqK (fun K_19 hK_19=>?_)
      refine AW.block ?_
      refine AW.drw fokW ?_
      refine aX 2 (sT [(1,.d (q1 hair)),(2,.d (q1 order)),pR 4 0,(9,.own 1 (List.map e3 l1).length),(10,jI set_2),(11,jI i),(12,.d (q1 p1)),(14,jI k),(47,.d (.bool ok))] [(1,.row 3 1 (List.map e3 l1)),(0,.var 29 (cv29 b))] 2 0) ?_
      refine r_split 47 rfl (fun hb_21=>?_) (fun hb_21=>?_)
      ·have h:=ifT hb_21 h
       refine aX 2 (sT [(1,.d (q1 hair)),(2,.d (q1 order)),pR 4 0,(9,.own 1 (List.map e3 l1).length),(10,jI set_2),(11,jI i),(12,.d (q1 p1)),(14,jI k),(47,.d (.bool true)),(48,.d (q1 p1)),(49,jI k)] [(1,.row 3 1 (List.map e3 l1)),(0,.var 29 (cv29 b))] 2 0) ?_
       refine r_iaD rfl rfl rfl hi_15 (row:=e3 p2) (mapget hp_15) ?_
       refine aX 3 (sT [(1,.d (q1 hair)),(2,.d (q1 order)),pR 4 0,(9,.own 1 (List.map e3 l1).length),(10,jI set_2),(11,jI i),(12,.d (q1 p1)),(14,jI k),(47,.d (.bool true)),(51,jI p2),(52,.own 1 (List.map e3 l1).length),(53,jI k)] [(1,.row 3 1 (List.map e3 l1)),(0,.var 29 (cv29 b))] 2 0) ?_
       obtain ⟨p3,hv_22,h⟩:=bsome h
       refine r_iaO rfl rfl rfl rfl (ixL_ok hv_22).1 (ix_lt (ixL_ok hv_22).2) rfl ?_
       refine r_loadE rfl rfl rfl rfl (mapget (f:=e3) (ixL_ok hv_22).2) rfl ?_
       refine aX 3 (sT [(1,.d (q1 hair)),(2,.d (q1 order)),pR 4 0,(9,.own 1 (List.map e3 l1).length),(10,jI set_2),(11,jI i),(12,.d (q1 p1)),(13,.d (.bool (decide (p2≤p3)))),(14,jI k)] [(1,.row 3 1 (List.map e3 l1)),(0,.var 29 (cv29 b))] 2 0) ?_
       refine Fi (sT [(1,.d (q1 hair)),(2,.d (q1 order)),pR 4 0,(9,.own 1 (List.map e3 l1).length),(10,jI set_2),(11,jI i),(12,.d (q1 p1)),(13,.d (.bool (decide (p2≤p3)))),(14,jI k)] [(1,.row 3 1 (List.map e3 l1)),(0,.var 29 (cv29 b))] 2 0) ?_
       refine hK_19 _ ?_
       refine Ra (sT [(1,.d (q1 hair)),(2,.d (q1 order)),pR 4 0,(9,.own 1 (List.map e3 l1).length),(10,jI set_2),(11,jI i),(12,.d (q1 p1)),(13,.d (.bool (decide (p2≤p3)))),(14,jI (wr (k+1)))] [(1,.row 3 1 (List.map e3 l1)),(0,.var 29 (cv29 b))] 2 0) ?_
       obtain rfl:=Option.some.inj h
       have ew:wr (k+1)=k+1:=inext (N:=(p1.length:Int)) (by omega) (by omega) (by omega)
       rw [ew]
       exact hK_15 _ (Can.kp (by kernel_rfl))
      ·have h:=ifF hb_21 h
       refine aX 11 (sT [(1,.d (q1 hair)),(2,.d (q1 order)),pR 4 0,(9,.own 1 (List.map e3 l1).length),(10,jI set_2),(11,jI i),(12,.d (q1 p1)),(13,.d (.bool false)),(14,jI k)] [(1,.row 3 1 (List.map e3 l1)),(0,.var 29 (cv29 b))] 2 0) ?_
       refine Fi (sT [(1,.d (q1 hair)),(2,.d (q1 order)),pR 4 0,(9,.own 1 (List.map e3 l1).length),(10,jI set_2),(11,jI i),(12,.d (q1 p1)),(13,.d (.bool false)),(14,jI k)] [(1,.row 3 1 (List.map e3 l1)),(0,.var 29 (cv29 b))] 2 0) ?_
       refine hK_19 _ ?_
       refine Ra (sT [(1,.d (q1 hair)),(2,.d (q1 order)),pR 4 0,(9,.own 1 (List.map e3 l1).length),(10,jI set_2),(11,jI i),(12,.d (q1 p1)),(13,.d (.bool false)),(14,jI (wr (k+1)))] [(1,.row 3 1 (List.map e3 l1)),(0,.var 29 (cv29 b))] 2 0) ?_
       obtain rfl:=Option.some.inj h
       have ew:wr (k+1)=k+1:=inext (N:=(p1.length:Int)) (by omega) (by omega) (by omega)
       rw [ew]
       exact hK_15 _ (Can.kp (by kernel_rfl))
     ·subst hout
      refine AW.seqK fun K_23 hK_23=>AW.srwK fun Q_24 hQ_24=>?_
      refine Au 2 (sT [(1,.d (q1 hair)),(2,.d (q1 order)),pR 4 0,(9,.own 1 (List.map e3 l1).length),(10,jI set_2),(11,jI i),(12,.d (q1 p1)),(13,.d (.bool ok)),(14,jI k),(40,jI k),(41,.d (q1 p1))] [(1,.row 3 1 (List.map e3 l1)),(0,.var 29 (cv29 b))] 2 0) ?_
      refine rL rfl ?_
      refine Au 1 (sT [(1,.d (q1 hair)),(2,.d (q1 order)),pR 4 0,(9,.own 1 (List.map e3 l1).length),(10,jI set_2),(11,jI i),(12,.d (q1 p1)),(13,.d (.bool ok)),(14,jI k),(43,.d (.bool (decide (k<(p1.length:Int)))))] [(1,.row 3 1 (List.map e3 l1)),(0,.var 29 (cv29 b))] 2 0) ?_
      refine RW.nil (hQ_24 _ ?_)
      refine AW.cond rfl (fun hb_25=>False.elim (by have:=of_decide_eq_true hb_25;omega)) (fun hb_25=>?_)
      refine AW.exit ?_
      refine hK_14 _ ?_
      obtain ⟨l3,hx_26,h⟩:=bsome h
      refine AW.jnSK (fun (l3:List Int)=>(sT [(1,.d (q1 hair)),(2,.d (q1 order)),pR 4 0,(9,.own 1 (List.map e3 l3).length),(10,jI set_2),(11,jI i),(13,.d (.bool ok))] [(1,.row 3 1 (List.map e3 l3)),(0,.var 29 (cv29 b))] 2 0)) (c:=l3) (fun K_26 hK_26=>?_) ?_
      ·have h:=hx_26
       refine Sa (sT [(1,.d (q1 hair)),(2,.d (q1 order)),pR 4 0,(9,.own 1 (List.map e3 l1).length),(10,jI set_2),(11,jI i),(12,.d (q1 p1)),(13,.d (.bool ok)),(15,jI 0)] [(1,.row 3 1 (List.map e3 l1)),(0,.var 29 (cv29 b))] 2 0) ?_
       obtain ⟨l4,hx_27,h⟩:=bsome h
       refine AW.jqSK (fun (l4:List Int)=>(sT [(1,.d (q1 hair)),(2,.d (q1 order)),pR 4 0,(9,.own 1 (List.map e3 l4).length),(10,jI set_2),(11,jI i),(13,.d (.bool ok))] [(1,.row 3 1 (List.map e3 l4)),(0,.var 29 (cv29 b))] 2 0)) (c:=l4) (fun K_27 hK_27=>?_) ?_
       ·have h:=hx_27
        refine AW.block ?_
        refine AW.whK (fun (⟨k1,l5⟩:Int×(List Int))=>(sT [(1,.d (q1 hair)),(2,.d (q1 order)),pR 4 0,(9,.own 1 (List.map e3 l5).length),(10,jI set_2),(11,jI i),(12,.d (q1 p1)),(13,.d (.bool ok)),(15,jI k1)] [(1,.row 3 1 (List.map e3 l5)),(0,.var 29 (cv29 b))] 2 0)) (g95_28 p1 ok) h (Can.kp (by kernel_rfl)) (fun s_28 c_28 h hb_28 K_28 hK_28=>?_)
        obtain ⟨k1,l5⟩:=s_28
        unfold g95_28 at h
        refine AW.seqK fun K_29 hK_29=>AW.srwK fun Q_30 hQ_30=>?_
        refine Au 2 (sT [(1,.d (q1 hair)),(2,.d (q1 order)),pR 4 0,(9,.own 1 (List.map e3 l5).length),(10,jI set_2),(11,jI i),(12,.d (q1 p1)),(13,.d (.bool ok)),(15,jI k1),(59,.d (.bool ok))] [(1,.row 3 1 (List.map e3 l5)),(0,.var 29 (cv29 b))] 2 0) ?_
        obtain ⟨v,hx_31,h⟩:=bsome h
        refine RW.cut fokW 5 ((sT [(1,.d (q1 hair)),(2,.d (q1 order)),pR 4 0,(9,.own 1 (List.map e3 l5).length),(10,jI set_2),(11,jI i),(12,.d (q1 p1)),(13,.d (.bool ok)),(15,jI k1),(64,.d (.bool v))] [(1,.row 3 1 (List.map e3 l5)),(0,.var 29 (cv29 b))] 2 0)) ?_ ?_
        ·refine r_split 59 rfl (fun hb_32=>?_) (fun hb_32=>?_)
         ·have h:=ifT hb_32 hx_31
          refine aX 2 (sT [(1,.d (q1 hair)),(2,.d (q1 order)),pR 4 0,(9,.own 1 (List.map e3 l5).length),(10,jI set_2),(11,jI i),(12,.d (q1 p1)),(13,.d (.bool ok)),(15,jI k1),(59,.d (.bool true)),(60,jI k1),(61,.d (q1 p1))] [(1,.row 3 1 (List.map e3 l5)),(0,.var 29 (cv29 b))] 2 0) ?_
          refine r_lenX rfl rfl lenm ?_
          refine aX 2 (sT [(1,.d (q1 hair)),(2,.d (q1 order)),pR 4 0,(9,.own 1 (List.map e3 l5).length),(10,jI set_2),(11,jI i),(12,.d (q1 p1)),(13,.d (.bool ok)),(15,jI k1),(64,.d (.bool (decide (k1<(p1.length:Int)))))] [(1,.row 3 1 (List.map e3 l5)),(0,.var 29 (cv29 b))] 2 0) ?_
          obtain rfl:=Option.some.inj h
          refine RunC.finJ (Can.kp (by kernel_rfl))
         ·have h:=ifF hb_32 hx_31
          refine aX 5 (sT [(1,.d (q1 hair)),(2,.d (q1 order)),pR 4 0,(9,.own 1 (List.map e3 l5).length),(10,jI set_2),(11,jI i),(12,.d (q1 p1)),(13,.d (.bool ok)),(15,jI k1),(64,.d (.bool false))] [(1,.row 3 1 (List.map e3 l5)),(0,.var 29 (cv29 b))] 2 0) ?_
          obtain rfl:=Option.some.inj h
          refine RunC.finJ (Can.kp (by kernel_rfl))
        ·refine RW.nil (hQ_30 _ ?_)
         refine AW.cond rfl (fun hb_33=>?_) (fun hb_33=>?_)
         ·have h:=ifT hb_33 h
          refine AW.skip (hK_29 _ ?_)
          refine AW.seqK (fun K_34 hK_34=>?_)
          refine AW.block ?_
          refine AW.drw fokW ?_
          refine aX 2 (sT [(1,.d (q1 hair)),(2,.d (q1 order)),pR 4 0,(9,.own 1 (List.map e3 l5).length),(10,jI set_2),(11,jI i),(12,.d (q1 p1)),(13,.d (.bool ok)),(15,jI k1),(67,.own 1 (List.map e3 l5).length),(68,jI k1)] [(1,.row 3 1 (List.map e3 l5)),(0,.var 29 (cv29 b))] 2 0) ?_
          obtain ⟨p4,hv_36,h⟩:=bsome h
          refine r_iaO trivial rfl rfl rfl (ixL_ok hv_36).1 (ix_lt (ixL_ok hv_36).2) rfl ?_
          refine r_loadE trivial rfl rfl rfl (mapget (f:=e3) (ixL_ok hv_36).2) rfl ?_
          refine aX 2 (sT [(1,.d (q1 hair)),(2,.d (q1 order)),pR 4 0,(9,.own 1 (List.map e3 l5).length),(10,jI set_2),(11,jI i),(12,.d (q1 p1)),(13,.d (.bool ok)),(15,jI k1),(67,.own 1 (List.map e3 l5).length),(68,jI k1),(70,jI p4),(71,.d (q1 p1)),(72,jI k1)] [(1,.row 3 1 (List.map e3 l5)),(0,.var 29 (cv29 b))] 2 0) ?_
          obtain ⟨p5,hv_37,h⟩:=bsome h
          refine r_iaD trivial rfl rfl (ixL_ok hv_37).1 (row:=e3 p5) (mapget (ixL_ok hv_37).2) ?_
          refine aX 2 (sT [(1,.d (q1 hair)),(2,.d (q1 order)),pR 4 0,(9,.own 1 (List.map e3 l5).length),(10,jI set_2),(11,jI i),(12,.d (q1 p1)),(13,.d (.bool ok)),(15,jI k1),(67,.own 1 (List.map e3 l5).length),(68,jI k1),(75,jI (wr (p4 - p5)))] [(1,.row 3 1 (List.map e3 l5)),(0,.var 29 (cv29 b))] 2 0) ?_
          refine r_iaO trivial rfl rfl rfl (ixL_ok hv_36).1 (ix_lt (ixL_ok hv_36).2) rfl ?_
          refine r_stE trivial rfl rfl rfl rfl (mapget (f:=e3) (ixL_ok hv_36).2) rfl rfl rfl (Nat.le_of_ble_eq_true rfl) (stz (f:=e3) (x:=(wr (p4 - p5))) rfl) ?_
          rw [lenset (f:=e3) (xs:=l5) (i:=k1) (x:=(wr (p4 - p5)))]
          refine Fi (sT [(1,.d (q1 hair)),(2,.d (q1 order)),pR 4 0,(9,.own 1 (List.map e3 (setL l5 k1 (wr (p4 - p5)))).length),(10,jI set_2),(11,jI i),(12,.d (q1 p1)),(13,.d (.bool ok)),(15,jI k1)] [(1,.row 3 1 (List.map e3 (setL l5 k1 (wr (p4 - p5))))),(0,.var 29 (cv29 b))] 2 0) ?_
          refine hK_34 _ ?_
          refine Ra (sT [(1,.d (q1 hair)),(2,.d (q1 order)),pR 4 0,(9,.own 1 (List.map e3 (setL l5 k1 (wr (p4 - p5)))).length),(10,jI set_2),(11,jI i),(12,.d (q1 p1)),(13,.d (.bool ok)),(15,jI (wr (k1+1)))] [(1,.row 3 1 (List.map e3 (setL l5 k1 (wr (p4 - p5))))),(0,.var 29 (cv29 b))] 2 0) ?_
          obtain rfl:=Option.some.inj h
          exact hK_28 _ _ rfl (Can.kp (by kernel_rfl))
         ·have h:=ifF hb_33 h
          refine AW.exit ?_
          obtain rfl:=Option.some.inj h
          obtain rfl:=hb_28 _ rfl
          exact hK_27 _ (Can.kp (by kernel_rfl))
       ·obtain rfl:=Option.some.inj h
        exact hK_26 _ (Can.kp (by kernel_rfl))
      ·refine Sa (sT [(1,.d (q1 hair)),(2,.d (q1 order)),pR 4 0,(9,.own 1 (List.map e3 l3).length),(10,jI set_2),(11,jI i),(77,.d (.bool ok))] [(1,.row 3 1 (List.map e3 l3)),(0,.var 29 (cv29 b))] 2 0) ?_
       refine AW.cond rfl (fun hb_38=>?_) (fun hb_38=>?_)
       ·have h:=ifT hb_38 h
        refine AW.rw ?_
        refine Au 3 (sT [(1,.d (q1 hair)),(2,.d (q1 order)),pR 4 0,(9,.own 1 (List.map e3 l3).length),(11,jI i),(78,jI set_2),(79,.d (q1 order)),(80,jI i)] [(1,.row 3 1 (List.map e3 l3)),(0,.var 29 (cv29 b))] 2 0) ?_
        refine RW.one fokW (r_iaD trivial rfl rfl hi_5 (row:=e3 p) (mapget hp_5) (r_end ?_))
        refine Au 1 (sT [(1,.d (q1 hair)),(2,.d (q1 order)),pR 4 0,(9,.own 1 (List.map e3 l3).length),(11,jI i),(78,jI set_2),(82,jI p)] [(1,.row 3 1 (List.map e3 l3)),(0,.var 29 (cv29 b))] 2 0) ?_
        obtain ⟨_,hv_40,h⟩:=bsome h
        refine RW.one fokW (r_sh trivial rfl rfl (shl64_ok (of_decide_eq_true (must_ok hv_40))) (r_end ?_))
        refine Au 2 (sT [(1,.d (q1 hair)),(2,.d (q1 order)),pR 4 0,(9,.own 1 (List.map e3 l3).length),(10,jI (bOr set_2 (shl64 1 p))),(11,jI i)] [(1,.row 3 1 (List.map e3 l3)),(0,.var 29 (cv29 b))] 2 0) ?_
        refine RW.nil ?_
        obtain rfl:=Option.some.inj h
        exact hK_9 _ (Can.kp (by kernel_rfl))
       ·have h:=ifF hb_38 h
        refine AW.skip ?_
        obtain rfl:=Option.some.inj h
        exact hK_9 _ (Can.kp (by kernel_rfl))
    ·obtain ⟨set_3,l2⟩:=c_9
     refine Ra (sT [(1,.d (q1 hair)),(2,.d (q1 order)),pR 4 0,(9,.own 1 (List.map e3 l2).length),(10,jI set_3),(11,jI (wr (i+1)))] [(1,.row 3 1 (List.map e3 l2)),(0,.var 29 (cv29 b))] 2 0) ?_
     obtain rfl:=Option.some.inj h
     have ew:wr (i+1)=i+1:=inext (N:=(order.length:Int)) (by omega) (by omega) (by omega)
     rw [ew]
     exact hK_5 _ (Can.kp (by kernel_rfl))
   ·obtain ⟨set_2,l1⟩:=s_5
    subst hout
    refine AW.seqK fun K_41 hK_41=>AW.srwK fun Q_42 hQ_42=>?_
    refine Au 2 (sT [(1,.d (q1 hair)),(2,.d (q1 order)),pR 4 0,(9,.own 1 (List.map e3 l1).length),(10,jI set_2),(11,jI i),(19,jI i),(20,.d (q1 order))] [(1,.row 3 1 (List.map e3 l1)),(0,.var 29 (cv29 b))] 2 0) ?_
    refine rL rfl ?_
    refine Au 1 (sT [(1,.d (q1 hair)),(2,.d (q1 order)),pR 4 0,(9,.own 1 (List.map e3 l1).length),(10,jI set_2),(11,jI i),(22,.d (.bool (decide (i<(order.length:Int)))))] [(1,.row 3 1 (List.map e3 l1)),(0,.var 29 (cv29 b))] 2 0) ?_
    refine RW.nil (hQ_42 _ ?_)
    refine AW.cond rfl (fun hb_43=>False.elim (by have:=of_decide_eq_true hb_43;omega)) (fun hb_43=>?_)
    refine AW.exit ?_
    obtain rfl:=Option.some.inj h
    exact hK_4 _ (Can.kp (by kernel_rfl))
  ·obtain rfl:=Option.some.inj h
   exact hK_3 _ (Can.kp (by kernel_rfl))
 ·refine Sa (sT [(8,jI set_)] [] 2 0) ?_
  obtain rfl:=Option.some.inj h
  exact rT hR_0 (.cons (.tmp rfl) .nil)
def g64_4 (b:HarnessBook) (hair:(List Int)) (order:(List Int)):Int→(List Int)→(List Int)→Option (List Int):=fun i p l=>(g95 b hair order p).bind fun r0=>(appL 8 l [r0]).bind fun l1=>some l1
def g64 (b:HarnessBook) (hair:(List Int)) (order:(List Int)):Option (List Int):=(g94 1000 b ([]:(List Int))).bind fun r0_3=>(eachS (g64_4 b hair order) r0_3 0 ([]:List Int)).bind fun l=>some l
theorem k64 (b:HarnessBook) (hair:(List Int)) (order:(List Int)) (r:(List Int)) (h:g64 b hair order=some r):SCall Tryd.prog Gs 64 [.agg (cv29 b),.d (q1 hair),.d (q1 order)] [] 0 Fr.emp (.d (q1 r)) [] 0 Fr.emp:=by
 unfold g64 at h
 refine SCall.mkK Tryd.func64 c64 rfl rfl (by kernel_rfl) (fun Q_0 hR_0 hN_0=>?_)
 refine Sa (sT [(1,.d (q1 hair)),(2,.d (q1 order)),pR 3 0] [(0,.var 29 (cv29 b))] 1 0) ?_
 refine Sa (sT [(1,.d (q1 hair)),(2,.d (q1 order)),pR 3 0,(7,.d (.nilSl))] [(0,.var 29 (cv29 b))] 1 0) ?_
 refine AW.srwK (fun Q_1 hQ_1=>?_)
 refine Au 1 (sT [(1,.d (q1 hair)),(2,.d (q1 order)),pR 3 0,(7,.d (.nilSl)),(10,.agg (cv29 b))] [(0,.var 29 (cv29 b))] 1 0) ?_
 obtain ⟨r0_3,hx_2,h⟩:=bsome h
 refine RW.one fokW (r_callZ (zr:=[]) trivial rfl (k94 1000 b ([]:(List Int)) _ hx_2) trivial ⟨.refl _,(.nil 1),trivial⟩ rfl rfl rfl rfl (r_end ?_))
 refine Au 1 (sT [(1,.d (q1 hair)),(2,.d (q1 order)),pR 3 0,(7,.d (.nilSl)),(8,.d (.sl 1 (List.map e30 r0_3)))] [(0,.var 29 (cv29 b))] 1 0) ?_
 refine RW.nil (hQ_1 _ ?_)
 refine AW.seqK (fun K_3 hK_3=>?_)
 refine Sa (sT [(1,.d (q1 hair)),(2,.d (q1 order)),pR 3 0,(7,.d (.nilSl)),(8,.d (.sl 1 (List.map e30 r0_3))),(9,jI 0)] [(0,.var 29 (cv29 b))] 1 0) ?_
 refine AW.block ?_
 refine AW.sln (t:=8) rfl (fun hN_4=>?_)
 rw [List.length_map] at hN_4
 obtain ⟨out_4,hx_4,h⟩:=bsome h
 refine AW.evSK (fun (i:Int) (l:List Int)=>(sT [(1,.d (q1 hair)),(2,.d (q1 order)),pR 3 0,(7,.own 1 (List.map e3 l).length),(8,.d (.sl 1 (List.map e30 r0_3))),(9,jI i)] [(1,.row 3 1 (List.map e3 l)),(0,.var 29 (cv29 b))] 2 0)) (g64_4 b hair order) hx_4 (Can.trans (Can.thawT 7 3 1 rfl rfl) (Can.kp (by kernel_rfl))) (fun i p l hi_4 hl_4 hp_4 c_4 h K_4 hK_4=>?_) (fun i l hi_4 hl_4 hout=>?_)
 ·unfold g64_4 at h
  refine AW.seqK fun K_5 hK_5=>AW.srwK fun Q_6 hQ_6=>?_
  refine Au 2 (sT [(1,.d (q1 hair)),(2,.d (q1 order)),pR 3 0,(7,.own 1 (List.map e3 l).length),(8,.d (.sl 1 (List.map e30 r0_3))),(9,jI i),(12,jI i),(13,.d (.sl 1 (List.map e30 r0_3)))] [(1,.row 3 1 (List.map e3 l)),(0,.var 29 (cv29 b))] 2 0) ?_
  refine rL rfl ?_
  refine Au 1 (sT [(1,.d (q1 hair)),(2,.d (q1 order)),pR 3 0,(7,.own 1 (List.map e3 l).length),(8,.d (.sl 1 (List.map e30 r0_3))),(9,jI i),(15,.d (.bool (decide (i<(r0_3.length:Int)))))] [(1,.row 3 1 (List.map e3 l)),(0,.var 29 (cv29 b))] 2 0) ?_
  refine RW.nil (hQ_6 _ ?_)
  refine AW.cond rfl (fun hb_7=>?_) (fun hb_7=>False.elim (by have:=of_decide_eq_false hb_7;omega))
  refine AW.skip (hK_5 _ ?_)
  refine AW.seqK (fun K_8 hK_8=>?_)
  refine AW.block ?_
  refine AW.drw fokW ?_
  refine aX 6 (sT [(1,.d (q1 hair)),(2,.d (q1 order)),pR 3 0,(8,.d (.sl 1 (List.map e30 r0_3))),(9,jI i),(18,.own 1 (List.map e3 l).length),(19,.agg (cv29 b)),(20,.d (q1 hair)),(21,.d (q1 order)),(22,.d (.sl 1 (List.map e30 r0_3))),(23,jI i)] [(1,.row 3 1 (List.map e3 l)),(0,.var 29 (cv29 b))] 2 0) ?_
  refine r_iaD trivial rfl rfl hi_4 (row:=e30 p) (mapget hp_4) ?_
  refine aX 1 (sT [(1,.d (q1 hair)),(2,.d (q1 order)),pR 3 0,(8,.d (.sl 1 (List.map e30 r0_3))),(9,jI i),(18,.own 1 (List.map e3 l).length),(19,.agg (cv29 b)),(20,.d (q1 hair)),(21,.d (q1 order)),(25,.d (q1 p))] [(1,.row 3 1 (List.map e3 l)),(0,.var 29 (cv29 b))] 2 0) ?_
  obtain ⟨r0,hx_10,h⟩:=bsome h
  refine r_call trivial rfl (k95 b hair order p _ hx_10) rfl rfl ?_
  refine aX 1 (sT [(1,.d (q1 hair)),(2,.d (q1 order)),pR 3 0,(8,.d (.sl 1 (List.map e30 r0_3))),(9,jI i),(18,.own 1 (List.map e3 l).length),(27,.own 2 (List.map e3 [r0]).length)] [(2,.row 3 1 (List.map e3 [r0])),(1,.row 3 1 (List.map e3 l)),(0,.var 29 (cv29 b))] 3 0) ?_
  obtain ⟨l1,hv_11,h⟩:=bsome h
  refine r_apO trivial rfl rfl rfl rfl rfl rfl (apz hv_11 e3) (apr hv_11 e3) ?_
  refine aX 1 (sT [(1,.d (q1 hair)),(2,.d (q1 order)),pR 3 0,(7,.own 1 (List.map e3 l1).length),(8,.d (.sl 1 (List.map e30 r0_3))),(9,jI i)] [(1,.row 3 1 (List.map e3 l1)),(2,.row 3 1 (List.map e3 [r0])),(0,.var 29 (cv29 b))] 3 0) ?_
  refine Fi (sT [(1,.d (q1 hair)),(2,.d (q1 order)),pR 3 0,(7,.own 1 (List.map e3 l1).length),(8,.d (.sl 1 (List.map e30 r0_3))),(9,jI i)] [(1,.row 3 1 (List.map e3 l1)),(0,.var 29 (cv29 b))] 3 0) ?_
  refine hK_8 _ ?_
  refine Ra (sT [(1,.d (q1 hair)),(2,.d (q1 order)),pR 3 0,(7,.own 1 (List.map e3 l1).length),(8,.d (.sl 1 (List.map e30 r0_3))),(9,jI (wr (i+1)))] [(1,.row 3 1 (List.map e3 l1)),(0,.var 29 (cv29 b))] 3 0) ?_
  obtain rfl:=Option.some.inj h
  have ew:wr (i+1)=i+1:=inext (N:=(r0_3.length:Int)) (by omega) (by omega) (by omega)
  rw [ew]
  exact hK_4 _ (Can.kp (by kernel_rfl))
 ·subst hout
  refine AW.seqK fun K_12 hK_12=>AW.srwK fun Q_13 hQ_13=>?_
  refine Au 2 (sT [(1,.d (q1 hair)),(2,.d (q1 order)),pR 3 0,(7,.own 1 (List.map e3 l).length),(8,.d (.sl 1 (List.map e30 r0_3))),(9,jI i),(12,jI i),(13,.d (.sl 1 (List.map e30 r0_3)))] [(1,.row 3 1 (List.map e3 l)),(0,.var 29 (cv29 b))] 2 0) ?_
  refine rL rfl ?_
  refine Au 1 (sT [(1,.d (q1 hair)),(2,.d (q1 order)),pR 3 0,(7,.own 1 (List.map e3 l).length),(8,.d (.sl 1 (List.map e30 r0_3))),(9,jI i),(15,.d (.bool (decide (i<(r0_3.length:Int)))))] [(1,.row 3 1 (List.map e3 l)),(0,.var 29 (cv29 b))] 2 0) ?_
  refine RW.nil (hQ_13 _ ?_)
  refine AW.cond rfl (fun hb_14=>False.elim (by have:=of_decide_eq_true hb_14;omega)) (fun hb_14=>?_)
  refine AW.exit ?_
  refine hK_3 _ ?_
  refine Sa (sT [(6,.own 1 (List.map e3 l).length)] [(1,.row 3 1 (List.map e3 l))] 2 0) ?_
  obtain rfl:=Option.some.inj h
  exact AW.ret (hR_0 _ (retX (.cons (.tmp rfl) .nil) (.own rfl rfl) rfl (by kernel_rfl) (by kernel_rfl)))
def g63_4:Int→Int→Int→Option Int:=fun i p1 set_=>some (bAnd set_ p1)
def g63 (b:HarnessBook) (l:(List Int)):Option (List Int):=(ixL l 0).bind fun p=>(eachS g63_4 l 0 p).bind fun set_=>(g74 set_ (b.Needs.length:Int)).bind fun r0_1=>some r0_1
theorem k63 (b:HarnessBook) (l:(List Int)) (r:(List Int)) (h:g63 b l=some r):SCall Tryd.prog Gs 63 [.agg (cv29 b),.d (q1 l)] [] 0 Fr.emp (.d (q1 r)) [] 0 Fr.emp:=by
 unfold g63 at h
 refine SCall.mkK Tryd.func63 c63 rfl rfl (by kernel_rfl) (fun Q_0 hR_0 hN_0=>?_)
 refine Sa (sT [(1,.d (q1 l)),pR 2 0] [(0,.var 29 (cv29 b))] 1 0) ?_
 refine AW.srwK (fun Q_1 hQ_1=>?_)
 refine Au 1 (sT [(1,.d (q1 l)),pR 2 0,(7,.d (q1 l))] [(0,.var 29 (cv29 b))] 1 0) ?_
 obtain ⟨p,hv_2,h⟩:=bsome h
 refine RW.one fokW (r_iaD trivial rfl rfl (ixL_ok hv_2).1 (row:=e3 p) (mapget (ixL_ok hv_2).2) (r_end ?_))
 refine Au 2 (sT [(1,.d (q1 l)),pR 2 0,(5,jI p)] [(0,.var 29 (cv29 b))] 1 0) ?_
 refine RW.nil (hQ_1 _ ?_)
 refine AW.seqK (fun K_3 hK_3=>?_)
 refine Sa (sT [(1,.d (q1 l)),pR 2 0,(5,jI p),(6,jI 0)] [(0,.var 29 (cv29 b))] 1 0) ?_
 refine AW.block ?_
 refine AW.sln (t:=1) rfl (fun hN_4=>?_)
 rw [List.length_map] at hN_4
 obtain ⟨out_4,hx_4,h⟩:=bsome h
 refine AW.evSK (fun (i:Int) (set_:Int)=>(sT [(1,.d (q1 l)),pR 2 0,(5,jI set_),(6,jI i)] [(0,.var 29 (cv29 b))] 1 0)) g63_4 hx_4 (Can.kp (by kernel_rfl)) (fun i p1 set_ hi_4 hl_4 hp_4 c_4 h K_4 hK_4=>?_) (fun i set_ hi_4 hl_4 hout=>?_)
 ·unfold g63_4 at h
  refine AW.seqK fun K_5 hK_5=>AW.srwK fun Q_6 hQ_6=>?_
  refine Au 2 (sT [(1,.d (q1 l)),pR 2 0,(5,jI set_),(6,jI i),(10,jI i),(11,.d (q1 l))] [(0,.var 29 (cv29 b))] 1 0) ?_
  refine rL rfl ?_
  refine Au 1 (sT [(1,.d (q1 l)),pR 2 0,(5,jI set_),(6,jI i),(13,.d (.bool (decide (i<(l.length:Int)))))] [(0,.var 29 (cv29 b))] 1 0) ?_
  refine RW.nil (hQ_6 _ ?_)
  refine AW.cond rfl (fun hb_7=>?_) (fun hb_7=>False.elim (by have:=of_decide_eq_false hb_7;omega))
  refine AW.skip (hK_5 _ ?_)
  refine AW.seqK (fun K_8 hK_8=>?_)
  refine AW.block ?_
  refine AW.rw ?_
  refine Au 3 (sT [(1,.d (q1 l)),pR 2 0,(6,jI i),(16,jI set_),(17,.d (q1 l)),(18,jI i)] [(0,.var 29 (cv29 b))] 1 0) ?_
  refine RW.one fokW (r_iaD trivial rfl rfl hi_4 (row:=e3 p1) (mapget hp_4) (r_end ?_))
  refine Au 3 (sT [(1,.d (q1 l)),pR 2 0,(5,jI (bAnd set_ p1)),(6,jI i)] [(0,.var 29 (cv29 b))] 1 0) ?_
  refine RW.nil ?_
  refine hK_8 _ ?_
  refine Ra (sT [(1,.d (q1 l)),pR 2 0,(5,jI (bAnd set_ p1)),(6,jI (wr (i+1)))] [(0,.var 29 (cv29 b))] 1 0) ?_
  obtain rfl:=Option.some.inj h
  have ew:wr (i+1)=i+1:=inext (N:=(l.length:Int)) (by omega) (by omega) (by omega)
  rw [ew]
  exact hK_4 _ (Can.kp (by kernel_rfl))
 ·subst hout
  refine AW.seqK fun K_10 hK_10=>AW.srwK fun Q_11 hQ_11=>?_
  refine Au 2 (sT [(1,.d (q1 l)),pR 2 0,(5,jI set_),(6,jI i),(10,jI i),(11,.d (q1 l))] [(0,.var 29 (cv29 b))] 1 0) ?_
  refine rL rfl ?_
  refine Au 1 (sT [(1,.d (q1 l)),pR 2 0,(5,jI set_),(6,jI i),(13,.d (.bool (decide (i<(l.length:Int)))))] [(0,.var 29 (cv29 b))] 1 0) ?_
  refine RW.nil (hQ_11 _ ?_)
  refine AW.cond rfl (fun hb_12=>False.elim (by have:=of_decide_eq_true hb_12;omega)) (fun hb_12=>?_)
  refine AW.exit ?_
  refine hK_3 _ ?_
  refine AW.srwK (fun Q_13 hQ_13=>?_)
  refine Au 3 (sT [(22,jI set_),(24,.d (.sl 1 (List.map e30 b.Needs)))] [] 1 0) ?_
  refine rL rfl ?_
  obtain ⟨r0_1,hx_14,h⟩:=bsome h
  refine rC (k74 set_ (b.Needs.length:Int) _ hx_14) ?_
  refine Au 1 (sT [(4,.d (q1 r0_1))] [] 1 0) ?_
  refine RW.nil (hQ_13 _ ?_)
  obtain rfl:=Option.some.inj h
  exact rT hR_0 (.cons (.tmp rfl) .nil)
def g71_2:Int→Int→Int→Option Int:=fun i p set_=>some (bOr set_ p)
def g71 (b:HarnessBook) (l:(List Int)):Option (List Int):=(eachS g71_2 l 0 0).bind fun set_=>(g74 set_ (b.Needs.length:Int)).bind fun r0_1=>some r0_1
theorem k71 (b:HarnessBook) (l:(List Int)) (r:(List Int)) (h:g71 b l=some r):SCall Tryd.prog Gs 71 [.agg (cv29 b),.d (q1 l)] [] 0 Fr.emp (.d (q1 r)) [] 0 Fr.emp:=by
 unfold g71 at h
 refine SCall.mkK Tryd.func71 c71 rfl rfl (by kernel_rfl) (fun Q_0 hR_0 hN_0=>?_)
 refine Sa (sT [(1,.d (q1 l)),pR 2 0] [(0,.var 29 (cv29 b))] 1 0) ?_
 refine Sa (sT [(1,.d (q1 l)),pR 2 0,(5,jI 0)] [(0,.var 29 (cv29 b))] 1 0) ?_
 refine AW.seqK (fun K_1 hK_1=>?_)
 refine Sa (sT [(1,.d (q1 l)),pR 2 0,(5,jI 0),(6,jI 0)] [(0,.var 29 (cv29 b))] 1 0) ?_
 refine AW.block ?_
 refine AW.sln (t:=1) rfl (fun hN_2=>?_)
 rw [List.length_map] at hN_2
 obtain ⟨out_2,hx_2,h⟩:=bsome h
 refine AW.evSK (fun (i:Int) (set_:Int)=>(sT [(1,.d (q1 l)),pR 2 0,(5,jI set_),(6,jI i)] [(0,.var 29 (cv29 b))] 1 0)) g71_2 hx_2 (Can.kp (by kernel_rfl)) (fun i p set_ hi_2 hl_2 hp_2 c_2 h K_2 hK_2=>?_) (fun i set_ hi_2 hl_2 hout=>?_)
 ·unfold g71_2 at h
  refine AW.seqK fun K_3 hK_3=>AW.srwK fun Q_4 hQ_4=>?_
  refine Au 2 (sT [(1,.d (q1 l)),pR 2 0,(5,jI set_),(6,jI i),(7,jI i),(8,.d (q1 l))] [(0,.var 29 (cv29 b))] 1 0) ?_
  refine rL rfl ?_
  refine Au 1 (sT [(1,.d (q1 l)),pR 2 0,(5,jI set_),(6,jI i),(10,.d (.bool (decide (i<(l.length:Int)))))] [(0,.var 29 (cv29 b))] 1 0) ?_
  refine RW.nil (hQ_4 _ ?_)
  refine AW.cond rfl (fun hb_5=>?_) (fun hb_5=>False.elim (by have:=of_decide_eq_false hb_5;omega))
  refine AW.skip (hK_3 _ ?_)
  refine AW.seqK (fun K_6 hK_6=>?_)
  refine AW.block ?_
  refine AW.rw ?_
  refine Au 3 (sT [(1,.d (q1 l)),pR 2 0,(6,jI i),(13,jI set_),(14,.d (q1 l)),(15,jI i)] [(0,.var 29 (cv29 b))] 1 0) ?_
  refine RW.one fokW (r_iaD trivial rfl rfl hi_2 (row:=e3 p) (mapget hp_2) (r_end ?_))
  refine Au 3 (sT [(1,.d (q1 l)),pR 2 0,(5,jI (bOr set_ p)),(6,jI i)] [(0,.var 29 (cv29 b))] 1 0) ?_
  refine RW.nil ?_
  refine hK_6 _ ?_
  refine Ra (sT [(1,.d (q1 l)),pR 2 0,(5,jI (bOr set_ p)),(6,jI (wr (i+1)))] [(0,.var 29 (cv29 b))] 1 0) ?_
  obtain rfl:=Option.some.inj h
  have ew:wr (i+1)=i+1:=inext (N:=(l.length:Int)) (by omega) (by omega) (by omega)
  rw [ew]
  exact hK_2 _ (Can.kp (by kernel_rfl))
 ·subst hout
  refine AW.seqK fun K_8 hK_8=>AW.srwK fun Q_9 hQ_9=>?_
  refine Au 2 (sT [(1,.d (q1 l)),pR 2 0,(5,jI set_),(6,jI i),(7,jI i),(8,.d (q1 l))] [(0,.var 29 (cv29 b))] 1 0) ?_
  refine rL rfl ?_
  refine Au 1 (sT [(1,.d (q1 l)),pR 2 0,(5,jI set_),(6,jI i),(10,.d (.bool (decide (i<(l.length:Int)))))] [(0,.var 29 (cv29 b))] 1 0) ?_
  refine RW.nil (hQ_9 _ ?_)
  refine AW.cond rfl (fun hb_10=>False.elim (by have:=of_decide_eq_true hb_10;omega)) (fun hb_10=>?_)
  refine AW.exit ?_
  refine hK_1 _ ?_
  refine AW.srwK (fun Q_11 hQ_11=>?_)
  refine Au 3 (sT [(19,jI set_),(21,.d (.sl 1 (List.map e30 b.Needs)))] [] 1 0) ?_
  refine rL rfl ?_
  obtain ⟨r0_1,hx_12,h⟩:=bsome h
  refine rC (k74 set_ (b.Needs.length:Int) _ hx_12) ?_
  refine Au 1 (sT [(4,.d (q1 r0_1))] [] 1 0) ?_
  refine RW.nil (hQ_11 _ ?_)
  obtain rfl:=Option.some.inj h
  exact rT hR_0 (.cons (.tmp rfl) .nil)
end Go.Proofs.Tr
namespace Go.Proofs.Tr
open Go Go.Abs Go.Proofs
def g86 (b:HarnessBook) (hair:(List Int)):Option Int:=(g66 b).bind fun r0=>(g64 b hair r0).bind fun r0_1=>(g71 b r0_1).bind fun r0_2=>(g63 b r0_1).bind fun r0_3=>some (wr ((r0_2.length:Int) - (r0_3.length:Int)))
theorem k86 (b:HarnessBook) (hair:(List Int)) (r:Int) (h:g86 b hair=some r):SCall Tryd.prog Gs 86 [.agg (cv29 b),.d (q1 hair)] [] 0 Fr.emp (jI r) [] 0 Fr.emp:=by
 unfold g86 at h
 refine SCall.mkK Tryd.func86 c86 rfl rfl (by kernel_rfl) (fun Q_0 hR_0 hN_0=>?_)
 refine Sa (sT [(1,.d (q1 hair)),pR 2 0] [(0,.var 29 (cv29 b))] 1 0) ?_
 refine AW.sdrwK fokW (fun Q_1 hQ_1=>?_)
 refine aX 3 (sT [pR 2 0,(6,.agg (cv29 b)),(7,.d (q1 hair)),(8,.agg (cv29 b))] [(0,.var 29 (cv29 b))] 1 0) ?_
 obtain ⟨r0,hx_2,h⟩:=bsome h
 refine r_call trivial rfl (k66 b _ hx_2) rfl rfl ?_
 obtain ⟨r0_1,hx_3,h⟩:=bsome h
 refine r_call trivial rfl (k64 b hair r0 _ hx_3) rfl rfl ?_
 refine aX 1 (sT [pR 2 0,(5,.d (q1 r0_1))] [(0,.var 29 (cv29 b))] 1 0) ?_
 refine Fi (sT [pR 2 0,(5,.d (q1 r0_1))] [(0,.var 29 (cv29 b))] 1 0) ?_
 refine hQ_1 _ ?_
 refine AW.sdrwK fokW (fun Q_4 hQ_4=>?_)
 refine aX 2 (sT [pR 2 0,(5,.d (q1 r0_1)),(11,.agg (cv29 b)),(12,.d (q1 r0_1))] [(0,.var 29 (cv29 b))] 1 0) ?_
 obtain ⟨r0_2,hx_5,h⟩:=bsome h
 refine r_call trivial rfl (k71 b r0_1 _ hx_5) rfl rfl ?_
 refine r_lenX trivial rfl lenm ?_
 refine aX 2 (sT [(14,jI (r0_2.length:Int)),(15,.agg (cv29 b)),(16,.d (q1 r0_1))] [(0,.var 29 (cv29 b))] 1 0) ?_
 obtain ⟨r0_3,hx_6,h⟩:=bsome h
 refine r_call trivial rfl (k63 b r0_1 _ hx_6) rfl rfl ?_
 refine r_lenX trivial rfl lenm ?_
 refine aX 2 (sT [(4,jI (wr ((r0_2.length:Int) - (r0_3.length:Int))))] [(0,.var 29 (cv29 b))] 1 0) ?_
 refine Fi (sT [(4,jI (wr ((r0_2.length:Int) - (r0_3.length:Int))))] [] 1 0) ?_
 refine hQ_4 _ ?_
 obtain rfl:=Option.some.inj h
 exact rT hR_0 (.cons (.tmp rfl) .nil)
def g87 (b:HarnessBook) (kind:Int) (n:Int):Option HarnessBook:=(appL 16 ([]:List Span) b.Stock).bind fun l=>(g56 n).bind fun r0=>(ixL l kind).bind fun p=>some (HarnessBook.mk b.Hair b.Needs (setL l kind r0) b.Pack b.Bad)
theorem k87 (b:HarnessBook) (kind:Int) (n:Int) (r:HarnessBook) (h:g87 b kind n=some r):SCall Tryd.prog Gs 87 [.agg (cv29 b),jI kind,jI n] [] 0 Fr.emp (.agg (cv29 r)) [] 0 Fr.emp:=by
 unfold g87 at h
 refine SCall.mkK Tryd.func87 c87 rfl rfl (by kernel_rfl) (fun Q_0 hR_0 hN_0=>?_)
 refine Sa (sT [(1,jI kind),(2,jI n),pR 3 0,pR 6 1] [(1,.var 29 [.d (.nilSl),.d (.nilSl),jI 0,jI 0,jI 0,.d (.nilSl),.d (.nilSl),jI 0,jI 0]),(0,.var 29 (cv29 b))] 2 0) ?_
 refine Sa (sT [(1,jI kind),(2,jI n),pR 3 0,pR 6 1,pR 7 2] [(2,.var 29 (cv29 b)),(1,.var 29 [.d (.nilSl),.d (.nilSl),jI 0,jI 0,jI 0,.d (.nilSl),.d (.nilSl),jI 0,jI 0]),(0,.var 29 (cv29 b))] 3 0) ?_
 refine AW.srwK (fun Q_1 hQ_1=>?_)
 refine Au 3 (sT [(1,jI kind),(2,jI n),pR 6 1,pR 7 2,(9,.own 3 (List.map e37 []).length),(11,.d (.sl 2 (List.map e37 b.Stock)))] [(3,.row 37 2 (List.map e37 [])),(2,.var 29 (cv29 b)),(1,.var 29 [.d (.nilSl),.d (.nilSl),jI 0,jI 0,jI 0,.d (.nilSl),.d (.nilSl),jI 0,jI 0])] 4 0) ?_
 obtain ⟨l,hv_2,h⟩:=bsome h
 refine RW.one fokW (r_apD trivial rfl rfl rfl rfl (apz hv_2 e37) (apr hv_2 e37) (r_end ?_))
 refine Au 2 (sT [(1,jI kind),(2,jI n),pR 6 1,pR 7 2] [(2,.var 29 (catV (cv25 b.Hair) [.d (.sl 1 (List.map e30 b.Needs)),.own 3 (List.map e37 l).length,jI b.Pack,jI b.Bad])),(3,.row 37 2 (List.map e37 l)),(1,.var 29 [.d (.nilSl),.d (.nilSl),jI 0,jI 0,jI 0,.d (.nilSl),.d (.nilSl),jI 0,jI 0])] 4 0) ?_
 refine RW.nil (hQ_1 _ ?_)
 refine AW.sdrwK fokW (fun Q_3 hQ_3=>?_)
 refine aX 4 (sT [pR 6 1,pR 7 2,(15,.own 3 (List.map e37 l).length),(16,jI kind),(17,jI n)] [(2,.var 29 (catV (cv25 b.Hair) [.d (.sl 1 (List.map e30 b.Needs)),.own 3 (List.map e37 l).length,jI b.Pack,jI b.Bad])),(3,.row 37 2 (List.map e37 l)),(1,.var 29 [.d (.nilSl),.d (.nilSl),jI 0,jI 0,jI 0,.d (.nilSl),.d (.nilSl),jI 0,jI 0])] 4 0) ?_
 obtain ⟨r0,hx_4,h⟩:=bsome h
 refine r_call trivial rfl (k56 n _ hx_4) rfl rfl ?_
 obtain ⟨p,hv_5,h⟩:=bsome h
 refine r_iaO trivial rfl rfl rfl (ixL_ok hv_5).1 (ix_lt (ixL_ok hv_5).2) rfl ?_
 refine r_stE trivial rfl rfl rfl rfl (mapget (f:=e37) (ixL_ok hv_5).2) rfl rfl rfl (Nat.le_of_ble_eq_true rfl) (stz (f:=e37) (x:=r0) rfl) ?_
 rw [lenset (f:=e37) (xs:=l) (i:=kind) (x:=r0)]
 refine Fi (sT [pR 6 1,pR 7 2] [(3,.row 37 2 (List.map e37 (setL l kind r0))),(2,.var 29 (catV (cv25 b.Hair) [.d (.sl 1 (List.map e30 b.Needs)),.own 3 (List.map e37 (setL l kind r0)).length,jI b.Pack,jI b.Bad])),(1,.var 29 [.d (.nilSl),.d (.nilSl),jI 0,jI 0,jI 0,.d (.nilSl),.d (.nilSl),jI 0,jI 0])] 4 0) ?_
 refine hQ_3 _ ?_
 refine Sa (sT [pR 6 1] [(1,.var 29 (catV (cv25 b.Hair) [.d (.sl 1 (List.map e30 b.Needs)),.own 3 (List.map e37 (setL l kind r0)).length,jI b.Pack,jI b.Bad])),(3,.row 37 2 (List.map e37 (setL l kind r0)))] 4 0) ?_
 obtain rfl:=Option.some.inj h
 exact AW.ret (hR_0 _ (retX (.cons (.agg rfl rfl (Nat.le_of_ble_eq_true rfl)) .nil) (Frz.agg_of ⟨.refl _,.refl _,.refl _,.refl _,.refl _,.refl _,(.own rfl rfl),.refl _,.refl _,trivial⟩) rfl (by kernel_rfl) (by kernel_rfl)))
def g32_19 (b:HarnessBook) (r0:(List Int)) (k:Int):Int→Int→Option Int:=fun n worst=>(g87 b k n).bind fun r0_1=>(g86 r0_1 r0).bind fun r0_4_1=>some (max worst r0_4_1)
def g32_12 (b:HarnessBook) (r0:(List Int)):Int→Span→(Int×Int)→Option (Int×Int):=fun k p (best,least)=>(must (decide ((p.High+1)≤9223372036854775807))).bind fun _=>(must (decide (-9223372036854775808≤p.Low))).bind fun _=>(forS (g32_19 b r0 k) ((((p.High+1):Int) - p.Low).toNat) p.Low 0).bind fun worst=>bif ((decide (best<0))||(decide (worst<least))) then (some (k,worst)) else (some (best,least))
def g32 (b:HarnessBook):Option (Int×Int):=(g19 b).bind fun r0_6=>bif (decide (r0_6≠0)) then (some (0,r0_6)) else ((g65 b).bind fun r0=>(g86 b r0).bind fun r0_4=>bif (decide (r0_4=0)) then (some (0,4)) else ((eachS (g32_12 b r0) b.Stock 0 ((-1),0)).bind fun (best,least)=>some (best,0)))
theorem k32 (b:HarnessBook) (r:Int×Int) (h:g32 b=some r):SCall Tryd.prog Gs 32 [.agg (cv29 b)] [] 0 Fr.emp (match r with | (r0_5,r1_2)=>.tup [jI r0_5,jI r1_2]) [] 0 Fr.emp:=by
 unfold g32 at h
 refine SCall.mkK Tryd.func32 c32 rfl rfl (by kernel_rfl) (fun Q_0 hR_0 hN_0=>?_)
 refine Sa (sT [pR 1 0] [(0,.var 29 (cv29 b))] 1 0) ?_
 refine AW.seqK fun K_1 hK_1=>AW.srwK fun Q_2 hQ_2=>?_
 refine Au 1 (sT [pR 1 0,(11,.agg (cv29 b))] [(0,.var 29 (cv29 b))] 1 0) ?_
 obtain ⟨r0_6,hx_3,h⟩:=bsome h
 refine rC (k19 b _ hx_3) ?_
 refine Au 1 (sT [pR 1 0,(4,jI r0_6)] [(0,.var 29 (cv29 b))] 1 0) ?_
 refine RW.nil (hQ_2 _ ?_)
 refine Sa (sT [pR 1 0,(4,jI r0_6),(14,.d (.bool (decide (r0_6≠0))))] [(0,.var 29 (cv29 b))] 1 0) ?_
 refine AW.cond rfl (fun hb_4=>?_) (fun hb_4=>?_)
 ·have h:=ifT hb_4 h
  refine Sa (sT [(2,jI 0),(3,jI r0_6)] [] 1 0) ?_
  obtain rfl:=Option.some.inj h
  exact rT hR_0 (.cons (.tmp rfl) (.cons (.tmp rfl) .nil))
 ·have h:=ifF hb_4 h
  refine AW.skip (hK_1 _ ?_)
  refine AW.srwK (fun Q_5 hQ_5=>?_)
  refine Au 1 (sT [pR 1 0,(16,.agg (cv29 b))] [(0,.var 29 (cv29 b))] 1 0) ?_
  obtain ⟨r0,hx_6,h⟩:=bsome h
  refine rC (k65 b _ hx_6) ?_
  refine Au 1 (sT [pR 1 0,(5,.d (q1 r0))] [(0,.var 29 (cv29 b))] 1 0) ?_
  refine RW.nil (hQ_5 _ ?_)
  refine AW.seqK fun K_7 hK_7=>AW.srwK fun Q_8 hQ_8=>?_
  refine Au 2 (sT [pR 1 0,(5,.d (q1 r0)),(18,.agg (cv29 b)),(19,.d (q1 r0))] [(0,.var 29 (cv29 b))] 1 0) ?_
  obtain ⟨r0_4,hx_9,h⟩:=bsome h
  refine rC (k86 b r0 _ hx_9) ?_
  refine Au 1 (sT [pR 1 0,(5,.d (q1 r0)),(21,.d (.bool (decide (r0_4=0))))] [(0,.var 29 (cv29 b))] 1 0) ?_
  refine RW.nil (hQ_8 _ ?_)
  refine AW.cond rfl (fun hb_10=>?_) (fun hb_10=>?_)
  ·have h:=ifT hb_10 h
   refine Sa (sT [(2,jI 0),(3,jI 4)] [] 1 0) ?_
   obtain rfl:=Option.some.inj h
   exact rT hR_0 (.cons (.tmp rfl) (.cons (.tmp rfl) .nil))
  ·have h:=ifF hb_10 h
   refine AW.skip (hK_7 _ ?_)
   refine Sa (sT [pR 1 0,(5,.d (q1 r0)),(6,jI (-1)),(7,jI 0)] [(0,.var 29 (cv29 b))] 1 0) ?_
   refine AW.seqK (fun K_11 hK_11=>?_)
   refine Sa (sT [pR 1 0,(5,.d (q1 r0)),(6,jI (-1)),(7,jI 0),(8,jI 0)] [(0,.var 29 (cv29 b))] 1 0) ?_
   refine AW.block ?_
   refine AW.slh (r:=0) (off:=6) rfl rfl (fun hN_12=>?_)
   rw [List.length_map] at hN_12
   obtain ⟨out_12,hx_12,h⟩:=bsome h
   refine AW.evSK (fun (k:Int) (⟨best,least⟩:Int×Int)=>(sT [pR 1 0,(5,.d (q1 r0)),(6,jI best),(7,jI least),(8,jI k)] [(0,.var 29 (cv29 b))] 1 0)) (g32_12 b r0) hx_12 (Can.kp (by kernel_rfl)) (fun k p s_12 hi_12 hl_12 hp_12 c_12 h K_12 hK_12=>?_) (fun k s_12 hi_12 hl_12 hout=>?_)
   ·obtain ⟨best,least⟩:=s_12
    unfold g32_12 at h
    refine AW.seqK fun K_13 hK_13=>AW.srwK fun Q_14 hQ_14=>?_
    refine Au 3 (sT [pR 1 0,(5,.d (q1 r0)),(6,jI best),(7,jI least),(8,jI k),(22,jI k),(24,.d (.sl 2 (List.map e37 b.Stock)))] [(0,.var 29 (cv29 b))] 1 0) ?_
    refine rL rfl ?_
    refine Au 1 (sT [pR 1 0,(5,.d (q1 r0)),(6,jI best),(7,jI least),(8,jI k),(26,.d (.bool (decide (k<(b.Stock.length:Int)))))] [(0,.var 29 (cv29 b))] 1 0) ?_
    refine RW.nil (hQ_14 _ ?_)
    refine AW.cond rfl (fun hb_15=>?_) (fun hb_15=>False.elim (by have:=of_decide_eq_false hb_15;omega))
    refine AW.skip (hK_13 _ ?_)
    refine AW.seqK (fun K_16 hK_16=>?_)
    refine AW.block ?_
    refine Sa (sT [pR 1 0,(5,.d (q1 r0)),(6,jI best),(7,jI least),(8,jI k),(9,jI 0)] [(0,.var 29 (cv29 b))] 1 0) ?_
    refine AW.seqK fun K_17 hK_17=>AW.srwK fun Q_18 hQ_18=>?_
    refine Au 3 (sT [pR 1 0,(5,.d (q1 r0)),(6,jI best),(7,jI least),(8,jI k),(9,jI 0),(30,.d (.sl 2 (List.map e37 b.Stock))),(31,jI k)] [(0,.var 29 (cv29 b))] 1 0) ?_
    refine RW.one fokW (r_iaD trivial rfl rfl hi_12 (row:=e37 p) (mapget hp_12) (r_end ?_))
    refine Au 3 (sT [pR 1 0,(5,.d (q1 r0)),(6,jI best),(7,jI least),(8,jI k),(9,jI 0),(10,jI p.Low)] [(0,.var 29 (cv29 b))] 1 0) ?_
    refine RW.nil (hQ_18 _ ?_)
    refine AW.block ?_
    obtain ⟨_,hN_19,h⟩:=bsome h
    have hN_19:=of_decide_eq_true (must_ok hN_19)
    obtain ⟨_,h0_19,h⟩:=bsome h
    have h0_19:=of_decide_eq_true (must_ok h0_19)
    obtain ⟨out_19,hx_19,h⟩:=bsome h
    refine AW.lpSK (fun (n:Int) (worst:Int)=>(sT [pR 1 0,(5,.d (q1 r0)),(6,jI best),(7,jI least),(8,jI k),(9,jI worst),(10,jI n)] [(0,.var 29 (cv29 b))] 1 0)) (g32_19 b r0 k) ((p.High+1)) hx_19 (Can.kp (by kernel_rfl)) (fun n worst hi_19 hl_19 c_19 h K_19 hK_19=>?_) (fun n worst hi_19 hl_19 hout=>?_)
    ·unfold g32_19 at h
     refine AW.seqK fun K_20 hK_20=>AW.srwK fun Q_21 hQ_21=>?_
     refine Au 4 (sT [pR 1 0,(5,.d (q1 r0)),(6,jI best),(7,jI least),(8,jI k),(9,jI worst),(10,jI n),(35,jI n),(37,.d (.sl 2 (List.map e37 b.Stock))),(38,jI k)] [(0,.var 29 (cv29 b))] 1 0) ?_
     refine RW.one fokW (r_iaD trivial rfl rfl hi_12 (row:=e37 p) (mapget hp_12) (r_end ?_))
     refine Au 3 (sT [pR 1 0,(5,.d (q1 r0)),(6,jI best),(7,jI least),(8,jI k),(9,jI worst),(10,jI n),(42,.d (.bool (decide (n≤p.High))))] [(0,.var 29 (cv29 b))] 1 0) ?_
     refine RW.nil (hQ_21 _ ?_)
     refine AW.cond rfl (fun hb_22=>?_) (fun hb_22=>False.elim (by have:=of_decide_eq_false hb_22;omega))
     refine AW.skip (hK_20 _ ?_)
     refine AW.seqK (fun K_23 hK_23=>?_)
     refine AW.block ?_
     refine AW.rw ?_
     refine Au 4 (sT [pR 1 0,(5,.d (q1 r0)),(6,jI best),(7,jI least),(8,jI k),(10,jI n),(45,jI worst),(46,.agg (cv29 b)),(47,jI k),(48,jI n)] [(0,.var 29 (cv29 b))] 1 0) ?_
     obtain ⟨r0_1,hx_25,h⟩:=bsome h
     refine rC (k87 b k n _ hx_25) ?_
     refine Au 1 (sT [pR 1 0,(5,.d (q1 r0)),(6,jI best),(7,jI least),(8,jI k),(10,jI n),(45,jI worst),(49,.agg (cv29 r0_1)),(50,.d (q1 r0))] [(0,.var 29 (cv29 b))] 1 0) ?_
     obtain ⟨r0_4_1,hx_26,h⟩:=bsome h
     refine rC (k86 r0_1 r0 _ hx_26) ?_
     refine Au 2 (sT [pR 1 0,(5,.d (q1 r0)),(6,jI best),(7,jI least),(8,jI k),(9,jI (max worst r0_4_1)),(10,jI n)] [(0,.var 29 (cv29 b))] 1 0) ?_
     refine RW.nil ?_
     refine hK_23 _ ?_
     refine Ra (sT [pR 1 0,(5,.d (q1 r0)),(6,jI best),(7,jI least),(8,jI k),(9,jI (max worst r0_4_1)),(10,jI (wr (n+1)))] [(0,.var 29 (cv29 b))] 1 0) ?_
     obtain rfl:=Option.some.inj h
     have ew:wr (n+1)=n+1:=inext (N:=(p.High+1)) (by omega) (by omega) (by omega)
     rw [ew]
     exact hK_19 _ (Can.kp (by kernel_rfl))
    ·subst hout
     refine AW.seqK fun K_27 hK_27=>AW.srwK fun Q_28 hQ_28=>?_
     refine Au 4 (sT [pR 1 0,(5,.d (q1 r0)),(6,jI best),(7,jI least),(8,jI k),(9,jI worst),(10,jI n),(35,jI n),(37,.d (.sl 2 (List.map e37 b.Stock))),(38,jI k)] [(0,.var 29 (cv29 b))] 1 0) ?_
     refine RW.one fokW (r_iaD trivial rfl rfl hi_12 (row:=e37 p) (mapget hp_12) (r_end ?_))
     refine Au 3 (sT [pR 1 0,(5,.d (q1 r0)),(6,jI best),(7,jI least),(8,jI k),(9,jI worst),(10,jI n),(42,.d (.bool (decide (n≤p.High))))] [(0,.var 29 (cv29 b))] 1 0) ?_
     refine RW.nil (hQ_28 _ ?_)
     refine AW.cond rfl (fun hb_29=>False.elim (by have:=of_decide_eq_true hb_29;omega)) (fun hb_29=>?_)
     refine AW.exit ?_
     refine hK_17 _ ?_
     refine AW.sa fokW [55] (sT [pR 1 0,(5,.d (q1 r0)),(6,jI best),(7,jI least),(8,jI k),(9,jI worst),(59,.d (.bool ((decide (best<0))||(decide (worst<least)))))] [(0,.var 29 (cv29 b))] 1 0) (by kernel_rfl) ?_
     refine AW.cond rfl (fun hb_30=>?_) (fun hb_30=>?_)
     ·have h:=ifT hb_30 h
      refine Ra (sT [pR 1 0,(5,.d (q1 r0)),(6,jI k),(7,jI worst),(8,jI k)] [(0,.var 29 (cv29 b))] 1 0) ?_
      refine hK_16 _ ?_
      refine Ra (sT [pR 1 0,(5,.d (q1 r0)),(6,jI k),(7,jI worst),(8,jI (wr (k+1)))] [(0,.var 29 (cv29 b))] 1 0) ?_
      obtain rfl:=Option.some.inj h
      have ew:wr (k+1)=k+1:=inext (N:=(b.Stock.length:Int)) (by omega) (by omega) (by omega)
      rw [ew]
      exact hK_12 _ (Can.kp (by kernel_rfl))
     ·have h:=ifF hb_30 h
      refine AW.skip (hK_16 _ ?_)
      refine Ra (sT [pR 1 0,(5,.d (q1 r0)),(6,jI best),(7,jI least),(8,jI (wr (k+1)))] [(0,.var 29 (cv29 b))] 1 0) ?_
      obtain rfl:=Option.some.inj h
      have ew:wr (k+1)=k+1:=inext (N:=(b.Stock.length:Int)) (by omega) (by omega) (by omega)
      rw [ew]
      exact hK_12 _ (Can.kp (by kernel_rfl))
   ·obtain ⟨best,least⟩:=s_12
    subst hout
    refine AW.seqK fun K_31 hK_31=>AW.srwK fun Q_32 hQ_32=>?_
    refine Au 3 (sT [pR 1 0,(5,.d (q1 r0)),(6,jI best),(7,jI least),(8,jI k),(22,jI k),(24,.d (.sl 2 (List.map e37 b.Stock)))] [(0,.var 29 (cv29 b))] 1 0) ?_
    refine rL rfl ?_
    refine Au 1 (sT [pR 1 0,(5,.d (q1 r0)),(6,jI best),(7,jI least),(8,jI k),(26,.d (.bool (decide (k<(b.Stock.length:Int)))))] [(0,.var 29 (cv29 b))] 1 0) ?_
    refine RW.nil (hQ_32 _ ?_)
    refine AW.cond rfl (fun hb_33=>False.elim (by have:=of_decide_eq_true hb_33;omega)) (fun hb_33=>?_)
    refine AW.exit ?_
    refine hK_11 _ ?_
    refine Sa (sT [(2,jI best),(3,jI 0)] [] 1 0) ?_
    obtain rfl:=Option.some.inj h
    exact rT hR_0 (.cons (.tmp rfl) (.cons (.tmp rfl) .nil))
def g90_5 (rec_:HarnessBook→(List Int)→Option (List (List Int))) (b:HarnessBook) (some_:(List Int)):Int→(List Int)→(List (List Int))→Option (List (List Int)):=fun i p l=>(g41 some_ i).bind fun r0_1=>bif (decide (r0_1<0)) then ((g109 some_ i).bind fun r0=>(rec_ b r0).bind fun r0_4_1=>(appL 24 l r0_4_1).bind fun l1=>some l1) else (some l)
def g90:Nat→HarnessBook→(List Int)→Option (List (List Int))
 | 0,_,_=>none
 | n_+1,b,some_=>bif (decide ((some_.length:Int)=(b.Needs.length:Int))) then (some [some_]) else ((eachS (g90_5 (g90 n_) b some_) b.Needs 0 ([]:List (List Int))).bind fun l=>some l)
theorem k90:∀ (n_:Nat) (b:HarnessBook) (some_:(List Int)) (r:(List (List Int))) (h:g90 n_ b some_=some r),SCall Tryd.prog Gs 90 [.agg (cv29 b),.d (q1 some_)] [] 0 Fr.emp (.d (.sl 1 (List.map e30 r))) [] 0 Fr.emp:=by
 intro n_
 induction n_ with
 | zero=>intro b some_ r h;cases h
 | succ n_ ih=>
  intro b some_ r h
  rw [g90] at h
  refine SCall.mkK Tryd.func90 c90 rfl rfl (by kernel_rfl) (fun Q_0 hR_0 hN_0=>?_)
  refine Sa (sT [(1,.d (q1 some_)),pR 2 0] [(0,.var 29 (cv29 b))] 1 0) ?_
  refine AW.seqK fun K_1 hK_1=>AW.srwK fun Q_2 hQ_2=>?_
  refine Au 1 (sT [(1,.d (q1 some_)),pR 2 0,(7,.d (q1 some_))] [(0,.var 29 (cv29 b))] 1 0) ?_
  refine rL rfl ?_
  refine Au 2 (sT [(1,.d (q1 some_)),pR 2 0,(8,jI (some_.length:Int)),(10,.d (.sl 1 (List.map e30 b.Needs)))] [(0,.var 29 (cv29 b))] 1 0) ?_
  refine rL rfl ?_
  refine Au 1 (sT [(1,.d (q1 some_)),pR 2 0,(12,.d (.bool (decide ((some_.length:Int)=(b.Needs.length:Int)))))] [(0,.var 29 (cv29 b))] 1 0) ?_
  refine RW.nil (hQ_2 _ ?_)
  refine AW.cond rfl (fun hb_3=>?_) (fun hb_3=>?_)
  ·have h:=ifT hb_3 h
   refine Sa (sT [(4,.own 1 (List.map e30 [some_]).length)] [(1,.row 30 1 (List.map e30 [some_]))] 2 0) ?_
   obtain rfl:=Option.some.inj h
   exact AW.ret (hR_0 _ (retX (.cons (.tmp rfl) .nil) (.own rfl rfl) rfl (by kernel_rfl) (by kernel_rfl)))
  ·have h:=ifF hb_3 h
   refine AW.skip (hK_1 _ ?_)
   refine Sa (sT [(1,.d (q1 some_)),pR 2 0,(5,.d (.nilSl))] [(0,.var 29 (cv29 b))] 1 0) ?_
   refine AW.seqK (fun K_4 hK_4=>?_)
   refine Sa (sT [(1,.d (q1 some_)),pR 2 0,(5,.d (.nilSl)),(6,jI 0)] [(0,.var 29 (cv29 b))] 1 0) ?_
   refine AW.block ?_
   refine AW.slh (r:=0) (off:=5) rfl rfl (fun hN_5=>?_)
   rw [List.length_map] at hN_5
   obtain ⟨out_5,hx_5,h⟩:=bsome h
   refine AW.evSK (fun (i:Int) (l:List (List Int))=>(sT [(1,.d (q1 some_)),pR 2 0,(5,.own 1 (List.map e30 l).length),(6,jI i)] [(1,.row 30 1 (List.map e30 l)),(0,.var 29 (cv29 b))] 2 0)) (g90_5 (g90 n_) b some_) hx_5 (Can.trans (Can.thawT 5 30 1 rfl rfl) (Can.kp (by kernel_rfl))) (fun i p l hi_5 hl_5 hp_5 c_5 h K_5 hK_5=>?_) (fun i l hi_5 hl_5 hout=>?_)
   ·unfold g90_5 at h
    refine AW.seqK fun K_6 hK_6=>AW.srwK fun Q_7 hQ_7=>?_
    refine Au 3 (sT [(1,.d (q1 some_)),pR 2 0,(5,.own 1 (List.map e30 l).length),(6,jI i),(15,jI i),(17,.d (.sl 1 (List.map e30 b.Needs)))] [(1,.row 30 1 (List.map e30 l)),(0,.var 29 (cv29 b))] 2 0) ?_
    refine rL rfl ?_
    refine Au 1 (sT [(1,.d (q1 some_)),pR 2 0,(5,.own 1 (List.map e30 l).length),(6,jI i),(19,.d (.bool (decide (i<(b.Needs.length:Int)))))] [(1,.row 30 1 (List.map e30 l)),(0,.var 29 (cv29 b))] 2 0) ?_
    refine RW.nil (hQ_7 _ ?_)
    refine AW.cond rfl (fun hb_8=>?_) (fun hb_8=>False.elim (by have:=of_decide_eq_false hb_8;omega))
    refine AW.skip (hK_6 _ ?_)
    refine AW.seqK (fun K_9 hK_9=>?_)
    refine AW.block ?_
    refine AW.srwK (fun Q_10 hQ_10=>?_)
    refine Au 2 (sT [(1,.d (q1 some_)),pR 2 0,(5,.own 1 (List.map e30 l).length),(6,jI i),(22,.d (q1 some_)),(23,jI i)] [(1,.row 30 1 (List.map e30 l)),(0,.var 29 (cv29 b))] 2 0) ?_
    obtain ⟨r0_1,hx_11,h⟩:=bsome h
    refine rC (k41 some_ i _ hx_11) ?_
    refine Au 1 (sT [(1,.d (q1 some_)),pR 2 0,(5,.own 1 (List.map e30 l).length),(6,jI i),(25,.d (.bool (decide (r0_1<0))))] [(1,.row 30 1 (List.map e30 l)),(0,.var 29 (cv29 b))] 2 0) ?_
    refine RW.nil (hQ_10 _ ?_)
    refine AW.cond rfl (fun hb_12=>?_) (fun hb_12=>?_)
    ·have h:=ifT hb_12 h
     refine AW.drw fokW ?_
     refine aX 4 (sT [(1,.d (q1 some_)),pR 2 0,(6,jI i),(26,.own 1 (List.map e30 l).length),(27,.agg (cv29 b)),(28,.d (q1 some_)),(29,jI i)] [(1,.row 30 1 (List.map e30 l)),(0,.var 29 (cv29 b))] 2 0) ?_
     obtain ⟨r0,hx_14,h⟩:=bsome h
     refine r_call trivial rfl (k109 some_ i _ hx_14) rfl rfl ?_
     obtain ⟨r0_4_1,hx_15,h⟩:=bsome h
     refine r_call trivial rfl (ih b r0 _ hx_15) rfl rfl ?_
     obtain ⟨l1,hv_16,h⟩:=bsome h
     refine r_apD trivial rfl rfl rfl rfl (apz hv_16 e30) (apr hv_16 e30) ?_
     refine aX 1 (sT [(1,.d (q1 some_)),pR 2 0,(5,.own 1 (List.map e30 l1).length),(6,jI i)] [(1,.row 30 1 (List.map e30 l1)),(0,.var 29 (cv29 b))] 2 0) ?_
     refine Fi (sT [(1,.d (q1 some_)),pR 2 0,(5,.own 1 (List.map e30 l1).length),(6,jI i)] [(1,.row 30 1 (List.map e30 l1)),(0,.var 29 (cv29 b))] 2 0) ?_
     refine hK_9 _ ?_
     refine Ra (sT [(1,.d (q1 some_)),pR 2 0,(5,.own 1 (List.map e30 l1).length),(6,jI (wr (i+1)))] [(1,.row 30 1 (List.map e30 l1)),(0,.var 29 (cv29 b))] 2 0) ?_
     obtain rfl:=Option.some.inj h
     have ew:wr (i+1)=i+1:=inext (N:=(b.Needs.length:Int)) (by omega) (by omega) (by omega)
     rw [ew]
     exact hK_5 _ (Can.kp (by kernel_rfl))
    ·have h:=ifF hb_12 h
     refine AW.skip (hK_9 _ ?_)
     refine Ra (sT [(1,.d (q1 some_)),pR 2 0,(5,.own 1 (List.map e30 l).length),(6,jI (wr (i+1)))] [(1,.row 30 1 (List.map e30 l)),(0,.var 29 (cv29 b))] 2 0) ?_
     obtain rfl:=Option.some.inj h
     have ew:wr (i+1)=i+1:=inext (N:=(b.Needs.length:Int)) (by omega) (by omega) (by omega)
     rw [ew]
     exact hK_5 _ (Can.kp (by kernel_rfl))
   ·subst hout
    refine AW.seqK fun K_17 hK_17=>AW.srwK fun Q_18 hQ_18=>?_
    refine Au 3 (sT [(1,.d (q1 some_)),pR 2 0,(5,.own 1 (List.map e30 l).length),(6,jI i),(15,jI i),(17,.d (.sl 1 (List.map e30 b.Needs)))] [(1,.row 30 1 (List.map e30 l)),(0,.var 29 (cv29 b))] 2 0) ?_
    refine rL rfl ?_
    refine Au 1 (sT [(1,.d (q1 some_)),pR 2 0,(5,.own 1 (List.map e30 l).length),(6,jI i),(19,.d (.bool (decide (i<(b.Needs.length:Int)))))] [(1,.row 30 1 (List.map e30 l)),(0,.var 29 (cv29 b))] 2 0) ?_
    refine RW.nil (hQ_18 _ ?_)
    refine AW.cond rfl (fun hb_19=>False.elim (by have:=of_decide_eq_true hb_19;omega)) (fun hb_19=>?_)
    refine AW.exit ?_
    refine hK_4 _ ?_
    refine Sa (sT [(4,.own 1 (List.map e30 l).length)] [(1,.row 30 1 (List.map e30 l))] 2 0) ?_
    obtain rfl:=Option.some.inj h
    exact AW.ret (hR_0 _ (retX (.cons (.tmp rfl) .nil) (.own rfl rfl) rfl (by kernel_rfl) (by kernel_rfl)))
def g34_11 (b:HarnessBook) (r0:(List Int)):Int→(List Int)→((List Int)×Int)→Option ((List Int)×Int):=fun i1 p1 (best,most1)=>(g64 b r0 p1).bind fun r0_1=>(g63 b r0_1).bind fun r0_2=>bif (decide (most1<(r0_2.length:Int))) then (some (p1,(r0_2.length:Int))) else (some (best,most1))
def g34 (b:HarnessBook):Option ((List Int)×Int):=(g19 b).bind fun r0_6=>bif (decide (r0_6≠0)) then (some ([],r0_6)) else ((g65 b).bind fun r0=>(g90 1000 b ([]:(List Int))).bind fun r0_4=>(ixL r0_4 0).bind fun p=>(eachS (g34_11 b r0) r0_4 0 (p,(-1))).bind fun (best,most1)=>some (best,0))
theorem k34 (b:HarnessBook) (r:(List Int)×Int) (h:g34 b=some r):SCall Tryd.prog Gs 34 [.agg (cv29 b)] [] 0 Fr.emp (match r with | (r0_5,r1_1)=>.tup [.d (q1 r0_5),jI r1_1]) [] 0 Fr.emp:=by
 unfold g34 at h
 refine SCall.mkK Tryd.func34 c34 rfl rfl (by kernel_rfl) (fun Q_0 hR_0 hN_0=>?_)
 refine Sa (sT [pR 1 0] [(0,.var 29 (cv29 b))] 1 0) ?_
 refine AW.seqK fun K_1 hK_1=>AW.srwK fun Q_2 hQ_2=>?_
 refine Au 1 (sT [pR 1 0,(11,.agg (cv29 b))] [(0,.var 29 (cv29 b))] 1 0) ?_
 obtain ⟨r0_6,hx_3,h⟩:=bsome h
 refine rC (k19 b _ hx_3) ?_
 refine Au 1 (sT [pR 1 0,(4,jI r0_6)] [(0,.var 29 (cv29 b))] 1 0) ?_
 refine RW.nil (hQ_2 _ ?_)
 refine Sa (sT [pR 1 0,(4,jI r0_6),(14,.d (.bool (decide (r0_6≠0))))] [(0,.var 29 (cv29 b))] 1 0) ?_
 refine AW.cond rfl (fun hb_4=>?_) (fun hb_4=>?_)
 ·have h:=ifT hb_4 h
  refine Sa (sT [(2,.d (.nilSl)),(3,jI r0_6)] [] 1 0) ?_
  obtain rfl:=Option.some.inj h
  exact AW.ret (hR_0 _ (retX (.cons (.tmp rfl) (.cons (.tmp rfl) .nil)) (Frz.tup_of ⟨.nil 1,.refl _,trivial⟩) rfl (by kernel_rfl) (by kernel_rfl)))
 ·have h:=ifF hb_4 h
  refine AW.skip (hK_1 _ ?_)
  refine AW.sdrwK fokW (fun Q_5 hQ_5=>?_)
  refine aX 1 (sT [pR 1 0,(16,.agg (cv29 b))] [(0,.var 29 (cv29 b))] 1 0) ?_
  obtain ⟨r0,hx_6,h⟩:=bsome h
  refine r_call trivial rfl (k65 b _ hx_6) rfl rfl ?_
  refine aX 1 (sT [pR 1 0,(17,.d (q1 r0)),(18,.agg (cv29 b))] [(0,.var 29 (cv29 b))] 1 0) ?_
  obtain ⟨r0_4,hx_7,h⟩:=bsome h
  refine r_callZ (zr:=[]) trivial rfl (k90 1000 b ([]:(List Int)) _ hx_7) trivial ⟨.refl _,(.nil 1),trivial⟩ rfl rfl rfl rfl ?_
  refine aX 2 (sT [pR 1 0,(5,.d (q1 r0)),(6,.d (.sl 1 (List.map e30 r0_4)))] [(0,.var 29 (cv29 b))] 1 0) ?_
  refine Fi (sT [pR 1 0,(5,.d (q1 r0)),(6,.d (.sl 1 (List.map e30 r0_4)))] [(0,.var 29 (cv29 b))] 1 0) ?_
  refine hQ_5 _ ?_
  refine AW.srwK (fun Q_8 hQ_8=>?_)
  refine Au 1 (sT [pR 1 0,(5,.d (q1 r0)),(6,.d (.sl 1 (List.map e30 r0_4))),(20,.d (.sl 1 (List.map e30 r0_4)))] [(0,.var 29 (cv29 b))] 1 0) ?_
  obtain ⟨p,hv_9,h⟩:=bsome h
  refine RW.one fokW (r_iaD trivial rfl rfl (ixL_ok hv_9).1 (row:=e30 p) (mapget (ixL_ok hv_9).2) (r_end ?_))
  refine Au 3 (sT [pR 1 0,(5,.d (q1 r0)),(6,.d (.sl 1 (List.map e30 r0_4))),(7,.d (q1 p)),(8,jI (-1))] [(0,.var 29 (cv29 b))] 1 0) ?_
  refine RW.nil (hQ_8 _ ?_)
  refine AW.seqK (fun K_10 hK_10=>?_)
  refine Sa (sT [pR 1 0,(5,.d (q1 r0)),(6,.d (.sl 1 (List.map e30 r0_4))),(7,.d (q1 p)),(8,jI (-1)),(9,jI 0)] [(0,.var 29 (cv29 b))] 1 0) ?_
  refine AW.block ?_
  refine AW.sln (t:=6) rfl (fun hN_11=>?_)
  rw [List.length_map] at hN_11
  obtain ⟨out_11,hx_11,h⟩:=bsome h
  refine AW.evSK (fun (i1:Int) (⟨best,most1⟩:(List Int)×Int)=>(sT [pR 1 0,(5,.d (q1 r0)),(6,.d (.sl 1 (List.map e30 r0_4))),(7,.d (q1 best)),(8,jI most1),(9,jI i1)] [(0,.var 29 (cv29 b))] 1 0)) (g34_11 b r0) hx_11 (Can.kp (by kernel_rfl)) (fun i1 p1 s_11 hi_11 hl_11 hp_11 c_11 h K_11 hK_11=>?_) (fun i1 s_11 hi_11 hl_11 hout=>?_)
  ·obtain ⟨best,most1⟩:=s_11
   unfold g34_11 at h
   refine AW.seqK fun K_12 hK_12=>AW.srwK fun Q_13 hQ_13=>?_
   refine Au 2 (sT [pR 1 0,(5,.d (q1 r0)),(6,.d (.sl 1 (List.map e30 r0_4))),(7,.d (q1 best)),(8,jI most1),(9,jI i1),(23,jI i1),(24,.d (.sl 1 (List.map e30 r0_4)))] [(0,.var 29 (cv29 b))] 1 0) ?_
   refine rL rfl ?_
   refine Au 1 (sT [pR 1 0,(5,.d (q1 r0)),(6,.d (.sl 1 (List.map e30 r0_4))),(7,.d (q1 best)),(8,jI most1),(9,jI i1),(26,.d (.bool (decide (i1<(r0_4.length:Int)))))] [(0,.var 29 (cv29 b))] 1 0) ?_
   refine RW.nil (hQ_13 _ ?_)
   refine AW.cond rfl (fun hb_14=>?_) (fun hb_14=>False.elim (by have:=of_decide_eq_false hb_14;omega))
   refine AW.skip (hK_12 _ ?_)
   refine AW.seqK (fun K_15 hK_15=>?_)
   refine AW.block ?_
   refine AW.sdrwK fokW (fun Q_16 hQ_16=>?_)
   refine aX 5 (sT [pR 1 0,(5,.d (q1 r0)),(6,.d (.sl 1 (List.map e30 r0_4))),(7,.d (q1 best)),(8,jI most1),(9,jI i1),(29,.agg (cv29 b)),(30,.agg (cv29 b)),(31,.d (q1 r0)),(32,.d (.sl 1 (List.map e30 r0_4))),(33,jI i1)] [(0,.var 29 (cv29 b))] 1 0) ?_
   refine r_iaD trivial rfl rfl hi_11 (row:=e30 p1) (mapget hp_11) ?_
   refine aX 1 (sT [pR 1 0,(5,.d (q1 r0)),(6,.d (.sl 1 (List.map e30 r0_4))),(7,.d (q1 best)),(8,jI most1),(9,jI i1),(29,.agg (cv29 b)),(30,.agg (cv29 b)),(31,.d (q1 r0)),(35,.d (q1 p1))] [(0,.var 29 (cv29 b))] 1 0) ?_
   obtain ⟨r0_1,hx_17,h⟩:=bsome h
   refine r_call trivial rfl (k64 b r0 p1 _ hx_17) rfl rfl ?_
   obtain ⟨r0_2,hx_18,h⟩:=bsome h
   refine r_call trivial rfl (k63 b r0_1 _ hx_18) rfl rfl ?_
   refine r_lenX trivial rfl lenm ?_
   refine aX 1 (sT [pR 1 0,(5,.d (q1 r0)),(6,.d (.sl 1 (List.map e30 r0_4))),(7,.d (q1 best)),(8,jI most1),(9,jI i1),(10,jI (r0_2.length:Int))] [(0,.var 29 (cv29 b))] 1 0) ?_
   refine Fi (sT [pR 1 0,(5,.d (q1 r0)),(6,.d (.sl 1 (List.map e30 r0_4))),(7,.d (q1 best)),(8,jI most1),(9,jI i1),(10,jI (r0_2.length:Int))] [(0,.var 29 (cv29 b))] 1 0) ?_
   refine hQ_16 _ ?_
   refine Sa (sT [pR 1 0,(5,.d (q1 r0)),(6,.d (.sl 1 (List.map e30 r0_4))),(7,.d (q1 best)),(8,jI most1),(9,jI i1),(10,jI (r0_2.length:Int)),(41,.d (.bool (decide (most1<(r0_2.length:Int)))))] [(0,.var 29 (cv29 b))] 1 0) ?_
   refine AW.cond rfl (fun hb_19=>?_) (fun hb_19=>?_)
   ·have h:=ifT hb_19 h
    refine AW.rw ?_
    refine Au 2 (sT [pR 1 0,(5,.d (q1 r0)),(6,.d (.sl 1 (List.map e30 r0_4))),(9,jI i1),(10,jI (r0_2.length:Int)),(42,.d (.sl 1 (List.map e30 r0_4))),(43,jI i1)] [(0,.var 29 (cv29 b))] 1 0) ?_
    refine RW.one fokW (r_iaD trivial rfl rfl hi_11 (row:=e30 p1) (mapget hp_11) (r_end ?_))
    refine Au 4 (sT [pR 1 0,(5,.d (q1 r0)),(6,.d (.sl 1 (List.map e30 r0_4))),(7,.d (q1 p1)),(8,jI (r0_2.length:Int)),(9,jI i1)] [(0,.var 29 (cv29 b))] 1 0) ?_
    refine RW.nil ?_
    refine hK_15 _ ?_
    refine Ra (sT [pR 1 0,(5,.d (q1 r0)),(6,.d (.sl 1 (List.map e30 r0_4))),(7,.d (q1 p1)),(8,jI (r0_2.length:Int)),(9,jI (wr (i1+1)))] [(0,.var 29 (cv29 b))] 1 0) ?_
    obtain rfl:=Option.some.inj h
    have ew:wr (i1+1)=i1+1:=inext (N:=(r0_4.length:Int)) (by omega) (by omega) (by omega)
    rw [ew]
    exact hK_11 _ (Can.kp (by kernel_rfl))
   ·have h:=ifF hb_19 h
    refine AW.skip (hK_15 _ ?_)
    refine Ra (sT [pR 1 0,(5,.d (q1 r0)),(6,.d (.sl 1 (List.map e30 r0_4))),(7,.d (q1 best)),(8,jI most1),(9,jI (wr (i1+1)))] [(0,.var 29 (cv29 b))] 1 0) ?_
    obtain rfl:=Option.some.inj h
    have ew:wr (i1+1)=i1+1:=inext (N:=(r0_4.length:Int)) (by omega) (by omega) (by omega)
    rw [ew]
    exact hK_11 _ (Can.kp (by kernel_rfl))
  ·obtain ⟨best,most1⟩:=s_11
   subst hout
   refine AW.seqK fun K_21 hK_21=>AW.srwK fun Q_22 hQ_22=>?_
   refine Au 2 (sT [pR 1 0,(5,.d (q1 r0)),(6,.d (.sl 1 (List.map e30 r0_4))),(7,.d (q1 best)),(8,jI most1),(9,jI i1),(23,jI i1),(24,.d (.sl 1 (List.map e30 r0_4)))] [(0,.var 29 (cv29 b))] 1 0) ?_
   refine rL rfl ?_
   refine Au 1 (sT [pR 1 0,(5,.d (q1 r0)),(6,.d (.sl 1 (List.map e30 r0_4))),(7,.d (q1 best)),(8,jI most1),(9,jI i1),(26,.d (.bool (decide (i1<(r0_4.length:Int)))))] [(0,.var 29 (cv29 b))] 1 0) ?_
   refine RW.nil (hQ_22 _ ?_)
   refine AW.cond rfl (fun hb_23=>False.elim (by have:=of_decide_eq_true hb_23;omega)) (fun hb_23=>?_)
   refine AW.exit ?_
   refine hK_10 _ ?_
   refine Sa (sT [(2,.d (q1 best)),(3,jI 0)] [] 1 0) ?_
   obtain rfl:=Option.some.inj h
   exact rT hR_0 (.cons (.tmp rfl) (.cons (.tmp rfl) .nil))
def g5 (b:HarnessBook):Option Bool:=(g31 b).bind fun (r0_5,r1_5)=>(g32 b).bind fun (r0_5_1,r1_2)=>bif ((decide (r0_5≠r0_5_1))||(decide (r1_5≠r1_2))) then (some false) else ((g33 b).bind fun (r0_2,r1_4)=>(g34 b).bind fun (r0_5_2,r1_1)=>(g17 r0_2 r0_5_2).bind fun r0=>(bif (r0&&(decide (r1_4=r1_1))) then ((g24).bind fun t2=>some t2) else (some false)).bind fun v=>some v)
theorem k5 (b:HarnessBook) (r:Bool) (h:g5 b=some r):SCall Tryd.prog Gs 5 [.agg (cv29 b)] [] 0 Fr.emp (.d (.bool r)) [] 0 Fr.emp:=by
 unfold g5 at h
 refine SCall.mkK Tryd.func5 c5 rfl rfl (by kernel_rfl) (fun Q_0 hR_0 hN_0=>?_)
 refine Sa (sT [pR 1 0] [(0,.var 29 (cv29 b))] 1 0) ?_
 refine AW.srwK (fun Q_1 hQ_1=>?_)
 refine Au 1 (sT [pR 1 0,(10,.agg (cv29 b))] [(0,.var 29 (cv29 b))] 1 0) ?_
 obtain ⟨⟨r0_5,r1_5⟩,hx_2,h⟩:=bsome h
 refine rC (k31 b _ hx_2) ?_
 refine Au 5 (sT [pR 1 0,(3,jI r0_5),(4,jI r1_5)] [(0,.var 29 (cv29 b))] 1 0) ?_
 refine RW.nil (hQ_1 _ ?_)
 refine AW.srwK (fun Q_3 hQ_3=>?_)
 refine Au 1 (sT [pR 1 0,(3,jI r0_5),(4,jI r1_5),(15,.agg (cv29 b))] [(0,.var 29 (cv29 b))] 1 0) ?_
 obtain ⟨⟨r0_5_1,r1_2⟩,hx_4,h⟩:=bsome h
 refine rC (k32 b _ hx_4) ?_
 refine Au 5 (sT [pR 1 0,(3,jI r0_5),(4,jI r1_5),(5,jI r0_5_1),(6,jI r1_2)] [(0,.var 29 (cv29 b))] 1 0) ?_
 refine RW.nil (hQ_3 _ ?_)
 refine AW.seqK (fun K_5 hK_5=>?_)
 refine AW.sa fokW [22] (sT [pR 1 0,(26,.d (.bool ((decide (r0_5≠r0_5_1))||(decide (r1_5≠r1_2)))))] [(0,.var 29 (cv29 b))] 1 0) (by kernel_rfl) ?_
 refine AW.cond rfl (fun hb_6=>?_) (fun hb_6=>?_)
 ·have h:=ifT hb_6 h
  refine Sa (sT [(2,.d (.bool false))] [] 1 0) ?_
  obtain rfl:=Option.some.inj h
  exact rT hR_0 (.cons (.tmp rfl) .nil)
 ·have h:=ifF hb_6 h
  refine AW.skip (hK_5 _ ?_)
  refine AW.srwK (fun Q_7 hQ_7=>?_)
  refine Au 1 (sT [pR 1 0,(28,.agg (cv29 b))] [(0,.var 29 (cv29 b))] 1 0) ?_
  obtain ⟨⟨r0_2,r1_4⟩,hx_8,h⟩:=bsome h
  refine rC (k33 b _ hx_8) ?_
  refine Au 5 (sT [pR 1 0,(4,jI r1_4),(7,.d (q1 r0_2))] [(0,.var 29 (cv29 b))] 1 0) ?_
  refine RW.nil (hQ_7 _ ?_)
  refine AW.srwK (fun Q_9 hQ_9=>?_)
  refine Au 1 (sT [(4,jI r1_4),(7,.d (q1 r0_2)),(33,.agg (cv29 b))] [] 1 0) ?_
  obtain ⟨⟨r0_5_2,r1_1⟩,hx_10,h⟩:=bsome h
  refine rC (k34 b _ hx_10) ?_
  refine Au 5 (sT [(4,jI r1_4),(6,jI r1_1),(7,.d (q1 r0_2)),(8,.d (q1 r0_5_2))] [] 1 0) ?_
  refine RW.nil (hQ_9 _ ?_)
  refine AW.srwK (fun Q_11 hQ_11=>?_)
  refine Au 2 (sT [(4,jI r1_4),(6,jI r1_1),(37,.d (q1 r0_2)),(38,.d (q1 r0_5_2))] [] 1 0) ?_
  obtain ⟨r0,hx_12,h⟩:=bsome h
  refine rC (k17 r0_2 r0_5_2 _ hx_12) ?_
  refine RW.au fokW 6 [40] (sT [(45,.d (.bool (r0&&(decide (r1_4=r1_1)))))] [] 1 0) (by kernel_rfl) ?_
  obtain ⟨v,hx_13,h⟩:=bsome h
  refine RW.cut fokW 2 ((sT [(47,.d (.bool v))] [] 1 0)) ?_ ?_
  ·refine r_split 45 rfl (fun hb_15=>?_) (fun hb_15=>?_)
   ·have h:=ifT hb_15 hx_13
    obtain ⟨t2,hx_14,h⟩:=bsome h
    refine r_call rfl rfl (k24 _ hx_14) rfl rfl ?_
    refine aX 1 (sT [(47,.d (.bool t2))] [] 1 0) ?_
    obtain rfl:=Option.some.inj h
    refine RunC.finJ (Can.kp (by kernel_rfl))
   ·have h:=ifF hb_15 hx_13
    refine aX 2 (sT [(47,.d (.bool false))] [] 1 0) ?_
    obtain rfl:=Option.some.inj h
    refine RunC.finJ (Can.kp (by kernel_rfl))
  ·refine Au 1 (sT [(2,.d (.bool v))] [] 1 0) ?_
   refine RW.nil (hQ_11 _ ?_)
   obtain rfl:=Option.some.inj h
   exact rT hR_0 (.cons (.tmp rfl) .nil)
end Go.Proofs.Tr
