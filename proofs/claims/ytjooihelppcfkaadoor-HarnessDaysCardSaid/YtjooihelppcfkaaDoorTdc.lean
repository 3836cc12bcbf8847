/- Told functions, and that the program does so, part 3. Conditions: none. -/
import Derived.Test.YtjooihelppcfkaaDoorTdb
set_option linter.unusedVariables false
set_option linter.unusedSimpArgs false
namespace Go.Proofs.Tr
open Go Go.Abs Go.Proofs
def g65_4 (r0_4:(List Int)):Int→(List Int)→(List Int)→Option (List Int):=fun i p l=>(g41 r0_4 i).bind fun r0_1=>bif (decide (r0_1<0)) then ((appL 8 l [i]).bind fun l1=>some l1) else (some l)
def g65 (b:HarnessBook):Option (List Int):=(g96 b.Hair).bind fun (r0_4,r1_1)=>(eachS (g65_4 r0_4) b.Needs 0 ([]:List Int)).bind fun l=>some l
theorem k65 (b:HarnessBook) (r:(List Int)) (h:g65 b=some r):SCall Tryd.prog Gs 65 [.agg (cv29 b)] [] 0 Fr.emp (.d (q1 r)) [] 0 Fr.emp:=by
 unfold g65 at h
 refine SCall.mkK Tryd.func65 c65 rfl rfl (by kernel_rfl) (fun Q_0 hR_0 hN_0=>?_)
 refine Sa (sT [pR 1 0] [(0,.var 29 (cv29 b))] 1 0) ?_
 refine AW.srwK (fun Q_1 hQ_1=>?_)
 refine Au 2 (sT [pR 1 0,(9,.agg (cv25 b.Hair))] [(0,.var 29 (cv29 b))] 1 0) ?_
 obtain ⟨⟨r0_4,r1_1⟩,hx_2,h⟩:=bsome h
 refine rC (k96 b.Hair _ hx_2) ?_
 refine Au 5 (sT [pR 1 0,(3,.d (q1 r0_4))] [(0,.var 29 (cv29 b))] 1 0) ?_
 refine RW.nil (hQ_1 _ ?_)
 refine Sa (sT [pR 1 0,(3,.d (q1 r0_4)),(5,.own 1 (List.map e3 []).length)] [(1,.row 3 1 (List.map e3 [])),(0,.var 29 (cv29 b))] 2 0) ?_
 refine AW.seqK (fun K_3 hK_3=>?_)
 refine Sa (sT [pR 1 0,(3,.d (q1 r0_4)),(5,.own 1 (List.map e3 []).length),(6,jI 0)] [(1,.row 3 1 (List.map e3 [])),(0,.var 29 (cv29 b))] 2 0) ?_
 refine AW.block ?_
 refine AW.slh (r:=0) (off:=5) rfl rfl (fun hN_4=>?_)
 rw [List.length_map] at hN_4
 obtain ⟨out_4,hx_4,h⟩:=bsome h
 refine AW.evSK (fun (i:Int) (l:List Int)=>(sT [pR 1 0,(3,.d (q1 r0_4)),(5,.own 1 (List.map e3 l).length),(6,jI i)] [(1,.row 3 1 (List.map e3 l)),(0,.var 29 (cv29 b))] 2 0)) (g65_4 r0_4) hx_4 (Can.kp (by kernel_rfl)) (fun i p l hi_4 hl_4 hp_4 c_4 h K_4 hK_4=>?_) (fun i l hi_4 hl_4 hout=>?_)
 ·unfold g65_4 at h
  refine AW.seqK fun K_5 hK_5=>AW.srwK fun Q_6 hQ_6=>?_
  refine Au 3 (sT [pR 1 0,(3,.d (q1 r0_4)),(5,.own 1 (List.map e3 l).length),(6,jI i),(14,jI i),(16,.d (.sl 1 (List.map e30 b.Needs)))] [(1,.row 3 1 (List.map e3 l)),(0,.var 29 (cv29 b))] 2 0) ?_
  refine rL rfl ?_
  refine Au 1 (sT [pR 1 0,(3,.d (q1 r0_4)),(5,.own 1 (List.map e3 l).length),(6,jI i),(18,.d (.bool (decide (i<(b.Needs.length:Int)))))] [(1,.row 3 1 (List.map e3 l)),(0,.var 29 (cv29 b))] 2 0) ?_
  refine RW.nil (hQ_6 _ ?_)
  refine AW.cond rfl (fun hb_7=>?_) (fun hb_7=>False.elim (by have:=of_decide_eq_false hb_7;omega))
  refine AW.skip (hK_5 _ ?_)
  refine AW.seqK (fun K_8 hK_8=>?_)
  refine AW.block ?_
  refine AW.srwK (fun Q_9 hQ_9=>?_)
  refine Au 2 (sT [pR 1 0,(3,.d (q1 r0_4)),(5,.own 1 (List.map e3 l).length),(6,jI i),(21,.d (q1 r0_4)),(22,jI i)] [(1,.row 3 1 (List.map e3 l)),(0,.var 29 (cv29 b))] 2 0) ?_
  obtain ⟨r0_1,hx_10,h⟩:=bsome h
  refine rC (k41 r0_4 i _ hx_10) ?_
  refine Au 1 (sT [pR 1 0,(3,.d (q1 r0_4)),(5,.own 1 (List.map e3 l).length),(6,jI i),(24,.d (.bool (decide (r0_1<0))))] [(1,.row 3 1 (List.map e3 l)),(0,.var 29 (cv29 b))] 2 0) ?_
  refine RW.nil (hQ_9 _ ?_)
  refine AW.cond rfl (fun hb_11=>?_) (fun hb_11=>?_)
  ·have h:=ifT hb_11 h
   refine AW.rw ?_
   refine Au 3 (sT [pR 1 0,(3,.d (q1 r0_4)),(6,jI i),(25,.own 1 (List.map e3 l).length),(27,.own 2 (List.map e3 [i]).length)] [(2,.row 3 1 (List.map e3 [i])),(1,.row 3 1 (List.map e3 l)),(0,.var 29 (cv29 b))] 3 0) ?_
   obtain ⟨l1,hv_13,h⟩:=bsome h
   refine RW.one fokW (r_apO trivial rfl rfl rfl rfl rfl rfl (apz hv_13 e3) (apr hv_13 e3) (r_end ?_))
   refine Au 1 (sT [pR 1 0,(3,.d (q1 r0_4)),(5,.own 1 (List.map e3 l1).length),(6,jI i)] [(1,.row 3 1 (List.map e3 l1)),(0,.var 29 (cv29 b))] 3 0) ?_
   refine RW.nil ?_
   refine hK_8 _ ?_
   refine Ra (sT [pR 1 0,(3,.d (q1 r0_4)),(5,.own 1 (List.map e3 l1).length),(6,jI (wr (i+1)))] [(1,.row 3 1 (List.map e3 l1)),(0,.var 29 (cv29 b))] 3 0) ?_
   obtain rfl:=Option.some.inj h
   have ew:wr (i+1)=i+1:=inext (N:=(b.Needs.length:Int)) (by omega) (by omega) (by omega)
   rw [ew]
   exact hK_4 _ (Can.kp (by kernel_rfl))
  ·have h:=ifF hb_11 h
   refine AW.skip (hK_8 _ ?_)
   refine Ra (sT [pR 1 0,(3,.d (q1 r0_4)),(5,.own 1 (List.map e3 l).length),(6,jI (wr (i+1)))] [(1,.row 3 1 (List.map e3 l)),(0,.var 29 (cv29 b))] 2 0) ?_
   obtain rfl:=Option.some.inj h
   have ew:wr (i+1)=i+1:=inext (N:=(b.Needs.length:Int)) (by omega) (by omega) (by omega)
   rw [ew]
   exact hK_4 _ (Can.kp (by kernel_rfl))
 ·subst hout
  refine AW.seqK fun K_14 hK_14=>AW.srwK fun Q_15 hQ_15=>?_
  refine Au 3 (sT [pR 1 0,(3,.d (q1 r0_4)),(5,.own 1 (List.map e3 l).length),(6,jI i),(14,jI i),(16,.d (.sl 1 (List.map e30 b.Needs)))] [(1,.row 3 1 (List.map e3 l)),(0,.var 29 (cv29 b))] 2 0) ?_
  refine rL rfl ?_
  refine Au 1 (sT [pR 1 0,(3,.d (q1 r0_4)),(5,.own 1 (List.map e3 l).length),(6,jI i),(18,.d (.bool (decide (i<(b.Needs.length:Int)))))] [(1,.row 3 1 (List.map e3 l)),(0,.var 29 (cv29 b))] 2 0) ?_
  refine RW.nil (hQ_15 _ ?_)
  refine AW.cond rfl (fun hb_16=>False.elim (by have:=of_decide_eq_true hb_16;omega)) (fun hb_16=>?_)
  refine AW.exit ?_
  refine hK_3 _ ?_
  refine Sa (sT [(2,.own 1 (List.map e3 l).length)] [(1,.row 3 1 (List.map e3 l))] 2 0) ?_
  obtain rfl:=Option.some.inj h
  exact AW.ret (hR_0 _ (retX (.cons (.tmp rfl) .nil) (.own rfl rfl) rfl (by kernel_rfl) (by kernel_rfl)))
def g66 (b:HarnessBook):Option (List Int):=(must (decide (0≤(b.Needs.length:Int)))).bind fun _=>(g74 (wr ((shl64 1 (b.Needs.length:Int)) - 1)) (b.Needs.length:Int)).bind fun r0_1=>some r0_1
theorem k66 (b:HarnessBook) (r:(List Int)) (h:g66 b=some r):SCall Tryd.prog Gs 66 [.agg (cv29 b)] [] 0 Fr.emp (.d (q1 r)) [] 0 Fr.emp:=by
 unfold g66 at h
 refine SCall.mkK Tryd.func66 c66 rfl rfl (by kernel_rfl) (fun Q_0 hR_0 hN_0=>?_)
 refine Sa (sT [pR 1 0] [(0,.var 29 (cv29 b))] 1 0) ?_
 refine AW.sdrwK fokW (fun Q_1 hQ_1=>?_)
 refine aX 2 (sT [pR 1 0,(4,.d (.sl 1 (List.map e30 b.Needs)))] [(0,.var 29 (cv29 b))] 1 0) ?_
 refine r_lenX trivial rfl lenm ?_
 obtain ⟨_,hv_2,h⟩:=bsome h
 refine r_sh trivial rfl rfl (shl64_ok (of_decide_eq_true (must_ok hv_2))) ?_
 refine aX 3 (sT [(7,jI (wr ((shl64 1 (b.Needs.length:Int)) - 1))),(9,.d (.sl 1 (List.map e30 b.Needs)))] [(0,.var 29 (cv29 b))] 1 0) ?_
 refine r_lenX trivial rfl lenm ?_
 obtain ⟨r0_1,hx_3,h⟩:=bsome h
 refine r_call trivial rfl (k74 (wr ((shl64 1 (b.Needs.length:Int)) - 1)) (b.Needs.length:Int) _ hx_3) rfl rfl ?_
 refine aX 1 (sT [(2,.d (q1 r0_1))] [(0,.var 29 (cv29 b))] 1 0) ?_
 refine Fi (sT [(2,.d (q1 r0_1))] [] 1 0) ?_
 refine hQ_1 _ ?_
 obtain rfl:=Option.some.inj h
 exact rT hR_0 (.cons (.tmp rfl) .nil)
def g94_8 (rec_:HarnessBook→(List Int)→Option (List (List Int))) (b:HarnessBook) (some_:(List Int)):Int→(List (List Int))→Option (List (List Int)):=fun n l2=>(g109 some_ n).bind fun r0=>(rec_ b r0).bind fun r0_3_1=>(appL 24 l2 r0_3_1).bind fun l3=>some l3
def g94:Nat→HarnessBook→(List Int)→Option (List (List Int))
 | 0,_,_=>none
 | n_+1,b,some_=>bif (decide ((some_.length:Int)=(b.Stock.length:Int))) then (some [some_]) else ((ixL b.Stock (some_.length:Int)).bind fun p=>(((must (decide ((p.High+1)≤9223372036854775807))).bind fun _=>(must (decide (-9223372036854775808≤p.Low))).bind fun _=>(forS (g94_8 (g94 n_) b some_) ((((p.High+1):Int) - p.Low).toNat) p.Low ([]:List (List Int))).bind fun l2=>some l2).bind fun l1=>some l1).bind fun l=>some l)
theorem k94:∀ (n_:Nat) (b:HarnessBook) (some_:(List Int)) (r:(List (List Int))) (h:g94 n_ b some_=some r),SCall Tryd.prog Gs 94 [.agg (cv29 b),.d (q1 some_)] [] 0 Fr.emp (.d (.sl 1 (List.map e30 r))) [] 0 Fr.emp:=by
 intro n_
 induction n_ with
 | zero=>intro b some_ r h;cases h
 | succ n_ ih=>
  intro b some_ r h
  rw [g94] at h
  refine SCall.mkK Tryd.func94 c94 rfl rfl (by kernel_rfl) (fun Q_0 hR_0 hN_0=>?_)
  refine Sa (sT [(1,.d (q1 some_)),pR 2 0] [(0,.var 29 (cv29 b))] 1 0) ?_
  refine AW.seqK fun K_1 hK_1=>AW.srwK fun Q_2 hQ_2=>?_
  refine Au 1 (sT [(1,.d (q1 some_)),pR 2 0,(8,.d (q1 some_))] [(0,.var 29 (cv29 b))] 1 0) ?_
  refine rL rfl ?_
  refine Au 2 (sT [(1,.d (q1 some_)),pR 2 0,(9,jI (some_.length:Int)),(11,.d (.sl 2 (List.map e37 b.Stock)))] [(0,.var 29 (cv29 b))] 1 0) ?_
  refine rL rfl ?_
  refine Au 1 (sT [(1,.d (q1 some_)),pR 2 0,(13,.d (.bool (decide ((some_.length:Int)=(b.Stock.length:Int)))))] [(0,.var 29 (cv29 b))] 1 0) ?_
  refine RW.nil (hQ_2 _ ?_)
  refine AW.cond rfl (fun hb_3=>?_) (fun hb_3=>?_)
  ·have h:=ifT hb_3 h
   refine Sa (sT [(4,.own 1 (List.map e30 [some_]).length)] [(1,.row 30 1 (List.map e30 [some_]))] 2 0) ?_
   obtain rfl:=Option.some.inj h
   exact AW.ret (hR_0 _ (retX (.cons (.tmp rfl) .nil) (.own rfl rfl) rfl (by kernel_rfl) (by kernel_rfl)))
  ·have h:=ifF hb_3 h
   refine AW.skip (hK_1 _ ?_)
   refine Sa (sT [(1,.d (q1 some_)),pR 2 0,(5,.d (.nilSl))] [(0,.var 29 (cv29 b))] 1 0) ?_
   refine AW.srwK (fun Q_4 hQ_4=>?_)
   refine Au 3 (sT [(1,.d (q1 some_)),pR 2 0,(5,.d (.nilSl)),(17,.d (.sl 2 (List.map e37 b.Stock))),(18,.d (q1 some_))] [(0,.var 29 (cv29 b))] 1 0) ?_
   refine rL rfl ?_
   obtain ⟨p,hv_5,h⟩:=bsome h
   refine RW.one fokW (r_iaD trivial rfl rfl (ixL_ok hv_5).1 (row:=e37 p) (mapget (ixL_ok hv_5).2) (r_end ?_))
   refine Au 3 (sT [(1,.d (q1 some_)),pR 2 0,(5,.d (.nilSl)),pR 6 1] [(1,.var 37 [jI p.Low,jI p.High]),(0,.var 29 (cv29 b))] 2 0) ?_
   refine RW.nil (hQ_4 _ ?_)
   obtain ⟨l,hx_6,h⟩:=bsome h
   refine AW.jnSK (fun (l:List (List Int))=>(sT [(5,.own 2 (List.map e30 l).length)] [(2,.row 30 1 (List.map e30 l))] 3 0)) (c:=l) (fun K_6 hK_6=>?_) ?_
   ·have h:=hx_6
    refine Sa (sT [(1,.d (q1 some_)),pR 2 0,(5,.d (.nilSl)),pR 6 1,(7,jI p.Low)] [(1,.var 37 [jI p.Low,jI p.High]),(0,.var 29 (cv29 b))] 2 0) ?_
    obtain ⟨l1,hx_7,h⟩:=bsome h
    refine AW.jqSK (fun (l1:List (List Int))=>(sT [(5,.own 2 (List.map e30 l1).length)] [(2,.row 30 1 (List.map e30 l1))] 3 0)) (c:=l1) (fun K_7 hK_7=>?_) ?_
    ·have h:=hx_7
     refine AW.block ?_
     obtain ⟨_,hN_8,h⟩:=bsome h
     have hN_8:=of_decide_eq_true (must_ok hN_8)
     obtain ⟨_,h0_8,h⟩:=bsome h
     have h0_8:=of_decide_eq_true (must_ok h0_8)
     obtain ⟨out_8,hx_8,h⟩:=bsome h
     refine AW.lpSK (fun (n:Int) (l2:List (List Int))=>(sT [(1,.d (q1 some_)),pR 2 0,(5,.own 2 (List.map e30 l2).length),pR 6 1,(7,jI n)] [(2,.row 30 1 (List.map e30 l2)),(1,.var 37 [jI p.Low,jI p.High]),(0,.var 29 (cv29 b))] 3 0)) (g94_8 (g94 n_) b some_) ((p.High+1)) hx_8 (Can.trans (Can.thawT 5 30 1 rfl rfl) (Can.kp (by kernel_rfl))) (fun n l2 hi_8 hl_8 c_8 h K_8 hK_8=>?_) (fun n l2 hi_8 hl_8 hout=>?_)
     ·unfold g94_8 at h
      refine AW.seqK (fun K_9 hK_9=>?_)
      refine Sa (sT [(1,.d (q1 some_)),pR 2 0,(5,.own 2 (List.map e30 l2).length),pR 6 1,(7,jI n),(27,.d (.bool (decide (n≤p.High))))] [(2,.row 30 1 (List.map e30 l2)),(1,.var 37 [jI p.Low,jI p.High]),(0,.var 29 (cv29 b))] 3 0) ?_
      refine AW.cond rfl (fun hb_10=>?_) (fun hb_10=>False.elim (by have:=of_decide_eq_false hb_10;omega))
      refine AW.skip (hK_9 _ ?_)
      refine AW.seqK (fun K_11 hK_11=>?_)
      refine AW.block ?_
      refine AW.drw fokW ?_
      refine aX 4 (sT [(1,.d (q1 some_)),pR 2 0,pR 6 1,(7,jI n),(30,.own 2 (List.map e30 l2).length),(31,.agg (cv29 b)),(32,.d (q1 some_)),(33,jI n)] [(2,.row 30 1 (List.map e30 l2)),(1,.var 37 [jI p.Low,jI p.High]),(0,.var 29 (cv29 b))] 3 0) ?_
      obtain ⟨r0,hx_13,h⟩:=bsome h
      refine r_call trivial rfl (k109 some_ n _ hx_13) rfl rfl ?_
      obtain ⟨r0_3_1,hx_14,h⟩:=bsome h
      refine r_call trivial rfl (ih b r0 _ hx_14) rfl rfl ?_
      obtain ⟨l3,hv_15,h⟩:=bsome h
      refine r_apD trivial rfl rfl rfl rfl (apz hv_15 e30) (apr hv_15 e30) ?_
      refine aX 1 (sT [(1,.d (q1 some_)),pR 2 0,(5,.own 2 (List.map e30 l3).length),pR 6 1,(7,jI n)] [(2,.row 30 1 (List.map e30 l3)),(1,.var 37 [jI p.Low,jI p.High]),(0,.var 29 (cv29 b))] 3 0) ?_
      refine Fi (sT [(1,.d (q1 some_)),pR 2 0,(5,.own 2 (List.map e30 l3).length),pR 6 1,(7,jI n)] [(2,.row 30 1 (List.map e30 l3)),(1,.var 37 [jI p.Low,jI p.High]),(0,.var 29 (cv29 b))] 3 0) ?_
      refine hK_11 _ ?_
      refine Ra (sT [(1,.d (q1 some_)),pR 2 0,(5,.own 2 (List.map e30 l3).length),pR 6 1,(7,jI (wr (n+1)))] [(2,.row 30 1 (List.map e30 l3)),(1,.var 37 [jI p.Low,jI p.High]),(0,.var 29 (cv29 b))] 3 0) ?_
      obtain rfl:=Option.some.inj h
      have ew:wr (n+1)=n+1:=inext (N:=(p.High+1)) (by omega) (by omega) (by omega)
      rw [ew]
      exact hK_8 _ (Can.kp (by kernel_rfl))
     ·subst hout
      refine AW.seqK (fun K_16 hK_16=>?_)
      refine Sa (sT [(1,.d (q1 some_)),pR 2 0,(5,.own 2 (List.map e30 l2).length),pR 6 1,(7,jI n),(27,.d (.bool (decide (n≤p.High))))] [(2,.row 30 1 (List.map e30 l2)),(1,.var 37 [jI p.Low,jI p.High]),(0,.var 29 (cv29 b))] 3 0) ?_
      refine AW.cond rfl (fun hb_17=>False.elim (by have:=of_decide_eq_true hb_17;omega)) (fun hb_17=>?_)
      refine AW.exit ?_
      obtain rfl:=Option.some.inj h
      exact hK_7 _ (Can.kp (by kernel_rfl))
    ·obtain rfl:=Option.some.inj h
     exact hK_6 _ (Can.kp (by kernel_rfl))
   ·refine Sa (sT [(4,.own 2 (List.map e30 l).length)] [(2,.row 30 1 (List.map e30 l))] 3 0) ?_
    obtain rfl:=Option.some.inj h
    exact AW.ret (hR_0 _ (retX (.cons (.tmp rfl) .nil) (.own rfl rfl) rfl (by kernel_rfl) (by kernel_rfl)))
def g95_28 (p1:(List Int)) (ok:Bool):(Int×(List Int))→Option (Ctl (Int×(List Int)) (List Int)):=fun  (k1,l5)=>(bif ok then (some (decide (k1<(p1.length:Int)))) else (some false)).bind fun v=>bif v then ((ixL l5 k1).bind fun p4=>(ixL p1 k1).bind fun p5=>some (.next ((wr (k1+1)),(setL l5 k1 (wr (p4 - p5)))))) else (some (.brk l5))
def g95_15 (l1:List Int):Int→Int→Bool→Option Bool:=fun k p2 ok=>bif ok then ((ixL l1 k).bind fun p3=>some (decide (p2≤p3))) else (some false)
def g95_5 (b:HarnessBook) (hair:(List Int)):Int→Int→(Int×(List Int))→Option (Int×(List Int)):=fun i p (set_2,l1)=>((ixL b.Needs p).bind fun p1=>(g41 hair p).bind fun r0_1=>(eachS (g95_15 l1) p1 0 (decide (0≤r0_1))).bind fun ok=>((whileC (g95_28 p1 ok) 1000 (0,l1)).bind fun l4=>some l4).bind fun l3=>bif ok then ((must (decide (0≤p))).bind fun _=>some ((bOr set_2 (shl64 1 p)),l3)) else (some (set_2,l3))).bind fun (set_3,l2)=>some (set_3,l2)
def g95 (b:HarnessBook) (hair:(List Int)) (order:(List Int)) (stock:(List Int)):Option Int:=(appL 8 ([]:List Int) stock).bind fun l=>(((eachS (g95_5 b hair) order 0 (0,l)).bind fun (set_2,l1)=>some set_2).bind fun set_1=>some set_1).bind fun set_=>some set_
theorem k95 (b:HarnessBook) (hair:(List Int)) (order:(List Int)) (stock:(List Int)) (r:Int) (h:g95 b hair order stock=some r):SCall Tryd.prog Gs 95 [.agg (cv29 b),.d (q1 hair),.d (q1 order),.d (q1 stock)] [] 0 Fr.emp (jI r) [] 0 Fr.emp:=by
 unfold g95 at h
 refine SCall.mkK Tryd.func95 c95 rfl rfl (by kernel_rfl) (fun Q_0 hR_0 hN_0=>?_)
 refine Sa (sT [(1,.d (q1 hair)),(2,.d (q1 order)),(3,.d (q1 stock)),pR 4 0] [(0,.var 29 (cv29 b))] 1 0) ?_
 refine AW.srwK (fun Q_1 hQ_1=>?_)
 refine Au 2 (sT [(1,.d (q1 hair)),(2,.d (q1 order)),pR 4 0,(16,.own 1 (List.map e3 []).length),(17,.d (q1 stock))] [(1,.row 3 1 (List.map e3 [])),(0,.var 29 (cv29 b))] 2 0) ?_
 obtain ⟨l,hv_2,h⟩:=bsome h
 refine RW.one fokW (r_apD trivial rfl rfl rfl rfl (apz hv_2 e3) (apr hv_2 e3) (r_end ?_))
 refine Au 1 (sT [(1,.d (q1 hair)),(2,.d (q1 order)),pR 4 0,(9,.own 1 (List.map e3 l).length)] [(1,.row 3 1 (List.map e3 l)),(0,.var 29 (cv29 b))] 2 0) ?_
 refine RW.nil (hQ_1 _ ?_)
 refine Sa (sT [(1,.d (q1 hair)),(2,.d (q1 order)),pR 4 0,(9,.own 1 (List.map e3 l).length),(10,jI 0)] [(1,.row 3 1 (List.map e3 l)),(0,.var 29 (cv29 b))] 2 0) ?_
 obtain ⟨set_,hx_3,h⟩:=bsome h
 refine AW.jnSK (fun (set_:Int)=>(sT [(10,jI set_)] [] 2 0)) (c:=set_) (fun K_3 hK_3=>?_) ?_
 ·have h:=hx_3
  refine Sa (sT [(1,.d (q1 hair)),(2,.d (q1 order)),pR 4 0,(9,.own 1 (List.map e3 l).length),(10,jI 0),(11,jI 0)] [(1,.row 3 1 (List.map e3 l)),(0,.var 29 (cv29 b))] 2 0) ?_
  obtain ⟨set_1,hx_4,h⟩:=bsome h
  refine AW.jqSK (fun (set_1:Int)=>(sT [(10,jI set_1)] [] 2 0)) (c:=set_1) (fun K_4 hK_4=>?_) ?_
  ·have h:=hx_4
   refine AW.block ?_
   refine AW.sln (t:=2) rfl (fun hN_5=>?_)
   rw [List.length_map] at hN_5
   obtain ⟨out_5,hx_5,h⟩:=bsome h
   refine AW.evSK (fun (i:Int) (⟨set_2,l1⟩:Int×(List Int))=>(sT [(1,.d (q1 hair)),(2,.d (q1 order)),pR 4 0,(9,.own 1 (List.map e3 l1).length),(10,jI set_2),(11,jI i)] [(1,.row 3 1 (List.map e3 l1)),(0,.var 29 (cv29 b))] 2 0)) (g95_5 b hair) hx_5 (Can.kp (by kernel_rfl)) (fun i p s_5 hi_5 hl_5 hp_5 c_5 h K_5 hK_5=>?_) (fun i s_5 hi_5 hl_5 hout=>?_)
   ·obtain ⟨set_2,l1⟩:=s_5
    unfold g95_5 at h
    refine AW.seqK fun K_6 hK_6=>AW.srwK fun Q_7 hQ_7=>?_
    refine Au 2 (sT [(1,.d (q1 hair)),(2,.d (q1 order)),pR 4 0,(9,.own 1 (List.map e3 l1).length),(10,jI set_2),(11,jI i),(19,jI i),(20,.d (q1 order))] [(1,.row 3 1 (List.map e3 l1)),(0,.var 29 (cv29 b))] 2 0) ?_
    refine rL rfl ?_
    refine Au 1 (sT [(1,.d (q1 hair)),(2,.d (q1 order)),pR 4 0,(9,.own 1 (List.map e3 l1).length),(10,jI set_2),(11,jI i),(22,.d (.bool (decide (i<(order.length:Int)))))] [(1,.row 3 1 (List.map e3 l1)),(0,.var 29 (cv29 b))] 2 0) ?_
    refine RW.nil (hQ_7 _ ?_)
    refine AW.cond rfl (fun hb_8=>?_) (fun hb_8=>False.elim (by have:=of_decide_eq_false hb_8;omega))
    refine AW.skip (hK_6 _ ?_)
    obtain ⟨c_9,hx_9,h⟩:=bsome h
    refine AW.jnSK (fun (⟨set_3,l2⟩:Int×(List Int))=>(sT [(1,.d (q1 hair)),(2,.d (q1 order)),pR 4 0,(9,.own 1 (List.map e3 l2).length),(10,jI set_3),(11,jI i)] [(1,.row 3 1 (List.map e3 l2)),(0,.var 29 (cv29 b))] 2 0)) (c:=c_9) (fun K_9 hK_9=>?_) ?_
    ·have h:=hx_9
     refine AW.block ?_
     refine AW.sdrwK fokW (fun Q_10 hQ_10=>?_)
     refine aX 4 (sT [(1,.d (q1 hair)),(2,.d (q1 order)),pR 4 0,(9,.own 1 (List.map e3 l1).length),(10,jI set_2),(11,jI i),(26,.d (.sl 1 (List.map e30 b.Needs))),(27,.d (q1 order)),(28,jI i)] [(1,.row 3 1 (List.map e3 l1)),(0,.var 29 (cv29 b))] 2 0) ?_
     refine r_iaD trivial rfl rfl hi_5 (row:=e3 p) (mapget hp_5) ?_
     refine aX 1 (sT [(1,.d (q1 hair)),(2,.d (q1 order)),pR 4 0,(9,.own 1 (List.map e3 l1).length),(10,jI set_2),(11,jI i),(26,.d (.sl 1 (List.map e30 b.Needs))),(30,jI p)] [(1,.row 3 1 (List.map e3 l1)),(0,.var 29 (cv29 b))] 2 0) ?_
     obtain ⟨p1,hv_11,h⟩:=bsome h
     refine r_iaD trivial rfl rfl (ixL_ok hv_11).1 (row:=e30 p1) (mapget (ixL_ok hv_11).2) ?_
     refine aX 2 (sT [(1,.d (q1 hair)),(2,.d (q1 order)),pR 4 0,(9,.own 1 (List.map e3 l1).length),(10,jI set_2),(11,jI i),(12,.d (q1 p1))] [(1,.row 3 1 (List.map e3 l1)),(0,.var 29 (cv29 b))] 2 0) ?_
     refine Fi (sT [(1,.d (q1 hair)),(2,.d (q1 order)),pR 4 0,(9,.own 1 (List.map e3 l1).length),(10,jI set_2),(11,jI i),(12,.d (q1 p1))] [(1,.row 3 1 (List.map e3 l1)),(0,.var 29 (cv29 b))] 2 0) ?_
     refine hQ_10 _ ?_
     refine AW.srwK (fun Q_12 hQ_12=>?_)
     refine Au 3 (sT [(1,.d (q1 hair)),(2,.d (q1 order)),pR 4 0,(9,.own 1 (List.map e3 l1).length),(10,jI set_2),(11,jI i),(12,.d (q1 p1)),(33,.d (q1 hair)),(34,.d (q1 order)),(35,jI i)] [(1,.row 3 1 (List.map e3 l1)),(0,.var 29 (cv29 b))] 2 0) ?_
     refine RW.one fokW (r_iaD trivial rfl rfl hi_5 (row:=e3 p) (mapget hp_5) (r_end ?_))
     refine Au 1 (sT [(1,.d (q1 hair)),(2,.d (q1 order)),pR 4 0,(9,.own 1 (List.map e3 l1).length),(10,jI set_2),(11,jI i),(12,.d (q1 p1)),(33,.d (q1 hair)),(37,jI p)] [(1,.row 3 1 (List.map e3 l1)),(0,.var 29 (cv29 b))] 2 0) ?_
     obtain ⟨r0_1,hx_13,h⟩:=bsome h
     refine rC (k41 hair p _ hx_13) ?_
     refine Au 2 (sT [(1,.d (q1 hair)),(2,.d (q1 order)),pR 4 0,(9,.own 1 (List.map e3 l1).length),(10,jI set_2),(11,jI i),(12,.d (q1 p1)),(13,.d (.bool (decide (0≤r0_1))))] [(1,.row 3 1 (List.map e3 l1)),(0,.var 29 (cv29 b))] 2 0) ?_
     refine RW.nil (hQ_12 _ ?_)
     refine AW.seqK (fun K_14 hK_14=>?_)
     refine Sa (sT [(1,.d (q1 hair)),(2,.d (q1 order)),pR 4 0,(9,.own 1 (List.map e3 l1).length),(10,jI set_2),(11,jI i),(12,.d (q1 p1)),(13,.d (.bool (decide (0≤r0_1)))),(14,jI 0)] [(1,.row 3 1 (List.map e3 l1)),(0,.var 29 (cv29 b))] 2 0) ?_
     refine AW.block ?_
     refine AW.sln (t:=12) rfl (fun hN_15=>?_)
     rw [List.length_map] at hN_15
     obtain ⟨out_15,hx_15,h⟩:=bsome h
     refine AW.evSK (fun (k:Int) (ok:Bool)=>(sT [(1,.d (q1 hair)),(2,.d (q1 order)),pR 4 0,(9,.own 1 (List.map e3 l1).length),(10,jI set_2),(11,jI i),(12,.d (q1 p1)),(13,.d (.bool ok)),(14,jI k)] [(1,.row 3 1 (List.map e3 l1)),(0,.var 29 (cv29 b))] 2 0)) (g95_15 l1) hx_15 (Can.kp (by kernel_rfl)) (fun k p2 ok hi_15 hl_15 hp_15 c_15 h K_15 hK_15=>?_) (fun k ok hi_15 hl_15 hout=>?_)
     ·unfold g95_15 at h
      refine AW.seqK fun K_16 hK_16=>AW.srwK fun Q_17 hQ_17=>?_
      refine Au 2 (sT [(1,.d (q1 hair)),(2,.d (q1 order)),pR 4 0,(9,.own 1 (List.map e3 l1).length),(10,jI set_2),(11,jI i),(12,.d (q1 p1)),(13,.d (.bool ok)),(14,jI k),(40,jI k),(41,.d (q1 p1))] [(1,.row 3 1 (List.map e3 l1)),(0,.var 29 (cv29 b))] 2 0) ?_
      refine rL rfl ?_
      refine Au 1 (sT [(1,.d (q1 hair)),(2,.d (q1 order)),pR 4 0,(9,.own 1 (List.map e3 l1).length),(10,jI set_2),(11,jI i),(12,.d (q1 p1)),(13,.d (.bool ok)),(14,jI k),(43,.d (.bool (decide (k<(p1.length:Int)))))] [(1,.row 3 1 (List.map e3 l1)),(0,.var 29 (cv29 b))] 2 0) ?_
      refine RW.nil (hQ_17 _ ?_)
      refine AW.cond rfl (fun hb_18=>?_) (fun hb_18=>False.elim (by have:=of_decide_eq_false hb_18;omega))
      refine AW.skip (hK_16 _ ?_)
      refine AW.seqK (fun K_19 hK_19=>?_)
      refine AW.block ?_
      refine AW.drw fokW ?_
      refine aX 2 (sT [(1,.d (q1 hair)),(2,.d (q1 order)),pR 4 0,(9,.own 1 (List.map e3 l1).length),(10,jI set_2),(11,jI i),(12,.d (q1 p1)),(14,jI k),(47,.d (.bool ok))] [(1,.row 3 1 (List.map e3 l1)),(0,.var 29 (cv29 b))] 2 0) ?_
      refine r_split 47 rfl (fun hb_21=>?_) (fun hb_21=>?_)
      ·have h:=ifT hb_21 h
       refine aX 2 (sT [(1,.d (q1 hair)),(2,.d (q1 order)),pR 4 0,(9,.own 1 (List.map e3 l1).length),(10,jI set_2),(11,jI i),(12,.d (q1 p1)),(14,jI k),(47,.d (.bool true)),(48,.d (q1 p1)),(49,jI k)] [(1,.row 3 1 (List.map e3 l1)),(0,.var 29 (cv29 b))] 2 0) ?_
       refine r_iaD rfl rfl rfl hi_15 (row:=e3 p2) (mapget hp_15) ?_
       refine aX 3 (sT [(1,.d (q1 hair)),(2,.d (q1 order)),pR 4 0,(9,.own 1 (List.map e3 l1).length),(10,jI set_2),(11,jI i),(12,.d (q1 p1)),(14,jI k),(47,.d (.bool true)),(51,jI p2),(52,.own 1 (List.map e3 l1).length),(53,jI k)] [(1,.row 3 1 (List.map e3 l1)),(0,.var 29 (cv29 b))] 2 0) ?_
       obtain ⟨p3,hv_22,h⟩:=bsome h
       refine r_iaO rfl rfl rfl rfl (ixL_ok hv_22).1 (ix_lt (ixL_ok hv_22).2) rfl ?_
       refine r_loadE rfl rfl rfl rfl (mapget (f:=e3) (ixL_ok hv_22).2) rfl ?_
       refine aX 3 (sT [(1,.d (q1 hair)),(2,.d (q1 order)),pR 4 0,(9,.own 1 (List.map e3 l1).length),(10,jI set_2),(11,jI i),(12,.d (q1 p1)),(13,.d (.bool (decide (p2≤p3)))),(14,jI k)] [(1,.row 3 1 (List.map e3 l1)),(0,.var 29 (cv29 b))] 2 0) ?_
       refine Fi (sT [(1,.d (q1 hair)),(2,.d (q1 order)),pR 4 0,(9,.own 1 (List.map e3 l1).length),(10,jI set_2),(11,jI i),(12,.d (q1 p1)),(13,.d (.bool (decide (p2≤p3)))),(14,jI k)] [(1,.row 3 1 (List.map e3 l1)),(0,.var 29 (cv29 b))] 2 0) ?_
       refine hK_19 _ ?_
       refine Ra (sT [(1,.d (q1 hair)),(2,.d (q1 order)),pR 4 0,(9,.own 1 (List.map e3 l1).length),(10,jI set_2),(11,jI i),(12,.d (q1 p1)),(13,.d (.bool (decide (p2≤p3)))),(14,jI (wr (k+1)))] [(1,.row 3 1 (List.map e3 l1)),(0,.var 29 (cv29 b))] 2 0) ?_
       obtain rfl:=Option.some.inj h
       have ew:wr (k+1)=k+1:=inext (N:=(p1.length:Int)) (by omega) (by omega) (by omega)
       rw [ew]
       exact hK_15 _ (Can.kp (by kernel_rfl))
      ·have h:=ifF hb_21 h
       refine aX 11 (sT [(1,.d (q1 hair)),(2,.d (q1 order)),pR 4 0,(9,.own 1 (List.map e3 l1).length),(10,jI set_2),(11,jI i),(12,.d (q1 p1)),(13,.d (.bool false)),(14,jI k)] [(1,.row 3 1 (List.map e3 l1)),(0,.var 29 (cv29 b))] 2 0) ?_
       refine Fi (sT [(1,.d (q1 hair)),(2,.d (q1 order)),pR 4 0,(9,.own 1 (List.map e3 l1).length),(10,jI set_2),(11,jI i),(12,.d (q1 p1)),(13,.d (.bool false)),(14,jI k)] [(1,.row 3 1 (List.map e3 l1)),(0,.var 29 (cv29 b))] 2 0) ?_
       refine hK_19 _ ?_
       refine Ra (sT [(1,.d (q1 hair)),(2,.d (q1 order)),pR 4 0,(9,.own 1 (List.map e3 l1).length),(10,jI set_2),(11,jI i),(12,.d (q1 p1)),(13,.d (.bool false)),(14,jI (wr (k+1)))] [(1,.row 3 1 (List.map e3 l1)),(0,.var 29 (cv29 b))] 2 0) ?_
       obtain rfl:=Option.some.inj h
       have ew:wr (k+1)=k+1:=inext (N:=(p1.length:Int)) (by omega) (by omega) (by omega)
       rw [ew]
       exact hK_15 _ (Can.kp (by kernel_rfl))
     ·subst hout
      refine AW.seqK fun K_23 hK_23=>AW.srwK fun Q_24 hQ_24=>?_
      refine Au 2 (sT [(1,.d (q1 hair)),(2,.d (q1 order)),pR 4 0,(9,.own 1 (List.map e3 l1).length),(10,jI set_2),(11,jI i),(12,.d (q1 p1)),(13,.d (.bool ok)),(14,jI k),(40,jI k),(41,.d (q1 p1))] [(1,.row 3 1 (List.map e3 l1)),(0,.var 29 (cv29 b))] 2 0) ?_
      refine rL rfl ?_
      refine Au 1 (sT [(1,.d (q1 hair)),(2,.d (q1 order)),pR 4 0,(9,.own 1 (List.map e3 l1).length),(10,jI set_2),(11,jI i),(12,.d (q1 p1)),(13,.d (.bool ok)),(14,jI k),(43,.d (.bool (decide (k<(p1.length:Int)))))] [(1,.row 3 1 (List.map e3 l1)),(0,.var 29 (cv29 b))] 2 0) ?_
      refine RW.nil (hQ_24 _ ?_)
      refine AW.cond rfl (fun hb_25=>False.elim (by have:=of_decide_eq_true hb_25;omega)) (fun hb_25=>?_)
      refine AW.exit ?_
      refine hK_14 _ ?_
      obtain ⟨l3,hx_26,h⟩:=bsome h
      refine AW.jnSK (fun (l3:List Int)=>(sT [(1,.d (q1 hair)),(2,.d (q1 order)),pR 4 0,(9,.own 1 (List.map e3 l3).length),(10,jI set_2),(11,jI i),(13,.d (.bool ok))] [(1,.row 3 1 (List.map e3 l3)),(0,.var 29 (cv29 b))] 2 0)) (c:=l3) (fun K_26 hK_26=>?_) ?_
      ·have h:=hx_26
       refine Sa (sT [(1,.d (q1 hair)),(2,.d (q1 order)),pR 4 0,(9,.own 1 (List.map e3 l1).length),(10,jI set_2),(11,jI i),(12,.d (q1 p1)),(13,.d (.bool ok)),(15,jI 0)] [(1,.row 3 1 (List.map e3 l1)),(0,.var 29 (cv29 b))] 2 0) ?_
       obtain ⟨l4,hx_27,h⟩:=bsome h
       refine AW.jqSK (fun (l4:List Int)=>(sT [(1,.d (q1 hair)),(2,.d (q1 order)),pR 4 0,(9,.own 1 (List.map e3 l4).length),(10,jI set_2),(11,jI i),(13,.d (.bool ok))] [(1,.row 3 1 (List.map e3 l4)),(0,.var 29 (cv29 b))] 2 0)) (c:=l4) (fun K_27 hK_27=>?_) ?_
       ·have h:=hx_27
        refine AW.block ?_
        refine AW.whK (fun (⟨k1,l5⟩:Int×(List Int))=>(sT [(1,.d (q1 hair)),(2,.d (q1 order)),pR 4 0,(9,.own 1 (List.map e3 l5).length),(10,jI set_2),(11,jI i),(12,.d (q1 p1)),(13,.d (.bool ok)),(15,jI k1)] [(1,.row 3 1 (List.map e3 l5)),(0,.var 29 (cv29 b))] 2 0)) (g95_28 p1 ok) h (Can.kp (by kernel_rfl)) (fun s_28 c_28 h hb_28 K_28 hK_28=>?_)
        obtain ⟨k1,l5⟩:=s_28
        unfold g95_28 at h
        refine AW.seqK fun K_29 hK_29=>AW.srwK fun Q_30 hQ_30=>?_
        refine Au 2 (sT [(1,.d (q1 hair)),(2,.d (q1 order)),pR 4 0,(9,.own 1 (List.map e3 l5).length),(10,jI set_2),(11,jI i),(12,.d (q1 p1)),(13,.d (.bool ok)),(15,jI k1),(59,.d (.bool ok))] [(1,.row 3 1 (List.map e3 l5)),(0,.var 29 (cv29 b))] 2 0) ?_
        obtain ⟨v,hx_31,h⟩:=bsome h
        refine RW.cut fokW 5 ((sT [(1,.d (q1 hair)),(2,.d (q1 order)),pR 4 0,(9,.own 1 (List.map e3 l5).length),(10,jI set_2),(11,jI i),(12,.d (q1 p1)),(13,.d (.bool ok)),(15,jI k1),(64,.d (.bool v))] [(1,.row 3 1 (List.map e3 l5)),(0,.var 29 (cv29 b))] 2 0)) ?_ ?_
        ·refine r_split 59 rfl (fun hb_32=>?_) (fun hb_32=>?_)
         ·have h:=ifT hb_32 hx_31
          refine aX 2 (sT [(1,.d (q1 hair)),(2,.d (q1 order)),pR 4 0,(9,.own 1 (List.map e3 l5).length),(10,jI set_2),(11,jI i),(12,.d (q1 p1)),(13,.d (.bool ok)),(15,jI k1),(59,.d (.bool true)),(60,jI k1),(61,.d (q1 p1))] [(1,.row 3 1 (List.map e3 l5)),(0,.var 29 (cv29 b))] 2 0) ?_
          refine r_lenX rfl rfl lenm ?_
          refine aX 2 (sT [(1,.d (q1 hair)),(2,.d (q1 order)),pR 4 0,(9,.own 1 (List.map e3 l5).length),(10,jI set_2),(11,jI i),(12,.d (q1 p1)),(13,.d (.bool ok)),(15,jI k1),(64,.d (.bool (decide (k1<(p1.length:Int)))))] [(1,.row 3 1 (List.map e3 l5)),(0,.var 29 (cv29 b))] 2 0) ?_
          obtain rfl:=Option.some.inj h
          refine RunC.finJ (Can.kp (by kernel_rfl))
         ·have h:=ifF hb_32 hx_31
          refine aX 5 (sT [(1,.d (q1 hair)),(2,.d (q1 order)),pR 4 0,(9,.own 1 (List.map e3 l5).length),(10,jI set_2),(11,jI i),(12,.d (q1 p1)),(13,.d (.bool ok)),(15,jI k1),(64,.d (.bool false))] [(1,.row 3 1 (List.map e3 l5)),(0,.var 29 (cv29 b))] 2 0) ?_
          obtain rfl:=Option.some.inj h
          refine RunC.finJ (Can.kp (by kernel_rfl))
        ·refine RW.nil (hQ_30 _ ?_)
         refine AW.cond rfl (fun hb_33=>?_) (fun hb_33=>?_)
         ·have h:=ifT hb_33 h
          refine AW.skip (hK_29 _ ?_)
          refine AW.seqK (fun K_34 hK_34=>?_)
          refine AW.block ?_
          refine AW.drw fokW ?_
          refine aX 2 (sT [(1,.d (q1 hair)),(2,.d (q1 order)),pR 4 0,(9,.own 1 (List.map e3 l5).length),(10,jI set_2),(11,jI i),(12,.d (q1 p1)),(13,.d (.bool ok)),(15,jI k1),(67,.own 1 (List.map e3 l5).length),(68,jI k1)] [(1,.row 3 1 (List.map e3 l5)),(0,.var 29 (cv29 b))] 2 0) ?_
          obtain ⟨p4,hv_36,h⟩:=bsome h
          refine r_iaO trivial rfl rfl rfl (ixL_ok hv_36).1 (ix_lt (ixL_ok hv_36).2) rfl ?_
          refine r_loadE trivial rfl rfl rfl (mapget (f:=e3) (ixL_ok hv_36).2) rfl ?_
          refine aX 2 (sT [(1,.d (q1 hair)),(2,.d (q1 order)),pR 4 0,(9,.own 1 (List.map e3 l5).length),(10,jI set_2),(11,jI i),(12,.d (q1 p1)),(13,.d (.bool ok)),(15,jI k1),(67,.own 1 (List.map e3 l5).length),(68,jI k1),(70,jI p4),(71,.d (q1 p1)),(72,jI k1)] [(1,.row 3 1 (List.map e3 l5)),(0,.var 29 (cv29 b))] 2 0) ?_
          obtain ⟨p5,hv_37,h⟩:=bsome h
          refine r_iaD trivial rfl rfl (ixL_ok hv_37).1 (row:=e3 p5) (mapget (ixL_ok hv_37).2) ?_
          refine aX 2 (sT [(1,.d (q1 hair)),(2,.d (q1 order)),pR 4 0,(9,.own 1 (List.map e3 l5).length),(10,jI set_2),(11,jI i),(12,.d (q1 p1)),(13,.d (.bool ok)),(15,jI k1),(67,.own 1 (List.map e3 l5).length),(68,jI k1),(75,jI (wr (p4 - p5)))] [(1,.row 3 1 (List.map e3 l5)),(0,.var 29 (cv29 b))] 2 0) ?_
          refine r_iaO trivial rfl rfl rfl (ixL_ok hv_36).1 (ix_lt (ixL_ok hv_36).2) rfl ?_
          refine r_stE trivial rfl rfl rfl rfl (mapget (f:=e3) (ixL_ok hv_36).2) rfl rfl rfl (Nat.le_of_ble_eq_true rfl) (stz (f:=e3) (x:=(wr (p4 - p5))) rfl) ?_
          rw [lenset (f:=e3) (xs:=l5) (i:=k1) (x:=(wr (p4 - p5)))]
          refine Fi (sT [(1,.d (q1 hair)),(2,.d (q1 order)),pR 4 0,(9,.own 1 (List.map e3 (setL l5 k1 (wr (p4 - p5)))).length),(10,jI set_2),(11,jI i),(12,.d (q1 p1)),(13,.d (.bool ok)),(15,jI k1)] [(1,.row 3 1 (List.map e3 (setL l5 k1 (wr (p4 - p5))))),(0,.var 29 (cv29 b))] 2 0) ?_
          refine hK_34 _ ?_
          refine Ra (sT [(1,.d (q1 hair)),(2,.d (q1 order)),pR 4 0,(9,.own 1 (List.map e3 (setL l5 k1 (wr (p4 - p5)))).length),(10,jI set_2),(11,jI i),(12,.d (q1 p1)),(13,.d (.bool ok)),(15,jI (wr (k1+1)))] [(1,.row 3 1 (List.map e3 (setL l5 k1 (wr (p4 - p5))))),(0,.var 29 (cv29 b))] 2 0) ?_
          obtain rfl:=Option.some.inj h
          exact hK_28 _ _ rfl (Can.kp (by kernel_rfl))
         ·have h:=ifF hb_33 h
          refine AW.exit ?_
          obtain rfl:=Option.some.inj h
          obtain rfl:=hb_28 _ rfl
          exact hK_27 _ (Can.kp (by kernel_rfl))
       ·obtain rfl:=Option.some.inj h
        exact hK_26 _ (Can.kp (by kernel_rfl))
      ·refine Sa (sT [(1,.d (q1 hair)),(2,.d (q1 order)),pR 4 0,(9,.own 1 (List.map e3 l3).length),(10,jI set_2),(11,jI i),(77,.d (.bool ok))] [(1,.row 3 1 (List.map e3 l3)),(0,.var 29 (cv29 b))] 2 0) ?_
       refine AW.cond rfl (fun hb_38=>?_) (fun hb_38=>?_)
       ·have h:=ifT hb_38 h
        refine AW.rw ?_
        refine Au 3 (sT [(1,.d (q1 hair)),(2,.d (q1 order)),pR 4 0,(9,.own 1 (List.map e3 l3).length),(11,jI i),(78,jI set_2),(79,.d (q1 order)),(80,jI i)] [(1,.row 3 1 (List.map e3 l3)),(0,.var 29 (cv29 b))] 2 0) ?_
        refine RW.one fokW (r_iaD trivial rfl rfl hi_5 (row:=e3 p) (mapget hp_5) (r_end ?_))
        refine Au 1 (sT [(1,.d (q1 hair)),(2,.d (q1 order)),pR 4 0,(9,.own 1 (List.map e3 l3).length),(11,jI i),(78,jI set_2),(82,jI p)] [(1,.row 3 1 (List.map e3 l3)),(0,.var 29 (cv29 b))] 2 0) ?_
        obtain ⟨_,hv_40,h⟩:=bsome h
        refine RW.one fokW (r_sh trivial rfl rfl (shl64_ok (of_decide_eq_true (must_ok hv_40))) (r_end ?_))
        refine Au 2 (sT [(1,.d (q1 hair)),(2,.d (q1 order)),pR 4 0,(9,.own 1 (List.map e3 l3).length),(10,jI (bOr set_2 (shl64 1 p))),(11,jI i)] [(1,.row 3 1 (List.map e3 l3)),(0,.var 29 (cv29 b))] 2 0) ?_
        refine RW.nil ?_
        obtain rfl:=Option.some.inj h
        exact hK_9 _ (Can.kp (by kernel_rfl))
       ·have h:=ifF hb_38 h
        refine AW.skip ?_
        obtain rfl:=Option.some.inj h
        exact hK_9 _ (Can.kp (by kernel_rfl))
    ·obtain ⟨set_3,l2⟩:=c_9
     refine Ra (sT [(1,.d (q1 hair)),(2,.d (q1 order)),pR 4 0,(9,.own 1 (List.map e3 l2).length),(10,jI set_3),(11,jI (wr (i+1)))] [(1,.row 3 1 (List.map e3 l2)),(0,.var 29 (cv29 b))] 2 0) ?_
     obtain rfl:=Option.some.inj h
     have ew:wr (i+1)=i+1:=inext (N:=(order.length:Int)) (by omega) (by omega) (by omega)
     rw [ew]
     exact hK_5 _ (Can.kp (by kernel_rfl))
   ·obtain ⟨set_2,l1⟩:=s_5
    subst hout
    refine AW.seqK fun K_41 hK_41=>AW.srwK fun Q_42 hQ_42=>?_
    refine Au 2 (sT [(1,.d (q1 hair)),(2,.d (q1 order)),pR 4 0,(9,.own 1 (List.map e3 l1).length),(10,jI set_2),(11,jI i),(19,jI i),(20,.d (q1 order))] [(1,.row 3 1 (List.map e3 l1)),(0,.var 29 (cv29 b))] 2 0) ?_
    refine rL rfl ?_
    refine Au 1 (sT [(1,.d (q1 hair)),(2,.d (q1 order)),pR 4 0,(9,.own 1 (List.map e3 l1).length),(10,jI set_2),(11,jI i),(22,.d (.bool (decide (i<(order.length:Int)))))] [(1,.row 3 1 (List.map e3 l1)),(0,.var 29 (cv29 b))] 2 0) ?_
    refine RW.nil (hQ_42 _ ?_)
    refine AW.cond rfl (fun hb_43=>False.elim (by have:=of_decide_eq_true hb_43;omega)) (fun hb_43=>?_)
    refine AW.exit ?_
    obtain rfl:=Option.some.inj h
    exact hK_4 _ (Can.kp (by kernel_rfl))
  ·obtain rfl:=Option.some.inj h
   exact hK_3 _ (Can.kp (by kernel_rfl))
 ·refine Sa (sT [(8,jI set_)] [] 2 0) ?_
  obtain rfl:=Option.some.inj h
  exact rT hR_0 (.cons (.tmp rfl) .nil)
def g64_4 (b:HarnessBook) (hair:(List Int)) (order:(List Int)):Int→(List Int)→(List Int)→Option (List Int):=fun i p l=>(g95 b hair order p).bind fun r0=>(appL 8 l [r0]).bind fun l1=>some l1
def g64 (b:HarnessBook) (hair:(List Int)) (order:(List Int)):Option (List Int):=(g94 1000 b ([]:(List Int))).bind fun r0_3=>(eachS (g64_4 b hair order) r0_3 0 ([]:List Int)).bind fun l=>some l
theorem k64 (b:HarnessBook) (hair:(List Int)) (order:(List Int)) (r:(List Int)) (h:g64 b hair order=some r):SCall Tryd.prog Gs 64 [.agg (cv29 b),.d (q1 hair),.d (q1 order)] [] 0 Fr.emp (.d (q1 r)) [] 0 Fr.emp:=by
 unfold g64 at h
 refine SCall.mkK Tryd.func64 c64 rfl rfl (by kernel_rfl) (fun Q_0 hR_0 hN_0=>?_)
 refine Sa (sT [(1,.d (q1 hair)),(2,.d (q1 order)),pR 3 0] [(0,.var 29 (cv29 b))] 1 0) ?_
 refine Sa (sT [(1,.d (q1 hair)),(2,.d (q1 order)),pR 3 0,(7,.d (.nilSl))] [(0,.var 29 (cv29 b))] 1 0) ?_
 refine AW.srwK (fun Q_1 hQ_1=>?_)
 refine Au 1 (sT [(1,.d (q1 hair)),(2,.d (q1 order)),pR 3 0,(7,.d (.nilSl)),(10,.agg (cv29 b))] [(0,.var 29 (cv29 b))] 1 0) ?_
 obtain ⟨r0_3,hx_2,h⟩:=bsome h
 refine RW.one fokW (r_callZ (zr:=[]) trivial rfl (k94 1000 b ([]:(List Int)) _ hx_2) trivial ⟨.refl _,(.nil 1),trivial⟩ rfl rfl rfl rfl (r_end ?_))
 refine Au 1 (sT [(1,.d (q1 hair)),(2,.d (q1 order)),pR 3 0,(7,.d (.nilSl)),(8,.d (.sl 1 (List.map e30 r0_3)))] [(0,.var 29 (cv29 b))] 1 0) ?_
 refine RW.nil (hQ_1 _ ?_)
 refine AW.seqK (fun K_3 hK_3=>?_)
 refine Sa (sT [(1,.d (q1 hair)),(2,.d (q1 order)),pR 3 0,(7,.d (.nilSl)),(8,.d (.sl 1 (List.map e30 r0_3))),(9,jI 0)] [(0,.var 29 (cv29 b))] 1 0) ?_
 refine AW.block ?_
 refine AW.sln (t:=8) rfl (fun hN_4=>?_)
 rw [List.length_map] at hN_4
 obtain ⟨out_4,hx_4,h⟩:=bsome h
 refine AW.evSK (fun (i:Int) (l:List Int)=>(sT [(1,.d (q1 hair)),(2,.d (q1 order)),pR 3 0,(7,.own 1 (List.map e3 l).length),(8,.d (.sl 1 (List.map e30 r0_3))),(9,jI i)] [(1,.row 3 1 (List.map e3 l)),(0,.var 29 (cv29 b))] 2 0)) (g64_4 b hair order) hx_4 (Can.trans (Can.thawT 7 3 1 rfl rfl) (Can.kp (by kernel_rfl))) (fun i p l hi_4 hl_4 hp_4 c_4 h K_4 hK_4=>?_) (fun i l hi_4 hl_4 hout=>?_)
 ·unfold g64_4 at h
  refine AW.seqK fun K_5 hK_5=>AW.srwK fun Q_6 hQ_6=>?_
  refine Au 2 (sT [(1,.d (q1 hair)),(2,.d (q1 order)),pR 3 0,(7,.own 1 (List.map e3 l).length),(8,.d (.sl 1 (List.map e30 r0_3))),(9,jI i),(12,jI i),(13,.d (.sl 1 (List.map e30 r0_3)))] [(1,.row 3 1 (List.map e3 l)),(0,.var 29 (cv29 b))] 2 0) ?_
  refine rL rfl ?_
  refine Au 1 (sT [(1,.d (q1 hair)),(2,.d (q1 order)),pR 3 0,(7,.own 1 (List.map e3 l).length),(8,.d (.sl 1 (List.map e30 r0_3))),(9,jI i),(15,.d (.bool (decide (i<(r0_3.length:Int)))))] [(1,.row 3 1 (List.map e3 l)),(0,.var 29 (cv29 b))] 2 0) ?_
  refine RW.nil (hQ_6 _ ?_)
  refine AW.cond rfl (fun hb_7=>?_) (fun hb_7=>False.elim (by have:=of_decide_eq_false hb_7;omega))
  refine AW.skip (hK_5 _ ?_)
  refine AW.seqK (fun K_8 hK_8=>?_)
  refine AW.block ?_
  refine AW.drw fokW ?_
  refine aX 6 (sT [(1,.d (q1 hair)),(2,.d (q1 order)),pR 3 0,(8,.d (.sl 1 (List.map e30 r0_3))),(9,jI i),(18,.own 1 (List.map e3 l).length),(19,.agg (cv29 b)),(20,.d (q1 hair)),(21,.d (q1 order)),(22,.d (.sl 1 (List.map e30 r0_3))),(23,jI i)] [(1,.row 3 1 (List.map e3 l)),(0,.var 29 (cv29 b))] 2 0) ?_
  refine r_iaD trivial rfl rfl hi_4 (row:=e30 p) (mapget hp_4) ?_
  refine aX 1 (sT [(1,.d (q1 hair)),(2,.d (q1 order)),pR 3 0,(8,.d (.sl 1 (List.map e30 r0_3))),(9,jI i),(18,.own 1 (List.map e3 l).length),(19,.agg (cv29 b)),(20,.d (q1 hair)),(21,.d (q1 order)),(25,.d (q1 p))] [(1,.row 3 1 (List.map e3 l)),(0,.var 29 (cv29 b))] 2 0) ?_
  obtain ⟨r0,hx_10,h⟩:=bsome h
  refine r_call trivial rfl (k95 b hair order p _ hx_10) rfl rfl ?_
  refine aX 1 (sT [(1,.d (q1 hair)),(2,.d (q1 order)),pR 3 0,(8,.d (.sl 1 (List.map e30 r0_3))),(9,jI i),(18,.own 1 (List.map e3 l).length),(27,.own 2 (List.map e3 [r0]).length)] [(2,.row 3 1 (List.map e3 [r0])),(1,.row 3 1 (List.map e3 l)),(0,.var 29 (cv29 b))] 3 0) ?_
  obtain ⟨l1,hv_11,h⟩:=bsome h
  refine r_apO trivial rfl rfl rfl rfl rfl rfl (apz hv_11 e3) (apr hv_11 e3) ?_
  refine aX 1 (sT [(1,.d (q1 hair)),(2,.d (q1 order)),pR 3 0,(7,.own 1 (List.map e3 l1).length),(8,.d (.sl 1 (List.map e30 r0_3))),(9,jI i)] [(1,.row 3 1 (List.map e3 l1)),(2,.row 3 1 (List.map e3 [r0])),(0,.var 29 (cv29 b))] 3 0) ?_
  refine Fi (sT [(1,.d (q1 hair)),(2,.d (q1 order)),pR 3 0,(7,.own 1 (List.map e3 l1).length),(8,.d (.sl 1 (List.map e30 r0_3))),(9,jI i)] [(1,.row 3 1 (List.map e3 l1)),(0,.var 29 (cv29 b))] 3 0) ?_
  refine hK_8 _ ?_
  refine Ra (sT [(1,.d (q1 hair)),(2,.d (q1 order)),pR 3 0,(7,.own 1 (List.map e3 l1).length),(8,.d (.sl 1 (List.map e30 r0_3))),(9,jI (wr (i+1)))] [(1,.row 3 1 (List.map e3 l1)),(0,.var 29 (cv29 b))] 3 0) ?_
  obtain rfl:=Option.some.inj h
  have ew:wr (i+1)=i+1:=inext (N:=(r0_3.length:Int)) (by omega) (by omega) (by omega)
  rw [ew]
  exact hK_4 _ (Can.kp (by kernel_rfl))
 ·subst hout
  refine AW.seqK fun K_12 hK_12=>AW.srwK fun Q_13 hQ_13=>?_
  refine Au 2 (sT [(1,.d (q1 hair)),(2,.d (q1 order)),pR 3 0,(7,.own 1 (List.map e3 l).length),(8,.d (.sl 1 (List.map e30 r0_3))),(9,jI i),(12,jI i),(13,.d (.sl 1 (List.map e30 r0_3)))] [(1,.row 3 1 (List.map e3 l)),(0,.var 29 (cv29 b))] 2 0) ?_
  refine rL rfl ?_
  refine Au 1 (sT [(1,.d (q1 hair)),(2,.d (q1 order)),pR 3 0,(7,.own 1 (List.map e3 l).length),(8,.d (.sl 1 (List.map e30 r0_3))),(9,jI i),(15,.d (.bool (decide (i<(r0_3.length:Int)))))] [(1,.row 3 1 (List.map e3 l)),(0,.var 29 (cv29 b))] 2 0) ?_
  refine RW.nil (hQ_13 _ ?_)
  refine AW.cond rfl (fun hb_14=>False.elim (by have:=of_decide_eq_true hb_14;omega)) (fun hb_14=>?_)
  refine AW.exit ?_
  refine hK_3 _ ?_
  refine Sa (sT [(6,.own 1 (List.map e3 l).length)] [(1,.row 3 1 (List.map e3 l))] 2 0) ?_
  obtain rfl:=Option.some.inj h
  exact AW.ret (hR_0 _ (retX (.cons (.tmp rfl) .nil) (.own rfl rfl) rfl (by kernel_rfl) (by kernel_rfl)))
def g63_4:Int→Int→Int→Option Int:=fun i p1 set_=>some (bAnd set_ p1)
def g63 (b:HarnessBook) (l:(List Int)):Option (List Int):=(ixL l 0).bind fun p=>(eachS g63_4 l 0 p).bind fun set_=>(g74 set_ (b.Needs.length:Int)).bind fun r0_1=>some r0_1
theorem k63 (b:HarnessBook) (l:(List Int)) (r:(List Int)) (h:g63 b l=some r):SCall Tryd.prog Gs 63 [.agg (cv29 b),.d (q1 l)] [] 0 Fr.emp (.d (q1 r)) [] 0 Fr.emp:=by
 unfold g63 at h
 refine SCall.mkK Tryd.func63 c63 rfl rfl (by kernel_rfl) (fun Q_0 hR_0 hN_0=>?_)
 refine Sa (sT [(1,.d (q1 l)),pR 2 0] [(0,.var 29 (cv29 b))] 1 0) ?_
 refine AW.srwK (fun Q_1 hQ_1=>?_)
 refine Au 1 (sT [(1,.d (q1 l)),pR 2 0,(7,.d (q1 l))] [(0,.var 29 (cv29 b))] 1 0) ?_
 obtain ⟨p,hv_2,h⟩:=bsome h
 refine RW.one fokW (r_iaD trivial rfl rfl (ixL_ok hv_2).1 (row:=e3 p) (mapget (ixL_ok hv_2).2) (r_end ?_))
 refine Au 2 (sT [(1,.d (q1 l)),pR 2 0,(5,jI p)] [(0,.var 29 (cv29 b))] 1 0) ?_
 refine RW.nil (hQ_1 _ ?_)
 refine AW.seqK (fun K_3 hK_3=>?_)
 refine Sa (sT [(1,.d (q1 l)),pR 2 0,(5,jI p),(6,jI 0)] [(0,.var 29 (cv29 b))] 1 0) ?_
 refine AW.block ?_
 refine AW.sln (t:=1) rfl (fun hN_4=>?_)
 rw [List.length_map] at hN_4
 obtain ⟨out_4,hx_4,h⟩:=bsome h
 refine AW.evSK (fun (i:Int) (set_:Int)=>(sT [(1,.d (q1 l)),pR 2 0,(5,jI set_),(6,jI i)] [(0,.var 29 (cv29 b))] 1 0)) g63_4 hx_4 (Can.kp (by kernel_rfl)) (fun i p1 set_ hi_4 hl_4 hp_4 c_4 h K_4 hK_4=>?_) (fun i set_ hi_4 hl_4 hout=>?_)
 ·unfold g63_4 at h
  refine AW.seqK fun K_5 hK_5=>AW.srwK fun Q_6 hQ_6=>?_
  refine Au 2 (sT [(1,.d (q1 l)),pR 2 0,(5,jI set_),(6,jI i),(10,jI i),(11,.d (q1 l))] [(0,.var 29 (cv29 b))] 1 0) ?_
  refine rL rfl ?_
  refine Au 1 (sT [(1,.d (q1 l)),pR 2 0,(5,jI set_),(6,jI i),(13,.d (.bool (decide (i<(l.length:Int)))))] [(0,.var 29 (cv29 b))] 1 0) ?_
  refine RW.nil (hQ_6 _ ?_)
  refine AW.cond rfl (fun hb_7=>?_) (fun hb_7=>False.elim (by have:=of_decide_eq_false hb_7;omega))
  refine AW.skip (hK_5 _ ?_)
  refine AW.seqK (fun K_8 hK_8=>?_)
  refine AW.block ?_
  refine AW.rw ?_
  refine Au 3 (sT [(1,.d (q1 l)),pR 2 0,(6,jI i),(16,jI set_),(17,.d (q1 l)),(18,jI i)] [(0,.var 29 (cv29 b))] 1 0) ?_
  refine RW.one fokW (r_iaD trivial rfl rfl hi_4 (row:=e3 p1) (mapget hp_4) (r_end ?_))
  refine Au 3 (sT [(1,.d (q1 l)),pR 2 0,(5,jI (bAnd set_ p1)),(6,jI i)] [(0,.var 29 (cv29 b))] 1 0) ?_
  refine RW.nil ?_
  refine hK_8 _ ?_
  refine Ra (sT [(1,.d (q1 l)),pR 2 0,(5,jI (bAnd set_ p1)),(6,jI (wr (i+1)))] [(0,.var 29 (cv29 b))] 1 0) ?_
  obtain rfl:=Option.some.inj h
  have ew:wr (i+1)=i+1:=inext (N:=(l.length:Int)) (by omega) (by omega) (by omega)
  rw [ew]
  exact hK_4 _ (Can.kp (by kernel_rfl))
 ·subst hout
  refine AW.seqK fun K_10 hK_10=>AW.srwK fun Q_11 hQ_11=>?_
  refine Au 2 (sT [(1,.d (q1 l)),pR 2 0,(5,jI set_),(6,jI i),(10,jI i),(11,.d (q1 l))] [(0,.var 29 (cv29 b))] 1 0) ?_
  refine rL rfl ?_
  refine Au 1 (sT [(1,.d (q1 l)),pR 2 0,(5,jI set_),(6,jI i),(13,.d (.bool (decide (i<(l.length:Int)))))] [(0,.var 29 (cv29 b))] 1 0) ?_
  refine RW.nil (hQ_11 _ ?_)
  refine AW.cond rfl (fun hb_12=>False.elim (by have:=of_decide_eq_true hb_12;omega)) (fun hb_12=>?_)
  refine AW.exit ?_
  refine hK_3 _ ?_
  refine AW.srwK (fun Q_13 hQ_13=>?_)
  refine Au 3 (sT [(22,jI set_),(24,.d (.sl 1 (List.map e30 b.Needs)))] [] 1 0) ?_
  refine rL rfl ?_
  obtain ⟨r0_1,hx_14,h⟩:=bsome h
  refine rC (k74 set_ (b.Needs.length:Int) _ hx_14) ?_
  refine Au 1 (sT [(4,.d (q1 r0_1))] [] 1 0) ?_
  refine RW.nil (hQ_13 _ ?_)
  obtain rfl:=Option.some.inj h
  exact rT hR_0 (.cons (.tmp rfl) .nil)
def g16 (b:HarnessBook):Option ((List Int)×Int):=(g19 b).bind fun r0_6=>bif (decide (r0_6≠0)) then (some ([],r0_6)) else ((g65 b).bind fun r0=>(g66 b).bind fun r0_1=>(g64 b r0 r0_1).bind fun r0_1_1=>(g63 b r0_1_1).bind fun r0_2=>some (r0_2,0))
theorem k16 (b:HarnessBook) (r:(List Int)×Int) (h:g16 b=some r):SCall Tryd.prog Gs 16 [.agg (cv29 b)] [] 0 Fr.emp (match r with | (r0_4,r1_1)=>.tup [.d (q1 r0_4),jI r1_1]) [] 0 Fr.emp:=by
 unfold g16 at h
 refine SCall.mkK Tryd.func16 c16 rfl rfl (by kernel_rfl) (fun Q_0 hR_0 hN_0=>?_)
 refine Sa (sT [pR 1 0] [(0,.var 29 (cv29 b))] 1 0) ?_
 refine AW.seqK fun K_1 hK_1=>AW.srwK fun Q_2 hQ_2=>?_
 refine Au 1 (sT [pR 1 0,(5,.agg (cv29 b))] [(0,.var 29 (cv29 b))] 1 0) ?_
 obtain ⟨r0_6,hx_3,h⟩:=bsome h
 refine rC (k19 b _ hx_3) ?_
 refine Au 1 (sT [pR 1 0,(4,jI r0_6)] [(0,.var 29 (cv29 b))] 1 0) ?_
 refine RW.nil (hQ_2 _ ?_)
 refine Sa (sT [pR 1 0,(4,jI r0_6),(8,.d (.bool (decide (r0_6≠0))))] [(0,.var 29 (cv29 b))] 1 0) ?_
 refine AW.cond rfl (fun hb_4=>?_) (fun hb_4=>?_)
 ·have h:=ifT hb_4 h
  refine Sa (sT [(2,.d (.nilSl)),(3,jI r0_6)] [] 1 0) ?_
  obtain rfl:=Option.some.inj h
  exact AW.ret (hR_0 _ (retX (.cons (.tmp rfl) (.cons (.tmp rfl) .nil)) (Frz.tup_of ⟨.nil 1,.refl _,trivial⟩) rfl (by kernel_rfl) (by kernel_rfl)))
 ·have h:=ifF hb_4 h
  refine AW.skip (hK_1 _ ?_)
  refine AW.sdrwK fokW (fun Q_5 hQ_5=>?_)
  refine aX 3 (sT [pR 1 0,(10,.agg (cv29 b)),(11,.agg (cv29 b)),(12,.agg (cv29 b))] [(0,.var 29 (cv29 b))] 1 0) ?_
  obtain ⟨r0,hx_6,h⟩:=bsome h
  refine r_call trivial rfl (k65 b _ hx_6) rfl rfl ?_
  refine aX 1 (sT [(10,.agg (cv29 b)),(11,.agg (cv29 b)),(13,.d (q1 r0)),(14,.agg (cv29 b))] [(0,.var 29 (cv29 b))] 1 0) ?_
  obtain ⟨r0_1,hx_7,h⟩:=bsome h
  refine r_call trivial rfl (k66 b _ hx_7) rfl rfl ?_
  obtain ⟨r0_1_1,hx_8,h⟩:=bsome h
  refine r_call trivial rfl (k64 b r0 r0_1 _ hx_8) rfl rfl ?_
  obtain ⟨r0_2,hx_9,h⟩:=bsome h
  refine r_call trivial rfl (k63 b r0_1_1 _ hx_9) rfl rfl ?_
  refine aX 2 (sT [(2,.d (q1 r0_2)),(3,jI 0)] [(0,.var 29 (cv29 b))] 1 0) ?_
  refine Fi (sT [(2,.d (q1 r0_2)),(3,jI 0)] [] 1 0) ?_
  refine hQ_5 _ ?_
  obtain rfl:=Option.some.inj h
  exact rT hR_0 (.cons (.tmp rfl) (.cons (.tmp rfl) .nil))
def g71_2:Int→Int→Int→Option Int:=fun i p set_=>some (bOr set_ p)
def g71 (b:HarnessBook) (l:(List Int)):Option (List Int):=(eachS g71_2 l 0 0).bind fun set_=>(g74 set_ (b.Needs.length:Int)).bind fun r0_1=>some r0_1
theorem k71 (b:HarnessBook) (l:(List Int)) (r:(List Int)) (h:g71 b l=some r):SCall Tryd.prog Gs 71 [.agg (cv29 b),.d (q1 l)] [] 0 Fr.emp (.d (q1 r)) [] 0 Fr.emp:=by
 unfold g71 at h
 refine SCall.mkK Tryd.func71 c71 rfl rfl (by kernel_rfl) (fun Q_0 hR_0 hN_0=>?_)
 refine Sa (sT [(1,.d (q1 l)),pR 2 0] [(0,.var 29 (cv29 b))] 1 0) ?_
 refine Sa (sT [(1,.d (q1 l)),pR 2 0,(5,jI 0)] [(0,.var 29 (cv29 b))] 1 0) ?_
 refine AW.seqK (fun K_1 hK_1=>?_)
 refine Sa (sT [(1,.d (q1 l)),pR 2 0,(5,jI 0),(6,jI 0)] [(0,.var 29 (cv29 b))] 1 0) ?_
 refine AW.block ?_
 refine AW.sln (t:=1) rfl (fun hN_2=>?_)
 rw [List.length_map] at hN_2
 obtain ⟨out_2,hx_2,h⟩:=bsome h
 refine AW.evSK (fun (i:Int) (set_:Int)=>(sT [(1,.d (q1 l)),pR 2 0,(5,jI set_),(6,jI i)] [(0,.var 29 (cv29 b))] 1 0)) g71_2 hx_2 (Can.kp (by kernel_rfl)) (fun i p set_ hi_2 hl_2 hp_2 c_2 h K_2 hK_2=>?_) (fun i set_ hi_2 hl_2 hout=>?_)
 ·unfold g71_2 at h
  refine AW.seqK fun K_3 hK_3=>AW.srwK fun Q_4 hQ_4=>?_
  refine Au 2 (sT [(1,.d (q1 l)),pR 2 0,(5,jI set_),(6,jI i),(7,jI i),(8,.d (q1 l))] [(0,.var 29 (cv29 b))] 1 0) ?_
  refine rL rfl ?_
  refine Au 1 (sT [(1,.d (q1 l)),pR 2 0,(5,jI set_),(6,jI i),(10,.d (.bool (decide (i<(l.length:Int)))))] [(0,.var 29 (cv29 b))] 1 0) ?_
  refine RW.nil (hQ_4 _ ?_)
  refine AW.cond rfl (fun hb_5=>?_) (fun hb_5=>False.elim (by have:=of_decide_eq_false hb_5;omega))
  refine AW.skip (hK_3 _ ?_)
  refine AW.seqK (fun K_6 hK_6=>?_)
  refine AW.block ?_
  refine AW.rw ?_
  refine Au 3 (sT [(1,.d (q1 l)),pR 2 0,(6,jI i),(13,jI set_),(14,.d (q1 l)),(15,jI i)] [(0,.var 29 (cv29 b))] 1 0) ?_
  refine RW.one fokW (r_iaD trivial rfl rfl hi_2 (row:=e3 p) (mapget hp_2) (r_end ?_))
  refine Au 3 (sT [(1,.d (q1 l)),pR 2 0,(5,jI (bOr set_ p)),(6,jI i)] [(0,.var 29 (cv29 b))] 1 0) ?_
  refine RW.nil ?_
  refine hK_6 _ ?_
  refine Ra (sT [(1,.d (q1 l)),pR 2 0,(5,jI (bOr set_ p)),(6,jI (wr (i+1)))] [(0,.var 29 (cv29 b))] 1 0) ?_
  obtain rfl:=Option.some.inj h
  have ew:wr (i+1)=i+1:=inext (N:=(l.length:Int)) (by omega) (by omega) (by omega)
  rw [ew]
  exact hK_2 _ (Can.kp (by kernel_rfl))
 ·subst hout
  refine AW.seqK fun K_8 hK_8=>AW.srwK fun Q_9 hQ_9=>?_
  refine Au 2 (sT [(1,.d (q1 l)),pR 2 0,(5,jI set_),(6,jI i),(7,jI i),(8,.d (q1 l))] [(0,.var 29 (cv29 b))] 1 0) ?_
  refine rL rfl ?_
  refine Au 1 (sT [(1,.d (q1 l)),pR 2 0,(5,jI set_),(6,jI i),(10,.d (.bool (decide (i<(l.length:Int)))))] [(0,.var 29 (cv29 b))] 1 0) ?_
  refine RW.nil (hQ_9 _ ?_)
  refine AW.cond rfl (fun hb_10=>False.elim (by have:=of_decide_eq_true hb_10;omega)) (fun hb_10=>?_)
  refine AW.exit ?_
  refine hK_1 _ ?_
  refine AW.srwK (fun Q_11 hQ_11=>?_)
  refine Au 3 (sT [(19,jI set_),(21,.d (.sl 1 (List.map e30 b.Needs)))] [] 1 0) ?_
  refine rL rfl ?_
  obtain ⟨r0_1,hx_12,h⟩:=bsome h
  refine rC (k74 set_ (b.Needs.length:Int) _ hx_12) ?_
  refine Au 1 (sT [(4,.d (q1 r0_1))] [] 1 0) ?_
  refine RW.nil (hQ_11 _ ?_)
  obtain rfl:=Option.some.inj h
  exact rT hR_0 (.cons (.tmp rfl) .nil)
def g21 (b:HarnessBook):Option ((List Int)×Int):=(g19 b).bind fun r0_6=>bif (decide (r0_6≠0)) then (some ([],r0_6)) else ((g65 b).bind fun r0=>(g66 b).bind fun r0_1=>(g64 b r0 r0_1).bind fun r0_1_1=>(g71 b r0_1_1).bind fun r0_2=>some (r0_2,0))
theorem k21 (b:HarnessBook) (r:(List Int)×Int) (h:g21 b=some r):SCall Tryd.prog Gs 21 [.agg (cv29 b)] [] 0 Fr.emp (match r with | (r0_4,r1_1)=>.tup [.d (q1 r0_4),jI r1_1]) [] 0 Fr.emp:=by
 unfold g21 at h
 refine SCall.mkK Tryd.func21 c21 rfl rfl (by kernel_rfl) (fun Q_0 hR_0 hN_0=>?_)
 refine Sa (sT [pR 1 0] [(0,.var 29 (cv29 b))] 1 0) ?_
 refine AW.seqK fun K_1 hK_1=>AW.srwK fun Q_2 hQ_2=>?_
 refine Au 1 (sT [pR 1 0,(5,.agg (cv29 b))] [(0,.var 29 (cv29 b))] 1 0) ?_
 obtain ⟨r0_6,hx_3,h⟩:=bsome h
 refine rC (k19 b _ hx_3) ?_
 refine Au 1 (sT [pR 1 0,(4,jI r0_6)] [(0,.var 29 (cv29 b))] 1 0) ?_
 refine RW.nil (hQ_2 _ ?_)
 refine Sa (sT [pR 1 0,(4,jI r0_6),(8,.d (.bool (decide (r0_6≠0))))] [(0,.var 29 (cv29 b))] 1 0) ?_
 refine AW.cond rfl (fun hb_4=>?_) (fun hb_4=>?_)
 ·have h:=ifT hb_4 h
  refine Sa (sT [(2,.d (.nilSl)),(3,jI r0_6)] [] 1 0) ?_
  obtain rfl:=Option.some.inj h
  exact AW.ret (hR_0 _ (retX (.cons (.tmp rfl) (.cons (.tmp rfl) .nil)) (Frz.tup_of ⟨.nil 1,.refl _,trivial⟩) rfl (by kernel_rfl) (by kernel_rfl)))
 ·have h:=ifF hb_4 h
  refine AW.skip (hK_1 _ ?_)
  refine AW.sdrwK fokW (fun Q_5 hQ_5=>?_)
  refine aX 3 (sT [pR 1 0,(10,.agg (cv29 b)),(11,.agg (cv29 b)),(12,.agg (cv29 b))] [(0,.var 29 (cv29 b))] 1 0) ?_
  obtain ⟨r0,hx_6,h⟩:=bsome h
  refine r_call trivial rfl (k65 b _ hx_6) rfl rfl ?_
  refine aX 1 (sT [(10,.agg (cv29 b)),(11,.agg (cv29 b)),(13,.d (q1 r0)),(14,.agg (cv29 b))] [(0,.var 29 (cv29 b))] 1 0) ?_
  obtain ⟨r0_1,hx_7,h⟩:=bsome h
  refine r_call trivial rfl (k66 b _ hx_7) rfl rfl ?_
  obtain ⟨r0_1_1,hx_8,h⟩:=bsome h
  refine r_call trivial rfl (k64 b r0 r0_1 _ hx_8) rfl rfl ?_
  obtain ⟨r0_2,hx_9,h⟩:=bsome h
  refine r_call trivial rfl (k71 b r0_1_1 _ hx_9) rfl rfl ?_
  refine aX 2 (sT [(2,.d (q1 r0_2)),(3,jI 0)] [(0,.var 29 (cv29 b))] 1 0) ?_
  refine Fi (sT [(2,.d (q1 r0_2)),(3,jI 0)] [] 1 0) ?_
  refine hQ_5 _ ?_
  obtain rfl:=Option.some.inj h
  exact rT hR_0 (.cons (.tmp rfl) (.cons (.tmp rfl) .nil))
def g75 (s:Span) (t:Span):Option Span:=(g46 (min s.Low t.Low) (max s.High t.High)).bind fun r0=>some r0
theorem k75 (s:Span) (t:Span) (r:Span) (h:g75 s t=some r):SCall Tryd.prog Gs 75 [.agg [jI s.Low,jI s.High],.agg [jI t.Low,jI t.High]] [] 0 Fr.emp (.agg [jI r.Low,jI r.High]) [] 0 Fr.emp:=by
 unfold g75 at h
 refine SCall.mkK Tryd.func75 c75 rfl rfl (by kernel_rfl) (fun Q_0 hR_0 hN_0=>?_)
 refine Sa (sT [pR 2 0,pR 3 1,pR 4 2] [(2,.var 37 [jI 0,jI 0]),(1,.var 37 [jI t.Low,jI t.High]),(0,.var 37 [jI s.Low,jI s.High])] 3 0) ?_
 refine AW.srwK (fun Q_1 hQ_1=>?_)
 refine Au 10 (sT [pR 4 2,(9,jI (min s.Low t.Low)),(14,jI (max s.High t.High))] [(2,.var 37 [jI 0,jI 0])] 3 0) ?_
 obtain ⟨r0,hx_2,h⟩:=bsome h
 refine rC (k46 (min s.Low t.Low) (max s.High t.High) _ hx_2) ?_
 refine Au 1 (sT [pR 4 2] [(2,.var 37 [jI r0.Low,jI r0.High])] 3 0) ?_
 refine RW.nil (hQ_1 _ ?_)
 obtain rfl:=Option.some.inj h
 exact rT hR_0 (.cons (.agg rfl rfl (Nat.le_of_ble_eq_true rfl)) .nil)
def g23_14 (b:HarnessBook):Int→Int→(Int×Int)→Option (Int×Int):=fun i p1 (Low,High)=>(g74 p1 (b.Needs.length:Int)).bind fun r0_1_3=>(g56 (r0_1_3.length:Int)).bind fun r0_3=>(g75 (Span.mk Low High) r0_3).bind fun r0_1_4=>some (r0_1_4.Low,r0_1_4.High)
def g23 (b:HarnessBook):Option (Span×Int):=(g19 b).bind fun r0_6=>bif (decide (r0_6≠0)) then (some ((Span.mk 0 0),r0_6)) else ((g65 b).bind fun r0=>(g66 b).bind fun r0_1=>(g64 b r0 r0_1).bind fun r0_1_1=>(ixL r0_1_1 0).bind fun p=>(g74 p (b.Needs.length:Int)).bind fun r0_1_2=>(g56 (r0_1_2.length:Int)).bind fun r0_2=>(eachS (g23_14 b) r0_1_1 0 (r0_2.Low,r0_2.High)).bind fun (Low,High)=>some ((Span.mk Low High),0))
def y33 (Low:Int) (High:Int) (b:HarnessBook):List (Nat×Blk):=[(2,.var 37 [jI Low,jI High]),(1,.var 37 [jI 0,jI 0]),(0,.var 29 (cv29 b))]
theorem k23 (b:HarnessBook) (r:Span×Int) (h:g23 b=some r):SCall Tryd.prog Gs 23 [.agg (cv29 b)] [] 0 Fr.emp (match r with | (r0_5,r1_1)=>.tup [.agg [jI r0_5.Low,jI r0_5.High],jI r1_1]) [] 0 Fr.emp:=by
 unfold g23 at h
 refine SCall.mkK Tryd.func23 c23 rfl rfl (by kernel_rfl) (fun Q_0 hR_0 hN_0=>?_)
 refine Sa (sT [pR 1 0,pR 2 1] [(1,.var 37 [jI 0,jI 0]),(0,.var 29 (cv29 b))] 2 0) ?_
 refine AW.seqK fun K_1 hK_1=>AW.srwK fun Q_2 hQ_2=>?_
 refine Au 1 (sT [pR 1 0,pR 2 1,(8,.agg (cv29 b))] [(1,.var 37 [jI 0,jI 0]),(0,.var 29 (cv29 b))] 2 0) ?_
 obtain ⟨r0_6,hx_3,h⟩:=bsome h
 refine rC (k19 b _ hx_3) ?_
 refine Au 1 (sT [pR 1 0,pR 2 1,(4,jI r0_6)] [(1,.var 37 [jI 0,jI 0]),(0,.var 29 (cv29 b))] 2 0) ?_
 refine RW.nil (hQ_2 _ ?_)
 refine Sa (sT [pR 1 0,pR 2 1,(4,jI r0_6),(11,.d (.bool (decide (r0_6≠0))))] [(1,.var 37 [jI 0,jI 0]),(0,.var 29 (cv29 b))] 2 0) ?_
 refine AW.cond rfl (fun hb_4=>?_) (fun hb_4=>?_)
 ·have h:=ifT hb_4 h
  refine Sa (sT [pR 2 1,(3,jI r0_6)] [(1,.var 37 [jI 0,jI 0])] 2 0) ?_
  obtain rfl:=Option.some.inj h
  exact rT hR_0 (.cons (.agg rfl rfl (Nat.le_of_ble_eq_true rfl)) (.cons (.tmp rfl) .nil))
 ·have h:=ifF hb_4 h
  refine AW.skip (hK_1 _ ?_)
  refine AW.sdrwK fokW (fun Q_5 hQ_5=>?_)
  refine aX 2 (sT [pR 1 0,pR 2 1,(14,.agg (cv29 b)),(15,.agg (cv29 b))] [(1,.var 37 [jI 0,jI 0]),(0,.var 29 (cv29 b))] 2 0) ?_
  obtain ⟨r0,hx_6,h⟩:=bsome h
  refine r_call trivial rfl (k65 b _ hx_6) rfl rfl ?_
  refine aX 1 (sT [pR 1 0,pR 2 1,(14,.agg (cv29 b)),(16,.d (q1 r0)),(17,.agg (cv29 b))] [(1,.var 37 [jI 0,jI 0]),(0,.var 29 (cv29 b))] 2 0) ?_
  obtain ⟨r0_1,hx_7,h⟩:=bsome h
  refine r_call trivial rfl (k66 b _ hx_7) rfl rfl ?_
  obtain ⟨r0_1_1,hx_8,h⟩:=bsome h
  refine r_call trivial rfl (k64 b r0 r0_1 _ hx_8) rfl rfl ?_
  refine aX 1 (sT [pR 1 0,pR 2 1,(5,.d (q1 r0_1_1))] [(1,.var 37 [jI 0,jI 0]),(0,.var 29 (cv29 b))] 2 0) ?_
  refine Fi (sT [pR 1 0,pR 2 1,(5,.d (q1 r0_1_1))] [(1,.var 37 [jI 0,jI 0]),(0,.var 29 (cv29 b))] 2 0) ?_
  refine hQ_5 _ ?_
  refine AW.sdrwK fokW (fun Q_9 hQ_9=>?_)
  refine aX 1 (sT [pR 1 0,pR 2 1,(5,.d (q1 r0_1_1)),(20,.d (q1 r0_1_1))] [(1,.var 37 [jI 0,jI 0]),(0,.var 29 (cv29 b))] 2 0) ?_
  obtain ⟨p,hv_10,h⟩:=bsome h
  refine r_iaD trivial rfl rfl (ixL_ok hv_10).1 (row:=e3 p) (mapget (ixL_ok hv_10).2) ?_
  refine aX 3 (sT [pR 1 0,pR 2 1,(5,.d (q1 r0_1_1)),(22,jI p),(24,.d (.sl 1 (List.map e30 b.Needs)))] [(1,.var 37 [jI 0,jI 0]),(0,.var 29 (cv29 b))] 2 0) ?_
  refine r_lenX trivial rfl lenm ?_
  obtain ⟨r0_1_2,hx_11,h⟩:=bsome h
  refine r_call trivial rfl (k74 p (b.Needs.length:Int) _ hx_11) rfl rfl ?_
  refine r_lenX trivial rfl lenm ?_
  obtain ⟨r0_2,hx_12,h⟩:=bsome h
  refine r_call trivial rfl (k56 (r0_1_2.length:Int) _ hx_12) rfl rfl ?_
  refine aX 2 (sT [pR 1 0,pR 2 1,(5,.d (q1 r0_1_1)),pR 6 2] [(2,.var 37 [jI r0_2.Low,jI r0_2.High]),(1,.var 37 [jI 0,jI 0]),(0,.var 29 (cv29 b))] 3 0) ?_
  refine Fi (sT [pR 1 0,pR 2 1,(5,.d (q1 r0_1_1)),pR 6 2] [(2,.var 37 [jI r0_2.Low,jI r0_2.High]),(1,.var 37 [jI 0,jI 0]),(0,.var 29 (cv29 b))] 3 0) ?_
  refine hQ_9 _ ?_
  refine AW.seqK (fun K_13 hK_13=>?_)
  refine Sa (sT [pR 1 0,pR 2 1,(5,.d (q1 r0_1_1)),pR 6 2,(7,jI 0)] [(2,.var 37 [jI r0_2.Low,jI r0_2.High]),(1,.var 37 [jI 0,jI 0]),(0,.var 29 (cv29 b))] 3 0) ?_
  refine AW.block ?_
  refine AW.sln (t:=5) rfl (fun hN_14=>?_)
  rw [List.length_map] at hN_14
  obtain ⟨out_14,hx_14,h⟩:=bsome h
  refine AW.evSK (fun (i:Int) (⟨Low,High⟩:Int×Int)=>(sT [pR 1 0,pR 2 1,(5,.d (q1 r0_1_1)),pR 6 2,(7,jI i)] (y33 Low High b) 3 0)) (g23_14 b) hx_14 (Can.kp (by kernel_rfl)) (fun i p1 s_14 hi_14 hl_14 hp_14 c_14 h K_14 hK_14=>?_) (fun i s_14 hi_14 hl_14 hout=>?_)
  ·obtain ⟨Low,High⟩:=s_14
   unfold g23_14 at h
   refine AW.seqK fun K_15 hK_15=>AW.srwK fun Q_16 hQ_16=>?_
   refine Au 2 (sT [pR 1 0,pR 2 1,(5,.d (q1 r0_1_1)),pR 6 2,(7,jI i),(29,jI i),(30,.d (q1 r0_1_1))] (y33 Low High b) 3 0) ?_
   refine rL rfl ?_
   refine Au 1 (sT [pR 1 0,pR 2 1,(5,.d (q1 r0_1_1)),pR 6 2,(7,jI i),(32,.d (.bool (decide (i<(r0_1_1.length:Int)))))] (y33 Low High b) 3 0) ?_
   refine RW.nil (hQ_16 _ ?_)
   refine AW.cond rfl (fun hb_17=>?_) (fun hb_17=>False.elim (by have:=of_decide_eq_false hb_17;omega))
   refine AW.skip (hK_15 _ ?_)
   refine AW.seqK (fun K_18 hK_18=>?_)
   refine AW.block ?_
   refine AW.drw fokW ?_
   refine aX 3 (sT [pR 1 0,pR 2 1,(5,.d (q1 r0_1_1)),pR 6 2,(7,jI i),(35,.agg [jI Low,jI High]),(36,.d (q1 r0_1_1)),(37,jI i)] (y33 Low High b) 3 0) ?_
   refine r_iaD trivial rfl rfl hi_14 (row:=e3 p1) (mapget hp_14) ?_
   refine aX 3 (sT [pR 1 0,pR 2 1,(5,.d (q1 r0_1_1)),pR 6 2,(7,jI i),(35,.agg [jI Low,jI High]),(39,jI p1),(41,.d (.sl 1 (List.map e30 b.Needs)))] (y33 Low High b) 3 0) ?_
   refine r_lenX trivial rfl lenm ?_
   obtain ⟨r0_1_3,hx_20,h⟩:=bsome h
   refine r_call trivial rfl (k74 p1 (b.Needs.length:Int) _ hx_20) rfl rfl ?_
   refine r_lenX trivial rfl lenm ?_
   obtain ⟨r0_3,hx_21,h⟩:=bsome h
   refine r_call trivial rfl (k56 (r0_1_3.length:Int) _ hx_21) rfl rfl ?_
   obtain ⟨r0_1_4,hx_22,h⟩:=bsome h
   refine r_call trivial rfl (k75 (Span.mk Low High) r0_3 _ hx_22) rfl rfl ?_
   refine aX 1 (sT [pR 1 0,pR 2 1,(5,.d (q1 r0_1_1)),pR 6 2,(7,jI i)] [(2,.var 37 [jI r0_1_4.Low,jI r0_1_4.High]),(1,.var 37 [jI 0,jI 0]),(0,.var 29 (cv29 b))] 3 0) ?_
   refine Fi (sT [pR 1 0,pR 2 1,(5,.d (q1 r0_1_1)),pR 6 2,(7,jI i)] [(2,.var 37 [jI r0_1_4.Low,jI r0_1_4.High]),(1,.var 37 [jI 0,jI 0]),(0,.var 29 (cv29 b))] 3 0) ?_
   refine hK_18 _ ?_
   refine Ra (sT [pR 1 0,pR 2 1,(5,.d (q1 r0_1_1)),pR 6 2,(7,jI (wr (i+1)))] [(2,.var 37 [jI r0_1_4.Low,jI r0_1_4.High]),(1,.var 37 [jI 0,jI 0]),(0,.var 29 (cv29 b))] 3 0) ?_
   obtain rfl:=Option.some.inj h
   have ew:wr (i+1)=i+1:=inext (N:=(r0_1_1.length:Int)) (by omega) (by omega) (by omega)
   rw [ew]
   exact hK_14 _ (Can.kp (by kernel_rfl))
  ·obtain ⟨Low,High⟩:=s_14
   subst hout
   refine AW.seqK fun K_23 hK_23=>AW.srwK fun Q_24 hQ_24=>?_
   refine Au 2 (sT [pR 1 0,pR 2 1,(5,.d (q1 r0_1_1)),pR 6 2,(7,jI i),(29,jI i),(30,.d (q1 r0_1_1))] (y33 Low High b) 3 0) ?_
   refine rL rfl ?_
   refine Au 1 (sT [pR 1 0,pR 2 1,(5,.d (q1 r0_1_1)),pR 6 2,(7,jI i),(32,.d (.bool (decide (i<(r0_1_1.length:Int)))))] (y33 Low High b) 3 0) ?_
   refine RW.nil (hQ_24 _ ?_)
   refine AW.cond rfl (fun hb_25=>False.elim (by have:=of_decide_eq_true hb_25;omega)) (fun hb_25=>?_)
   refine AW.exit ?_
   refine hK_13 _ ?_
   refine Sa (sT [pR 2 1,(3,jI 0)] [(1,.var 37 [jI Low,jI High])] 3 0) ?_
   obtain rfl:=Option.some.inj h
   exact rT hR_0 (.cons (.agg rfl rfl (Nat.le_of_ble_eq_true rfl)) (.cons (.tmp rfl) .nil))
end Go.Proofs.Tr
namespace Go.Proofs.Tr
open Go Go.Abs Go.Proofs
def g3 (b:HarnessBook):Option Bool:=(g15 b).bind fun (r0_4,r1_4)=>(g16 b).bind fun (r0_4_1,r1_1)=>bindC ((g17 r0_4 r0_4_1).bind fun r0=>bif (!r0) then (some (.brk false)) else (bif (decide (r1_4≠r1_1)) then (some (.brk false)) else ((g18 b).bind fun r0_6=>(g19 b).bind fun r0_6_1=>bif (decide (r0_6≠r0_6_1)) then (some (.brk false)) else (some (.next ())))):Option (Ctl (Unit) (Bool))) fun _=>(g20 b).bind fun (r0_4_2,r1_4_1)=>(g21 b).bind fun (r0_4_3,r1_1_1)=>(g17 r0_4_2 r0_4_3).bind fun r0_1=>bif ((!r0_1)||(decide (r1_4_1≠r1_1_1))) then (some false) else ((g22 b).bind fun (r0_5,r1_4_2)=>(g23 b).bind fun (r0_5_1,r1_1_2)=>(bif ((false != ((r0_5.Low==r0_5_1.Low)&&((r0_5.High==r0_5_1.High)&&true)))&&(decide (r1_4_2=r1_1_2))) then ((g24).bind fun t2=>some t2) else (some false)).bind fun v=>some v)
theorem k3 (b:HarnessBook) (r:Bool) (h:g3 b=some r):SCall Tryd.prog Gs 3 [.agg (cv29 b)] [] 0 Fr.emp (.d (.bool r)) [] 0 Fr.emp:=by
 unfold g3 at h
 refine SCall.mkK Tryd.func3 c3 rfl rfl (by kernel_rfl) (fun Q_0 hR_0 hN_0=>?_)
 refine Sa (sT [pR 1 0] [(0,.var 29 (cv29 b))] 1 0) ?_
 refine AW.srwK (fun Q_1 hQ_1=>?_)
 refine Au 1 (sT [pR 1 0,(10,.agg (cv29 b))] [(0,.var 29 (cv29 b))] 1 0) ?_
 obtain ⟨⟨r0_4,r1_4⟩,hx_2,h⟩:=bsome h
 refine rC (k15 b _ hx_2) ?_
 refine Au 5 (sT [pR 1 0,(3,.d (q1 r0_4)),(4,jI r1_4)] [(0,.var 29 (cv29 b))] 1 0) ?_
 refine RW.nil (hQ_1 _ ?_)
 refine AW.srwK (fun Q_3 hQ_3=>?_)
 refine Au 1 (sT [pR 1 0,(3,.d (q1 r0_4)),(4,jI r1_4),(15,.agg (cv29 b))] [(0,.var 29 (cv29 b))] 1 0) ?_
 obtain ⟨⟨r0_4_1,r1_1⟩,hx_4,h⟩:=bsome h
 refine rC (k16 b _ hx_4) ?_
 refine Au 5 (sT [pR 1 0,(3,.d (q1 r0_4)),(4,jI r1_4),(5,.d (q1 r0_4_1)),(6,jI r1_1)] [(0,.var 29 (cv29 b))] 1 0) ?_
 refine RW.nil (hQ_3 _ ?_)
 obtain ⟨c_5,hx_5,hk_5⟩:=bsomeC h
 refine AW.jnK (fun (_:Unit)=>(sT [pR 1 0] [(0,.var 29 (cv29 b))] 1 0)) (c:=c_5) (fun K_5 hK_5=>?_) (fun j_5 hj_5=>?_)
 ·have h:=hx_5
  refine AW.sdrwK fokW (fun Q_6 hQ_6=>?_)
  refine aX 2 (sT [pR 1 0,(4,jI r1_4),(6,jI r1_1),(19,.d (q1 r0_4)),(20,.d (q1 r0_4_1))] [(0,.var 29 (cv29 b))] 1 0) ?_
  obtain ⟨r0,hx_7,h⟩:=bsome h
  refine r_call trivial rfl (k17 r0_4 r0_4_1 _ hx_7) rfl rfl ?_
  refine aX 2 (sT [pR 1 0,(4,jI r1_4),(6,jI r1_1),(23,.d (.bool (!r0)))] [(0,.var 29 (cv29 b))] 1 0) ?_
  refine r_split 23 rfl (fun hb_8=>?_) (fun hb_8=>?_)
  ·have h:=ifT hb_8 h
   refine aX 11 (sT [pR 1 0,(34,.d (.bool true))] [(0,.var 29 (cv29 b))] 1 0) ?_
   refine Fi (sT [pR 1 0,(34,.d (.bool true))] [(0,.var 29 (cv29 b))] 1 0) ?_
   refine hQ_6 _ ?_
   refine AW.condT rfl ?_
   refine Sa (sT [(2,.d (.bool false))] [] 1 0) ?_
   obtain rfl:=Option.some.inj h
   obtain rfl:=Aft.bk hk_5
   exact rT hR_0 (.cons (.tmp rfl) .nil)
  ·have h:=ifF hb_8 h
   refine aX 5 (sT [pR 1 0,(28,.d (.bool (decide (r1_4≠r1_1))))] [(0,.var 29 (cv29 b))] 1 0) ?_
   refine r_split 28 rfl (fun hb_9=>?_) (fun hb_9=>?_)
   ·have h:=ifT hb_9 h
    refine aX 6 (sT [pR 1 0,(34,.d (.bool true))] [(0,.var 29 (cv29 b))] 1 0) ?_
    refine Fi (sT [pR 1 0,(34,.d (.bool true))] [(0,.var 29 (cv29 b))] 1 0) ?_
    refine hQ_6 _ ?_
    refine AW.condT rfl ?_
    refine Sa (sT [(2,.d (.bool false))] [] 1 0) ?_
    obtain rfl:=Option.some.inj h
    obtain rfl:=Aft.bk hk_5
    exact rT hR_0 (.cons (.tmp rfl) .nil)
   ·have h:=ifF hb_9 h
    refine aX 1 (sT [pR 1 0,(28,.d (.bool false)),(29,.agg (cv29 b))] [(0,.var 29 (cv29 b))] 1 0) ?_
    obtain ⟨r0_6,hx_10,h⟩:=bsome h
    refine r_call rfl rfl (k18 b _ hx_10) rfl rfl ?_
    refine aX 1 (sT [pR 1 0,(28,.d (.bool false)),(30,jI r0_6),(31,.agg (cv29 b))] [(0,.var 29 (cv29 b))] 1 0) ?_
    obtain ⟨r0_6_1,hx_11,h⟩:=bsome h
    refine r_call rfl rfl (k19 b _ hx_11) rfl rfl ?_
    refine aX 2 (sT [pR 1 0,(34,.d (.bool (decide (r0_6≠r0_6_1))))] [(0,.var 29 (cv29 b))] 1 0) ?_
    refine Fi (sT [pR 1 0,(34,.d (.bool (decide (r0_6≠r0_6_1))))] [(0,.var 29 (cv29 b))] 1 0) ?_
    refine hQ_6 _ ?_
    refine AW.cond rfl (fun hb_12=>?_) (fun hb_12=>?_)
    ·have h:=ifT hb_12 h
     refine Sa (sT [(2,.d (.bool false))] [] 1 0) ?_
     obtain rfl:=Option.some.inj h
     obtain rfl:=Aft.bk hk_5
     exact rT hR_0 (.cons (.tmp rfl) .nil)
    ·have h:=ifF hb_12 h
     refine AW.skip ?_
     obtain rfl:=Option.some.inj h
     exact hK_5 _ _ rfl (Can.kp (by kernel_rfl))
 ·subst hj_5
  have h:=Aft.nx hk_5
  refine AW.srwK (fun Q_13 hQ_13=>?_)
  refine Au 1 (sT [pR 1 0,(36,.agg (cv29 b))] [(0,.var 29 (cv29 b))] 1 0) ?_
  obtain ⟨⟨r0_4_2,r1_4_1⟩,hx_14,h⟩:=bsome h
  refine rC (k20 b _ hx_14) ?_
  refine Au 5 (sT [pR 1 0,(3,.d (q1 r0_4_2)),(4,jI r1_4_1)] [(0,.var 29 (cv29 b))] 1 0) ?_
  refine RW.nil (hQ_13 _ ?_)
  refine AW.srwK (fun Q_15 hQ_15=>?_)
  refine Au 1 (sT [pR 1 0,(3,.d (q1 r0_4_2)),(4,jI r1_4_1),(41,.agg (cv29 b))] [(0,.var 29 (cv29 b))] 1 0) ?_
  obtain ⟨⟨r0_4_3,r1_1_1⟩,hx_16,h⟩:=bsome h
  refine rC (k21 b _ hx_16) ?_
  refine Au 5 (sT [pR 1 0,(3,.d (q1 r0_4_2)),(4,jI r1_4_1),(5,.d (q1 r0_4_3)),(6,jI r1_1_1)] [(0,.var 29 (cv29 b))] 1 0) ?_
  refine RW.nil (hQ_15 _ ?_)
  refine AW.seqK fun K_17 hK_17=>AW.srwK fun Q_18 hQ_18=>?_
  refine Au 2 (sT [pR 1 0,(4,jI r1_4_1),(6,jI r1_1_1),(45,.d (q1 r0_4_2)),(46,.d (q1 r0_4_3))] [(0,.var 29 (cv29 b))] 1 0) ?_
  obtain ⟨r0_1,hx_19,h⟩:=bsome h
  refine rC (k17 r0_4_2 r0_4_3 _ hx_19) ?_
  refine RW.au fokW 6 [49] (sT [pR 1 0,(53,.d (.bool ((!r0_1)||(decide (r1_4_1≠r1_1_1)))))] [(0,.var 29 (cv29 b))] 1 0) (by kernel_rfl) ?_
  refine RW.nil (hQ_18 _ ?_)
  refine AW.cond rfl (fun hb_20=>?_) (fun hb_20=>?_)
  ·have h:=ifT hb_20 h
   refine Sa (sT [(2,.d (.bool false))] [] 1 0) ?_
   obtain rfl:=Option.some.inj h
   exact rT hR_0 (.cons (.tmp rfl) .nil)
  ·have h:=ifF hb_20 h
   refine AW.skip (hK_17 _ ?_)
   refine AW.srwK (fun Q_21 hQ_21=>?_)
   refine Au 1 (sT [pR 1 0,(55,.agg (cv29 b))] [(0,.var 29 (cv29 b))] 1 0) ?_
   obtain ⟨⟨r0_5,r1_4_2⟩,hx_22,h⟩:=bsome h
   refine rC (k22 b _ hx_22) ?_
   refine Au 6 (sT [pR 1 0,(4,jI r1_4_2),pR 7 1] [(1,.var 37 [jI r0_5.Low,jI r0_5.High]),(0,.var 29 (cv29 b))] 2 0) ?_
   refine RW.nil (hQ_21 _ ?_)
   refine AW.srwK (fun Q_23 hQ_23=>?_)
   refine Au 1 (sT [(4,jI r1_4_2),pR 7 1,(60,.agg (cv29 b))] [(1,.var 37 [jI r0_5.Low,jI r0_5.High])] 2 0) ?_
   obtain ⟨⟨r0_5_1,r1_1_2⟩,hx_24,h⟩:=bsome h
   refine rC (k23 b _ hx_24) ?_
   refine Au 6 (sT [(4,jI r1_4_2),(6,jI r1_1_2),pR 7 1,pR 8 2] [(2,.var 37 [jI r0_5_1.Low,jI r0_5_1.High]),(1,.var 37 [jI r0_5.Low,jI r0_5.High])] 3 0) ?_
   refine RW.nil (hQ_23 _ ?_)
   refine AW.srwK (fun Q_25 hQ_25=>?_)
   refine Au 2 (sT [(4,jI r1_4_2),(6,jI r1_1_2),(64,.agg [jI r0_5.Low,jI r0_5.High]),(65,.agg [jI r0_5_1.Low,jI r0_5_1.High])] [] 3 0) ?_
   refine RW.one fokW (r_aeq trivial rfl rfl rfl rfl ft37 rfl rfl rfl (r_end ?_))
   refine RW.au fokW 6 [67] (sT [(72,.d (.bool ((false != ((r0_5.Low==r0_5_1.Low)&&((r0_5.High==r0_5_1.High)&&true)))&&(decide (r1_4_2=r1_1_2)))))] [] 3 0) (by kernel_rfl) ?_
   obtain ⟨v,hx_26,h⟩:=bsome h
   refine RW.cut fokW 2 ((sT [(74,.d (.bool v))] [] 3 0)) ?_ ?_
   ·refine r_split 72 rfl (fun hb_28=>?_) (fun hb_28=>?_)
    ·have h:=ifT hb_28 hx_26
     obtain ⟨t2,hx_27,h⟩:=bsome h
     refine r_call rfl rfl (k24 _ hx_27) rfl rfl ?_
     refine aX 1 (sT [(74,.d (.bool t2))] [] 3 0) ?_
     obtain rfl:=Option.some.inj h
     refine RunC.finJ (Can.kp (by kernel_rfl))
    ·have h:=ifF hb_28 hx_26
     refine aX 2 (sT [(74,.d (.bool false))] [] 3 0) ?_
     obtain rfl:=Option.some.inj h
     refine RunC.finJ (Can.kp (by kernel_rfl))
   ·refine Au 1 (sT [(2,.d (.bool v))] [] 3 0) ?_
    refine RW.nil (hQ_25 _ ?_)
    obtain rfl:=Option.some.inj h
    exact rT hR_0 (.cons (.tmp rfl) .nil)
end Go.Proofs.Tr
