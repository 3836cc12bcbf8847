/- Told functions, and that the program does so, part 3. Conditions: none. -/
import Derived.Test.YthcpnbeikdhlkaaDoorTdb
set_option linter.unusedVariables false
set_option linter.unusedSimpArgs false
namespace Go.Proofs.Tt
open Go Go.Abs Go.Proofs
def g17_2 (n:Int):Int→Int→Unit→Option (Ctl (Unit) (Int)):=fun i p _=>bif (decide (p=n)) then (some (.brk i)) else (some (.next ()))
def g17 (l:(List Int)) (n:Int):Option Int:=bindC (eachC (g17_2 n) l 0 ()) fun _=>some (-1)
theorem k17 (l:(List Int)) (n:Int) (r:Int) (h:g17 l n=some r):SCall Tryd.prog Gs 17 [.d (.sl 1 (List.map e3 l)),jI n] [] 0 Fr.emp (jI r) [] 0 Fr.emp:=by
 unfold g17 at h
 refine SCall.mkK Tryd.func17 c17 rfl rfl (by kernel_rfl) (fun Q_0 hR_0 hN_0=>?_)
 refine Sa (sT [(0,.d (.sl 1 (List.map e3 l))),(1,jI n)] [] 0 0) ?_
 refine AW.seqK (fun K_1 hK_1=>?_)
 refine Sa (sT [(0,.d (.sl 1 (List.map e3 l))),(1,jI n),(5,jI 0)] [] 0 0) ?_
 refine AW.block ?_
 refine AW.sln (t:=0) rfl (fun hN_2=>?_)
 rw [List.length_map] at hN_2
 obtain ⟨out_2,hx_2,hk_2⟩:=bsomeC h
 refine AW.evCK (fun (i:Int) (_:Unit)=>(sT [(0,.d (.sl 1 (List.map e3 l))),(1,jI n),(5,jI i)] [] 0 0)) (g17_2 n) hx_2 (Can.kp (by kernel_rfl)) (fun i p s_2 hi_2 hl_2 hp_2 c_2 h hb_2 K_2 hK_2=>?_) (fun i s_2 hi_2 hl_2 hout=>?_)
 ·unfold g17_2 at h
  refine AW.seqK fun K_3 hK_3=>AW.srwK fun Q_4 hQ_4=>?_
  refine Au 2 (sT [(0,.d (.sl 1 (List.map e3 l))),(1,jI n),(5,jI i),(6,jI i),(7,.d (.sl 1 (List.map e3 l)))] [] 0 0) ?_
  refine rL rfl ?_
  refine Au 1 (sT [(0,.d (.sl 1 (List.map e3 l))),(1,jI n),(5,jI i),(9,.d (.bool (decide (i<(l.length:Int)))))] [] 0 0) ?_
  refine RW.nil (hQ_4 _ ?_)
  refine AW.cond rfl (fun hb_5=>?_) (fun hb_5=>False.elim (by have:=of_decide_eq_false hb_5;omega))
  refine AW.skip (hK_3 _ ?_)
  refine AW.seqK (fun K_6 hK_6=>?_)
  refine AW.block ?_
  refine AW.srwK (fun Q_7 hQ_7=>?_)
  refine Au 2 (sT [(0,.d (.sl 1 (List.map e3 l))),(1,jI n),(5,jI i),(12,.d (.sl 1 (List.map e3 l))),(13,jI i)] [] 0 0) ?_
  refine RW.one fokW (r_iaD trivial rfl rfl hi_2 (row:=e3 p) (mapget hp_2) (r_end ?_))
  refine Au 3 (sT [(0,.d (.sl 1 (List.map e3 l))),(1,jI n),(5,jI i),(17,.d (.bool (decide (p=n))))] [] 0 0) ?_
  refine RW.nil (hQ_7 _ ?_)
  refine AW.cond rfl (fun hb_8=>?_) (fun hb_8=>?_)
  ·have h:=ifT hb_8 h
   refine Sa (sT [(4,jI i)] [] 0 0) ?_
   obtain rfl:=Option.some.inj h
   have e_1:=hb_2 _ rfl
   subst e_1
   obtain rfl:=Aft.bk hk_2
   exact rT hR_0 (.cons (.tmp rfl) .nil)
  ·have h:=ifF hb_8 h
   refine AW.skip (hK_6 _ ?_)
   refine Ra (sT [(0,.d (.sl 1 (List.map e3 l))),(1,jI n),(5,jI (wr (i+1)))] [] 0 0) ?_
   obtain rfl:=Option.some.inj h
   have ew:wr (i+1)=i+1:=inext (N:=(l.length:Int)) (by omega) (by omega) (by omega)
   rw [ew]
   exact hK_2 _ _ rfl (Can.kp (by kernel_rfl))
 ·subst hout
  have h:=Aft.nx hk_2
  refine AW.seqK fun K_9 hK_9=>AW.srwK fun Q_10 hQ_10=>?_
  refine Au 2 (sT [(0,.d (.sl 1 (List.map e3 l))),(1,jI n),(5,jI i),(6,jI i),(7,.d (.sl 1 (List.map e3 l)))] [] 0 0) ?_
  refine rL rfl ?_
  refine Au 1 (sT [(0,.d (.sl 1 (List.map e3 l))),(1,jI n),(5,jI i),(9,.d (.bool (decide (i<(l.length:Int)))))] [] 0 0) ?_
  refine RW.nil (hQ_10 _ ?_)
  refine AW.cond rfl (fun hb_11=>False.elim (by have:=of_decide_eq_true hb_11;omega)) (fun hb_11=>?_)
  refine AW.exit ?_
  refine hK_1 _ ?_
  refine Sa (sT [(4,jI (-1))] [] 0 0) ?_
  obtain rfl:=Option.some.inj h
  exact rT hR_0 (.cons (.tmp rfl) .nil)
def g19_r13 (r0_HarnessBook4:HarnessBook) (r0_bald4:(List Int)) (mf1:List (Harness_want×Int)):((Nat→Int))→(Int×Int)→Option (Ctl (Int×Int) (Unit)):=fun a (Low,High)=>(g41 r0_HarnessBook4 r0_bald4 mf1).bind fun r0=>(g47 r0_HarnessBook4 r0_bald4 mf1 a r0).bind fun r0_2=>(g42 r0_HarnessBook4 r0_bald4 mf1 r0_2).bind fun r0_1=>some (.next ((min Low (r0_1.length:Int)),(max High (r0_1.length:Int))))
def g19 (x:HarnessBook):Option (Span×Int):=(g37 x true).bind fun r_17=>match r_17 with | .next (r0_HarnessBook3,r0_bald3,r1_1)=>(must (decide (r1_1≠0))).bind fun _=>some ((Span.mk 0 0),r1_1) | .brk (r0_HarnessBook4,r0_bald4,mf1,r1_2)=>bif (decide (r1_2≠0)) then (some ((Span.mk 0 0),r1_2)) else ((g46 r0_HarnessBook4 r0_bald4 mf1).bind fun (o0_HarnessBook,o0_bald,mf1_1)=>(g64 (fun a s=>rndC (g19_r13 r0_HarnessBook4 r0_bald4 mf1) a s) o0_HarnessBook o0_bald mf1_1 (.next ((x.Needs.length:Int),0))).bind fun out_13=>match out_13 with | .next (Low,High)=>some ((Span.mk Low High),0) | .brk _=>none)
theorem k19 (x:HarnessBook) (r:Span×Int) (h:g19 x=some r):SCall Tryd.prog Gs 19 [.agg [.d (.sl 4 (List.map e41 x.Hair.Hanks)),.d (.sl 3 (List.map e91 x.Hair.Horses)),jI x.Hair.Dark,jI x.Hair.Near,jI x.Hair.Match,.d (.sl 1 (List.map e42 x.Needs)),.d (.sl 2 (List.map e38 x.Stock)),jI x.Pack,jI x.Bad]] [] 0 Fr.emp (match r with | (r0_5,r1_4)=>.tup [.agg [jI r0_5.Low,jI r0_5.High],jI r1_4]) [] 0 Fr.emp:=by
 unfold g19 at h
 refine SCall.mkK Tryd.func19 c19 rfl rfl (by kernel_rfl) (fun Q_0 hR_0 hN_0=>?_)
 refine Sa (sT [pR 1 0,pR 2 1] [(1,.var 38 [jI 0,jI 0]),(0,.var 29 (cv29 x))] 2 0) ?_
 refine AW.srwK (fun Q_1 hQ_1=>?_)
 refine Au 1 (sT [pR 1 0,pR 2 1,(10,.agg [.d (.sl 4 (List.map e41 x.Hair.Hanks)),.d (.sl 3 (List.map e91 x.Hair.Horses)),jI x.Hair.Dark,jI x.Hair.Near,jI x.Hair.Match,.d (.sl 1 (List.map e42 x.Needs)),.d (.sl 2 (List.map e38 x.Stock)),jI x.Pack,jI x.Bad])] [(1,.var 38 [jI 0,jI 0]),(0,.var 29 (cv29 x))] 2 0) ?_
 obtain ⟨r_17,hx_2,h⟩:=bsome h
 rcases r_17 with (⟨r0_HarnessBook3,r0_bald3,r1_1⟩ | (⟨r0_HarnessBook4,r0_bald4,mf1,r1_2⟩))
 ·refine rC (k37 x true _ hx_2) ?_
  obtain ⟨_,hv_3,h⟩:=bsome h
  have hf_4:=must_ok hv_3
  refine Au 6 (sT [pR 1 0,pR 2 1,pR 4 2,(5,jI r1_1)] [(2,.var 79 (catV (cv29 r0_HarnessBook3) [.d (.sl 1 (List.map e3 r0_bald3)),.d (.nilMap)])),(1,.var 38 [jI 0,jI 0]),(0,.var 29 (cv29 x))] 3 0) ?_
  refine RW.nil (hQ_1 _ ?_)
  refine AW.seqK (fun K_5 hK_5=>?_)
  refine Sa (sT [pR 1 0,pR 2 1,pR 4 2,(5,jI r1_1),(15,.d (.bool (decide (r1_1≠0))))] [(2,.var 79 (catV (cv29 r0_HarnessBook3) [.d (.sl 1 (List.map e3 r0_bald3)),.d (.nilMap)])),(1,.var 38 [jI 0,jI 0]),(0,.var 29 (cv29 x))] 3 0) ?_
  refine AW.cond rfl (fun hb_6=>?_) (fun hb_6=>False.elim (by rw [hf_4] at hb_6;cases hb_6))
  refine Sa (sT [pR 2 1,(3,jI r1_1)] [(1,.var 38 [jI 0,jI 0])] 3 0) ?_
  obtain rfl:=Option.some.inj h
  exact rT hR_0 (.cons (.agg rfl rfl (Nat.le_of_ble_eq_true rfl)) (.cons (.tmp rfl) .nil))
 ·refine rC (k37 x true _ hx_2) ?_
  refine Au 6 (sT [pR 1 0,pR 2 1,pR 4 2,(5,jI r1_2)] [(2,.var 79 (catV (cv29 r0_HarnessBook4) [.d (.sl 1 (List.map e3 r0_bald4)),.fmp (List.map m124_3 mf1)])),(1,.var 38 [jI 0,jI 0]),(0,.var 29 (cv29 x))] 3 0) ?_
  refine RW.nil (hQ_1 _ ?_)
  refine AW.seqK (fun K_7 hK_7=>?_)
  refine Sa (sT [pR 1 0,pR 2 1,pR 4 2,(5,jI r1_2),(15,.d (.bool (decide (r1_2≠0))))] [(2,.var 79 (catV (cv29 r0_HarnessBook4) [.d (.sl 1 (List.map e3 r0_bald4)),.fmp (List.map m124_3 mf1)])),(1,.var 38 [jI 0,jI 0]),(0,.var 29 (cv29 x))] 3 0) ?_
  refine AW.cond rfl (fun hb_8=>?_) (fun hb_8=>?_)
  ·have h:=ifT hb_8 h
   refine Sa (sT [pR 2 1,(3,jI r1_2)] [(1,.var 38 [jI 0,jI 0])] 3 0) ?_
   obtain rfl:=Option.some.inj h
   exact rT hR_0 (.cons (.agg rfl rfl (Nat.le_of_ble_eq_true rfl)) (.cons (.tmp rfl) .nil))
  ·have h:=ifF hb_8 h
   refine AW.skip (hK_7 _ ?_)
   refine AW.srwK (fun Q_9 hQ_9=>?_)
   refine Au 2 (sT [pR 2 1,pR 4 2,(19,.d (.sl 1 (List.map e42 x.Needs)))] [(2,.var 79 (catV (cv29 r0_HarnessBook4) [.d (.sl 1 (List.map e3 r0_bald4)),.fmp (List.map m124_3 mf1)])),(1,.var 38 [jI 0,jI 0])] 3 0) ?_
   refine rL rfl ?_
   refine Au 3 (sT [pR 2 1,pR 4 2,pR 6 3] [(3,.var 38 [jI (x.Needs.length:Int),jI 0]),(2,.var 79 (catV (cv29 r0_HarnessBook4) [.d (.sl 1 (List.map e3 r0_bald4)),.fmp (List.map m124_3 mf1)])),(1,.var 38 [jI 0,jI 0])] 4 0) ?_
   refine RW.nil (hQ_9 _ ?_)
   refine AW.seqK fun K_10 hK_10=>AW.srwK fun Q_11 hQ_11=>?_
   refine Au 1 (sT [pR 2 1,pR 4 2,pR 6 3,(22,.agg [.d (.sl 4 (List.map e41 r0_HarnessBook4.Hair.Hanks)),.d (.sl 3 (List.map e91 r0_HarnessBook4.Hair.Horses)),jI r0_HarnessBook4.Hair.Dark,jI r0_HarnessBook4.Hair.Near,jI r0_HarnessBook4.Hair.Match,.d (.sl 1 (List.map e42 r0_HarnessBook4.Needs)),.d (.sl 2 (List.map e38 r0_HarnessBook4.Stock)),jI r0_HarnessBook4.Pack,jI r0_HarnessBook4.Bad,.d (.sl 1 (List.map e3 r0_bald4)),.fmp (List.map m124_3 mf1)])] [(3,.var 38 [jI (x.Needs.length:Int),jI 0]),(2,.var 79 (catV (cv29 r0_HarnessBook4) [.d (.sl 1 (List.map e3 r0_bald4)),.fmp (List.map m124_3 mf1)])),(1,.var 38 [jI 0,jI 0])] 4 0) ?_
   obtain ⟨⟨o0_HarnessBook,o0_bald,mf1_1⟩,hx_12,h⟩:=bsome h
   refine RW.one fokW (r_callS (zr:=[]) [] trivial rfl (k46 r0_HarnessBook4 r0_bald4 mf1 _ hx_12) trivial rfl rfl ⟨.refl _,trivial⟩ rfl rfl rfl (r_end ?_))
   refine RW.nil (hQ_11 _ ?_)
   refine AW.block ?_
   obtain ⟨out_13,hx_13,h⟩:=bsome h
   refine AW.rfX (fun (⟨Low,High⟩:Int×Int)=>[(5,.dm),(3,.var 38 [jI Low,jI High]),(2,.var 79 (catV (cv29 r0_HarnessBook4) [.d (.sl 1 (List.map e3 r0_bald4)),.fmp (List.map m124_3 mf1)])),(1,.var 38 [jI 0,jI 0])]) (fun (_:Unit)=>[]) (fun _=>some .ret) (g19_r13 r0_HarnessBook4 r0_bald4 mf1) (fun (a:(Nat→Int))=>[.agg [jI (a 0),jI (a 1),jI (a 2)]]) (s0:=((x.Needs.length:Int),0)) (out:=out_13) [pR 2 1,pR 4 2,pR 6 3] [(3,.var 38 [jI (x.Needs.length:Int),jI 0]),(2,.var 79 (catV (cv29 r0_HarnessBook4) [.d (.sl 1 (List.map e3 r0_bald4)),.fmp (List.map m124_3 mf1)])),(1,.var 38 [jI 0,jI 0])] [4] rfl (.clo _ _ _) (by kernel_rfl) (by kernel_rfl) (fun fr_ hY_13=>k64 fr_ _ (fun a s s2 b h=>hY_13 a s s2 b h) o0_HarnessBook o0_bald mf1_1 (.next ((x.Needs.length:Int),0)) _ hx_13) (by kernel_rfl) ⟨rfl,trivial⟩ rfl ⟨rfl,rfl⟩ rfl rfl (fun _=>rfl) (fun _=>rfl) (fun a_13 s_13 c_13 h l_13=>?_) (fun _=>rfl) ?_
   ·have ⟨a,e_13⟩:∃ x,x=a_13:=⟨_,rfl⟩
    subst e_13
    obtain ⟨Low,High⟩:=s_13
    unfold g19_r13 at h
    refine AW.ra (fokR l_13) [] (sT [pR 4 2,pR 6 3,pR 7 6] [(6,.var 96 [jI (a 0),jI (a 1),jI (a 2)]),(5,.dm),(3,.var 38 [jI Low,jI High]),(2,.var 79 (catV (cv29 r0_HarnessBook4) [.d (.sl 1 (List.map e3 r0_bald4)),.fmp (List.map m124_3 mf1)])),(1,.var 38 [jI 0,jI 0])] 7 6) (by kernel_rfl) ?_
    refine AW.block ?_
    refine AW.sdrwK (fokR l_13) (fun Q_14 hQ_14=>?_)
    refine aX 4 (sT [pR 6 3,(25,.agg [.d (.sl 4 (List.map e41 r0_HarnessBook4.Hair.Hanks)),.d (.sl 3 (List.map e91 r0_HarnessBook4.Hair.Horses)),jI r0_HarnessBook4.Hair.Dark,jI r0_HarnessBook4.Hair.Near,jI r0_HarnessBook4.Hair.Match,.d (.sl 1 (List.map e42 r0_HarnessBook4.Needs)),.d (.sl 2 (List.map e38 r0_HarnessBook4.Stock)),jI r0_HarnessBook4.Pack,jI r0_HarnessBook4.Bad,.d (.sl 1 (List.map e3 r0_bald4)),.fmp (List.map m124_3 mf1)]),(26,.agg [.d (.sl 4 (List.map e41 r0_HarnessBook4.Hair.Hanks)),.d (.sl 3 (List.map e91 r0_HarnessBook4.Hair.Horses)),jI r0_HarnessBook4.Hair.Dark,jI r0_HarnessBook4.Hair.Near,jI r0_HarnessBook4.Hair.Match,.d (.sl 1 (List.map e42 r0_HarnessBook4.Needs)),.d (.sl 2 (List.map e38 r0_HarnessBook4.Stock)),jI r0_HarnessBook4.Pack,jI r0_HarnessBook4.Bad,.d (.sl 1 (List.map e3 r0_bald4)),.fmp (List.map m124_3 mf1)]),(27,.agg [jI (a 0),jI (a 1),jI (a 2)]),(28,.agg [.d (.sl 4 (List.map e41 r0_HarnessBook4.Hair.Hanks)),.d (.sl 3 (List.map e91 r0_HarnessBook4.Hair.Horses)),jI r0_HarnessBook4.Hair.Dark,jI r0_HarnessBook4.Hair.Near,jI r0_HarnessBook4.Hair.Match,.d (.sl 1 (List.map e42 r0_HarnessBook4.Needs)),.d (.sl 2 (List.map e38 r0_HarnessBook4.Stock)),jI r0_HarnessBook4.Pack,jI r0_HarnessBook4.Bad,.d (.sl 1 (List.map e3 r0_bald4)),.fmp (List.map m124_3 mf1)])] [(6,.var 96 [jI (a 0),jI (a 1),jI (a 2)]),(5,.dm),(3,.var 38 [jI Low,jI High]),(2,.var 79 (catV (cv29 r0_HarnessBook4) [.d (.sl 1 (List.map e3 r0_bald4)),.fmp (List.map m124_3 mf1)])),(1,.var 38 [jI 0,jI 0])] 7 6) ?_
    obtain ⟨r0,hx_15,h⟩:=bsome h
    refine r_call trivial rfl (k41 r0_HarnessBook4 r0_bald4 mf1 _ hx_15) rfl rfl ?_
    obtain ⟨r0_2,hx_16,h⟩:=bsome h
    refine r_call trivial rfl (k47 r0_HarnessBook4 r0_bald4 mf1 a r0 _ hx_16) rfl rfl ?_
    obtain ⟨r0_1,hx_17,h⟩:=bsome h
    refine r_call trivial rfl (k42 r0_HarnessBook4 r0_bald4 mf1 r0_2 _ hx_17) rfl rfl ?_
    refine r_lenX trivial rfl lenm ?_
    refine aX 1 (sT [pR 6 3,(8,jI (r0_1.length:Int))] [(6,.var 96 [jI (a 0),jI (a 1),jI (a 2)]),(5,.dm),(3,.var 38 [jI Low,jI High]),(2,.var 79 (catV (cv29 r0_HarnessBook4) [.d (.sl 1 (List.map e3 r0_bald4)),.fmp (List.map m124_3 mf1)])),(1,.var 38 [jI 0,jI 0])] 7 6) ?_
    refine Fi (sT [pR 6 3,(8,jI (r0_1.length:Int))] [(5,.dm),(3,.var 38 [jI Low,jI High]),(2,.var 79 (catV (cv29 r0_HarnessBook4) [.d (.sl 1 (List.map e3 r0_bald4)),.fmp (List.map m124_3 mf1)])),(1,.var 38 [jI 0,jI 0])] 7 6) ?_
    refine hQ_14 _ ?_
    refine AW.ra (fokR l_13) [] (sT [] [(3,.var 38 [jI (min Low (r0_1.length:Int)),jI (max High (r0_1.length:Int))]),(5,.dm),(2,.var 79 (catV (cv29 r0_HarnessBook4) [.d (.sl 1 (List.map e3 r0_bald4)),.fmp (List.map m124_3 mf1)])),(1,.var 38 [jI 0,jI 0])] 7 6) (by kernel_rfl) ?_
    obtain rfl:=Option.some.inj h
    exact ⟨(sT [] [(5,.dm),(3,.var 38 [jI (min Low (r0_1.length:Int)),jI (max High (r0_1.length:Int))]),(2,.var 79 (catV (cv29 r0_HarnessBook4) [.d (.sl 1 (List.map e3 r0_bald4)),.fmp (List.map m124_3 mf1)])),(1,.var 38 [jI 0,jI 0])] 6 6),Can.kp (by kernel_rfl),rdX trivial rfl (by kernel_rfl) (by kernel_rfl)⟩
   ·rcases out_13 with ⟨Low,High⟩ | _
    ·refine hK_10 _ ?_
     refine Sa ⟨[pR 2 1,(3,jI 0)],[(1,.var 38 [jI Low,jI High]),(5,.dm)],6,Fr.emp,[5],0⟩ ?_
     obtain rfl:=Option.some.inj h
     exact rT hR_0 (.cons (.agg rfl rfl (Nat.le_of_ble_eq_true rfl)) (.cons (.tmp rfl) .nil))
    ·cases h
def g49a (b_HarnessBook:HarnessBook) (b_bald:(List Int)) (mf:List (Harness_want×Int)) (kind:Int):Option Int:=(g69 b_HarnessBook b_bald mf kind).bind fun r0_2=>(ixL b_HarnessBook.Stock kind).bind fun p=>(g70 p).bind fun r0=>some (max 0 (wr (r0_2 - r0)))
def y46 (b_HarnessBook:HarnessBook) (b_bald:(List Int)) (mf:List (Harness_want×Int)):List (Nat×Blk):=[(1,.var 100 [.d (.fn 70)]),(0,.var 79 (catV (cv29 b_HarnessBook) [.d (.sl 1 (List.map e3 b_bald)),.fmp (List.map m124_3 mf)]))]
theorem k49a (b_HarnessBook:HarnessBook) (b_bald:(List Int)) (mf:List (Harness_want×Int)) (kind:Int) (r:Int) (h:g49a b_HarnessBook b_bald mf kind=some r):SCall Tryd.prog Gs 49 [.agg [.d (.sl 4 (List.map e41 b_HarnessBook.Hair.Hanks)),.d (.sl 3 (List.map e91 b_HarnessBook.Hair.Horses)),jI b_HarnessBook.Hair.Dark,jI b_HarnessBook.Hair.Near,jI b_HarnessBook.Hair.Match,.d (.sl 1 (List.map e42 b_HarnessBook.Needs)),.d (.sl 2 (List.map e38 b_HarnessBook.Stock)),jI b_HarnessBook.Pack,jI b_HarnessBook.Bad,.d (.sl 1 (List.map e3 b_bald)),.fmp (List.map m124_3 mf)],jI kind,.agg [.d (.fn 70)]] [] 0 Fr.emp (jI r) [] 0 Fr.emp:=by
 unfold g49a at h
 refine SCall.mkK Tryd.func49 c49 rfl rfl (by kernel_rfl) (fun Q_0 hR_0 hN_0=>?_)
 refine Sa (sT [(1,jI kind),pR 3 0,pR 5 1] (y46 b_HarnessBook b_bald mf) 2 0) ?_
 refine AW.sdrwK fokW (fun Q_1 hQ_1=>?_)
 refine aX 2 (sT [(1,jI kind),pR 3 0,pR 5 1,(7,.agg [.d (.sl 4 (List.map e41 b_HarnessBook.Hair.Hanks)),.d (.sl 3 (List.map e91 b_HarnessBook.Hair.Horses)),jI b_HarnessBook.Hair.Dark,jI b_HarnessBook.Hair.Near,jI b_HarnessBook.Hair.Match,.d (.sl 1 (List.map e42 b_HarnessBook.Needs)),.d (.sl 2 (List.map e38 b_HarnessBook.Stock)),jI b_HarnessBook.Pack,jI b_HarnessBook.Bad,.d (.sl 1 (List.map e3 b_bald)),.fmp (List.map m124_3 mf)]),(8,jI kind)] (y46 b_HarnessBook b_bald mf) 2 0) ?_
 obtain ⟨r0_2,hx_2,h⟩:=bsome h
 refine r_call trivial rfl (k69 b_HarnessBook b_bald mf kind _ hx_2) rfl rfl ?_
 refine aX 6 (sT [(9,jI r0_2),(11,.d (.fn 70)),(14,.d (.sl 2 (List.map e38 b_HarnessBook.Stock))),(15,jI kind)] (y46 b_HarnessBook b_bald mf) 2 0) ?_
 obtain ⟨p,hv_3,h⟩:=bsome h
 refine r_iaD trivial rfl rfl (ixL_ok hv_3).1 (row:=e38 p) (mapget (ixL_ok hv_3).2) ?_
 refine aX 1 (sT [(9,jI r0_2),(11,.d (.fn 70)),(17,.agg [jI p.Low,jI p.High])] (y46 b_HarnessBook b_bald mf) 2 0) ?_
 obtain ⟨r0,hx_4,h⟩:=bsome h
 refine r_callvZ (zr:=[]) trivial rfl (.fn _) (by kernel_rfl) rfl (k70 p _ hx_4) trivial ⟨.refl _,trivial⟩ rfl rfl rfl rfl ?_
 refine aX 3 (sT [(6,jI (max 0 (wr (r0_2 - r0))))] (y46 b_HarnessBook b_bald mf) 2 0) ?_
 refine Fi (sT [(6,jI (max 0 (wr (r0_2 - r0))))] [] 2 0) ?_
 refine hQ_1 _ ?_
 obtain rfl:=Option.some.inj h
 exact rT hR_0 (.cons (.tmp rfl) .nil)
def g20 (x:HarnessBook) (kind:Int):Option (Span×Int):=(g48 x kind).bind fun r0_1=>(g37 x r0_1).bind fun r_14=>match r_14 with | .next (r0_HarnessBook3,r0_bald3,r1_1)=>(must (decide (r1_1≠0))).bind fun _=>some ((Span.mk 0 0),r1_1) | .brk (r0_HarnessBook4,r0_bald4,mf1,r1_2)=>bif (decide (r1_2≠0)) then (some ((Span.mk 0 0),r1_2)) else ((g50).bind fun _=>(g49a r0_HarnessBook4 r0_bald4 mf1 kind).bind fun r0_1_1=>(g51).bind fun _=>(g49 r0_HarnessBook4 r0_bald4 mf1 kind).bind fun r0_1_2=>some ((Span.mk r0_1_1 r0_1_2),0))
theorem k20 (x:HarnessBook) (kind:Int) (r:Span×Int) (h:g20 x kind=some r):SCall Tryd.prog Gs 20 [.agg [.d (.sl 4 (List.map e41 x.Hair.Hanks)),.d (.sl 3 (List.map e91 x.Hair.Horses)),jI x.Hair.Dark,jI x.Hair.Near,jI x.Hair.Match,.d (.sl 1 (List.map e42 x.Needs)),.d (.sl 2 (List.map e38 x.Stock)),jI x.Pack,jI x.Bad],jI kind] [] 0 Fr.emp (match r with | (r0_3,r1_4)=>.tup [.agg [jI r0_3.Low,jI r0_3.High],jI r1_4]) [] 0 Fr.emp:=by
 unfold g20 at h
 refine SCall.mkK Tryd.func20 c20 rfl rfl (by kernel_rfl) (fun Q_0 hR_0 hN_0=>?_)
 refine Sa (sT [(1,jI kind),pR 2 0,pR 4 1] [(1,.var 38 [jI 0,jI 0]),(0,.var 29 (cv29 x))] 2 0) ?_
 refine AW.sdrwK fokW (fun Q_1 hQ_1=>?_)
 refine aX 3 (sT [(1,jI kind),pR 4 1,(9,.agg [.d (.sl 4 (List.map e41 x.Hair.Hanks)),.d (.sl 3 (List.map e91 x.Hair.Horses)),jI x.Hair.Dark,jI x.Hair.Near,jI x.Hair.Match,.d (.sl 1 (List.map e42 x.Needs)),.d (.sl 2 (List.map e38 x.Stock)),jI x.Pack,jI x.Bad]),(10,.agg [.d (.sl 4 (List.map e41 x.Hair.Hanks)),.d (.sl 3 (List.map e91 x.Hair.Horses)),jI x.Hair.Dark,jI x.Hair.Near,jI x.Hair.Match,.d (.sl 1 (List.map e42 x.Needs)),.d (.sl 2 (List.map e38 x.Stock)),jI x.Pack,jI x.Bad]),(11,jI kind)] [(1,.var 38 [jI 0,jI 0]),(0,.var 29 (cv29 x))] 2 0) ?_
 obtain ⟨r0_1,hx_2,h⟩:=bsome h
 refine r_call trivial rfl (k48 x kind _ hx_2) rfl rfl ?_
 obtain ⟨r_14,hx_3,h⟩:=bsome h
 rcases r_14 with (⟨r0_HarnessBook3,r0_bald3,r1_1⟩ | (⟨r0_HarnessBook4,r0_bald4,mf1,r1_2⟩))
 ·refine r_call trivial rfl (k37 x r0_1 _ hx_3) rfl rfl ?_
  obtain ⟨_,hv_4,h⟩:=bsome h
  have hf_5:=must_ok hv_4
  refine aX 6 (sT [(1,jI kind),pR 4 1,pR 6 2,(7,jI r1_1)] [(2,.var 79 (catV (cv29 r0_HarnessBook3) [.d (.sl 1 (List.map e3 r0_bald3)),.d (.nilMap)])),(1,.var 38 [jI 0,jI 0]),(0,.var 29 (cv29 x))] 3 0) ?_
  refine Fi (sT [(1,jI kind),pR 4 1,pR 6 2,(7,jI r1_1)] [(2,.var 79 (catV (cv29 r0_HarnessBook3) [.d (.sl 1 (List.map e3 r0_bald3)),.d (.nilMap)])),(1,.var 38 [jI 0,jI 0])] 3 0) ?_
  refine hQ_1 _ ?_
  refine AW.seqK (fun K_6 hK_6=>?_)
  refine Sa (sT [(1,jI kind),pR 4 1,pR 6 2,(7,jI r1_1),(17,.d (.bool (decide (r1_1≠0))))] [(2,.var 79 (catV (cv29 r0_HarnessBook3) [.d (.sl 1 (List.map e3 r0_bald3)),.d (.nilMap)])),(1,.var 38 [jI 0,jI 0])] 3 0) ?_
  refine AW.cond rfl (fun hb_7=>?_) (fun hb_7=>False.elim (by rw [hf_5] at hb_7;cases hb_7))
  refine Sa (sT [pR 4 1,(5,jI r1_1)] [(1,.var 38 [jI 0,jI 0])] 3 0) ?_
  obtain rfl:=Option.some.inj h
  exact rT hR_0 (.cons (.agg rfl rfl (Nat.le_of_ble_eq_true rfl)) (.cons (.tmp rfl) .nil))
 ·refine r_call trivial rfl (k37 x r0_1 _ hx_3) rfl rfl ?_
  refine aX 6 (sT [(1,jI kind),pR 4 1,pR 6 2,(7,jI r1_2)] [(2,.var 79 (catV (cv29 r0_HarnessBook4) [.d (.sl 1 (List.map e3 r0_bald4)),.fmp (List.map m124_3 mf1)])),(1,.var 38 [jI 0,jI 0]),(0,.var 29 (cv29 x))] 3 0) ?_
  refine Fi (sT [(1,jI kind),pR 4 1,pR 6 2,(7,jI r1_2)] [(2,.var 79 (catV (cv29 r0_HarnessBook4) [.d (.sl 1 (List.map e3 r0_bald4)),.fmp (List.map m124_3 mf1)])),(1,.var 38 [jI 0,jI 0])] 3 0) ?_
  refine hQ_1 _ ?_
  refine AW.seqK (fun K_8 hK_8=>?_)
  refine Sa (sT [(1,jI kind),pR 4 1,pR 6 2,(7,jI r1_2),(17,.d (.bool (decide (r1_2≠0))))] [(2,.var 79 (catV (cv29 r0_HarnessBook4) [.d (.sl 1 (List.map e3 r0_bald4)),.fmp (List.map m124_3 mf1)])),(1,.var 38 [jI 0,jI 0])] 3 0) ?_
  refine AW.cond rfl (fun hb_9=>?_) (fun hb_9=>?_)
  ·have h:=ifT hb_9 h
   refine Sa (sT [pR 4 1,(5,jI r1_2)] [(1,.var 38 [jI 0,jI 0])] 3 0) ?_
   obtain rfl:=Option.some.inj h
   exact rT hR_0 (.cons (.agg rfl rfl (Nat.le_of_ble_eq_true rfl)) (.cons (.tmp rfl) .nil))
  ·have h:=ifF hb_9 h
   refine AW.skip (hK_8 _ ?_)
   refine AW.sdrwK fokW (fun Q_10 hQ_10=>?_)
   refine aX 2 (sT [(1,jI kind),pR 4 1,pR 6 2,(20,.agg [.d (.sl 4 (List.map e41 r0_HarnessBook4.Hair.Hanks)),.d (.sl 3 (List.map e91 r0_HarnessBook4.Hair.Horses)),jI r0_HarnessBook4.Hair.Dark,jI r0_HarnessBook4.Hair.Near,jI r0_HarnessBook4.Hair.Match,.d (.sl 1 (List.map e42 r0_HarnessBook4.Needs)),.d (.sl 2 (List.map e38 r0_HarnessBook4.Stock)),jI r0_HarnessBook4.Pack,jI r0_HarnessBook4.Bad,.d (.sl 1 (List.map e3 r0_bald4)),.fmp (List.map m124_3 mf1)]),(21,jI kind)] [(2,.var 79 (catV (cv29 r0_HarnessBook4) [.d (.sl 1 (List.map e3 r0_bald4)),.fmp (List.map m124_3 mf1)])),(1,.var 38 [jI 0,jI 0])] 3 0) ?_
   obtain ⟨⟨⟩,hx_11,h⟩:=bsome h
   refine r_call trivial rfl (k50 _ hx_11) rfl rfl ?_
   obtain ⟨r0_1_1,hx_12,h⟩:=bsome h
   refine r_call trivial rfl (k49a r0_HarnessBook4 r0_bald4 mf1 kind _ hx_12) rfl rfl ?_
   refine aX 2 (sT [pR 4 1,(23,jI r0_1_1),(24,.agg [.d (.sl 4 (List.map e41 r0_HarnessBook4.Hair.Hanks)),.d (.sl 3 (List.map e91 r0_HarnessBook4.Hair.Horses)),jI r0_HarnessBook4.Hair.Dark,jI r0_HarnessBook4.Hair.Near,jI r0_HarnessBook4.Hair.Match,.d (.sl 1 (List.map e42 r0_HarnessBook4.Needs)),.d (.sl 2 (List.map e38 r0_HarnessBook4.Stock)),jI r0_HarnessBook4.Pack,jI r0_HarnessBook4.Bad,.d (.sl 1 (List.map e3 r0_bald4)),.fmp (List.map m124_3 mf1)]),(25,jI kind)] [(2,.var 79 (catV (cv29 r0_HarnessBook4) [.d (.sl 1 (List.map e3 r0_bald4)),.fmp (List.map m124_3 mf1)])),(1,.var 38 [jI 0,jI 0])] 3 0) ?_
   obtain ⟨⟨⟩,hx_13,h⟩:=bsome h
   refine r_call trivial rfl (k51 _ hx_13) rfl rfl ?_
   obtain ⟨r0_1_2,hx_14,h⟩:=bsome h
   refine r_call trivial rfl (k49 r0_HarnessBook4 r0_bald4 mf1 kind _ hx_14) rfl rfl ?_
   refine aX 3 (sT [pR 4 1,(5,jI 0)] [(1,.var 38 [jI r0_1_1,jI r0_1_2]),(2,.var 79 (catV (cv29 r0_HarnessBook4) [.d (.sl 1 (List.map e3 r0_bald4)),.fmp (List.map m124_3 mf1)]))] 3 0) ?_
   refine Fi (sT [pR 4 1,(5,jI 0)] [(1,.var 38 [jI r0_1_1,jI r0_1_2])] 3 0) ?_
   refine hQ_10 _ ?_
   obtain rfl:=Option.some.inj h
   exact rT hR_0 (.cons (.agg rfl rfl (Nat.le_of_ble_eq_true rfl)) (.cons (.tmp rfl) .nil))
def g52 (b_HarnessBook:HarnessBook) (b_bald:(List Int)) (mf:List (Harness_want×Int)):Option Int:=(g41 b_HarnessBook b_bald mf).bind fun r0=>(g40 b_HarnessBook b_bald mf r0).bind fun (surely,perhaps)=>(g42 b_HarnessBook b_bald mf (bAndN perhaps surely)).bind fun r0_1=>some (r0_1.length:Int)
def y47 (b_HarnessBook:HarnessBook) (b_bald:(List Int)) (mf:List (Harness_want×Int)):List (Nat×Blk):=[(0,.var 79 (catV (cv29 b_HarnessBook) [.d (.sl 1 (List.map e3 b_bald)),.fmp (List.map m124_3 mf)]))]
theorem k52 (b_HarnessBook:HarnessBook) (b_bald:(List Int)) (mf:List (Harness_want×Int)) (r:Int) (h:g52 b_HarnessBook b_bald mf=some r):SCall Tryd.prog Gs 52 [.agg [.d (.sl 4 (List.map e41 b_HarnessBook.Hair.Hanks)),.d (.sl 3 (List.map e91 b_HarnessBook.Hair.Horses)),jI b_HarnessBook.Hair.Dark,jI b_HarnessBook.Hair.Near,jI b_HarnessBook.Hair.Match,.d (.sl 1 (List.map e42 b_HarnessBook.Needs)),.d (.sl 2 (List.map e38 b_HarnessBook.Stock)),jI b_HarnessBook.Pack,jI b_HarnessBook.Bad,.d (.sl 1 (List.map e3 b_bald)),.fmp (List.map m124_3 mf)]] [] 0 Fr.emp (jI r) [] 0 Fr.emp:=by
 unfold g52 at h
 refine SCall.mkK Tryd.func52 c52 rfl rfl (by kernel_rfl) (fun Q_0 hR_0 hN_0=>?_)
 refine Sa (sT [pR 1 0] (y47 b_HarnessBook b_bald mf) 1 0) ?_
 refine AW.sdrwK fokW (fun Q_1 hQ_1=>?_)
 refine aX 2 (sT [pR 1 0,(6,.agg [.d (.sl 4 (List.map e41 b_HarnessBook.Hair.Hanks)),.d (.sl 3 (List.map e91 b_HarnessBook.Hair.Horses)),jI b_HarnessBook.Hair.Dark,jI b_HarnessBook.Hair.Near,jI b_HarnessBook.Hair.Match,.d (.sl 1 (List.map e42 b_HarnessBook.Needs)),.d (.sl 2 (List.map e38 b_HarnessBook.Stock)),jI b_HarnessBook.Pack,jI b_HarnessBook.Bad,.d (.sl 1 (List.map e3 b_bald)),.fmp (List.map m124_3 mf)]),(7,.agg [.d (.sl 4 (List.map e41 b_HarnessBook.Hair.Hanks)),.d (.sl 3 (List.map e91 b_HarnessBook.Hair.Horses)),jI b_HarnessBook.Hair.Dark,jI b_HarnessBook.Hair.Near,jI b_HarnessBook.Hair.Match,.d (.sl 1 (List.map e42 b_HarnessBook.Needs)),.d (.sl 2 (List.map e38 b_HarnessBook.Stock)),jI b_HarnessBook.Pack,jI b_HarnessBook.Bad,.d (.sl 1 (List.map e3 b_bald)),.fmp (List.map m124_3 mf)])] (y47 b_HarnessBook b_bald mf) 1 0) ?_
 obtain ⟨r0,hx_2,h⟩:=bsome h
 refine r_call trivial rfl (k41 b_HarnessBook b_bald mf _ hx_2) rfl rfl ?_
 obtain ⟨⟨surely,perhaps⟩,hx_3,h⟩:=bsome h
 refine r_call trivial rfl (k40 b_HarnessBook b_bald mf r0 _ hx_3) rfl rfl ?_
 refine aX 5 (sT [pR 1 0,(3,jI surely),(4,jI perhaps)] (y47 b_HarnessBook b_bald mf) 1 0) ?_
 refine Fi (sT [pR 1 0,(3,jI surely),(4,jI perhaps)] (y47 b_HarnessBook b_bald mf) 1 0) ?_
 refine hQ_1 _ ?_
 refine AW.srwK (fun Q_4 hQ_4=>?_)
 refine Au 3 (sT [(12,.agg [.d (.sl 4 (List.map e41 b_HarnessBook.Hair.Hanks)),.d (.sl 3 (List.map e91 b_HarnessBook.Hair.Horses)),jI b_HarnessBook.Hair.Dark,jI b_HarnessBook.Hair.Near,jI b_HarnessBook.Hair.Match,.d (.sl 1 (List.map e42 b_HarnessBook.Needs)),.d (.sl 2 (List.map e38 b_HarnessBook.Stock)),jI b_HarnessBook.Pack,jI b_HarnessBook.Bad,.d (.sl 1 (List.map e3 b_bald)),.fmp (List.map m124_3 mf)]),(13,jI perhaps),(14,jI surely)] [] 1 0) ?_
 refine RW.one fokW (r_andN trivial rfl rfl (r_end ?_))
 obtain ⟨r0_1,hx_5,h⟩:=bsome h
 refine rC (k42 b_HarnessBook b_bald mf (bAndN perhaps surely) _ hx_5) ?_
 refine rL rfl ?_
 refine Au 1 (sT [(2,jI (r0_1.length:Int))] [] 1 0) ?_
 refine RW.nil (hQ_4 _ ?_)
 obtain rfl:=Option.some.inj h
 exact rT hR_0 (.cons (.tmp rfl) .nil)
def g53 (s:(List Span)):Option (List Span):=(must (decide (0<(s.length:Int)))).bind fun _=>(appL 16 ([]:List Span) s).bind fun l=>some l
theorem k53 (s:(List Span)) (r:List Span) (h:g53 s=some r):SCall Tryd.prog Gs 53 [.d (.sl 2 (List.map e38 s))] [] 0 Fr.emp (.own 0 (List.map e38 r).length) [(0,.row 38 2 (List.map e38 r))] 1 Fr.emp:=by
 unfold g53 at h
 refine SCall.mkK Tryd.func53 c53 rfl rfl (by kernel_rfl) (fun Q_0 hR_0 hN_0=>?_)
 refine Sa (sT [(0,.d (.sl 2 (List.map e38 s)))] [] 0 0) ?_
 refine AW.seqK fun K_1 hK_1=>AW.srwK fun Q_2 hQ_2=>?_
 refine Au 1 (sT [(0,.d (.sl 2 (List.map e38 s))),(3,.d (.sl 2 (List.map e38 s)))] [] 0 0) ?_
 obtain ⟨_,hv_3,h⟩:=bsome h
 refine RW.one fokW (r_snil trivial rfl (of_decide_eq_true (must_ok hv_3)) (r_end ?_))
 refine RW.nil (hQ_2 _ ?_)
 refine AW.condF rfl ?_
 refine AW.skip (hK_1 _ ?_)
 refine AW.srwK (fun Q_4 hQ_4=>?_)
 refine Au 2 (sT [(5,.own 0 (List.map e38 []).length),(6,.d (.sl 2 (List.map e38 s)))] [(0,.row 38 2 (List.map e38 []))] 1 0) ?_
 obtain ⟨l,hv_5,h⟩:=bsome h
 refine RW.one fokW (r_apD trivial rfl rfl rfl rfl (apz hv_5 e38) (apr hv_5 e38) (r_end ?_))
 refine Au 1 (sT [(2,.own 0 (List.map e38 l).length)] [(0,.row 38 2 (List.map e38 l))] 1 0) ?_
 refine RW.nil (hQ_4 _ ?_)
 obtain rfl:=Option.some.inj h
 exact rT hR_0 (.cons (.tmp rfl) .nil)
def g22_21 (x:HarnessBook) (r0_HarnessBook4:HarnessBook) (r0_bald4:(List Int)) (mf1:List (Harness_want×Int)) (v:Int) (p:Span):Int→Int→Option Int:=fun v1 worst=>(g53 x.Stock).bind fun r0=>(ixL r0 v).bind fun p1=>(g52 (HarnessBook.mk r0_HarnessBook4.Hair r0_HarnessBook4.Needs (setL r0 v (Span.mk (wr (p.Low+v1)) (wr (p.Low+v1)))) r0_HarnessBook4.Pack r0_HarnessBook4.Bad) r0_bald4 mf1).bind fun r0_2_1=>some (max worst r0_2_1)
def g22_15 (x:HarnessBook) (r0_HarnessBook4:HarnessBook) (r0_bald4:(List Int)) (mf1:List (Harness_want×Int)):Int→Span→(Int×Int)→Option (Int×Int):=fun v p (best,least)=>(forS (g22_21 x r0_HarnessBook4 r0_bald4 mf1 v p) ((((wr ((wr (p.High - p.Low))+1)):Int) - 0).toNat) 0 0).bind fun worst=>bif ((decide (best<0))||(decide (worst<least))) then (some (v,worst)) else (some (best,least))
def g22 (x:HarnessBook):Option (Int×Int):=(g37 x true).bind fun r_35=>match r_35 with | .next (r0_HarnessBook3,r0_bald3,r1_1)=>(must (decide (r1_1≠0))).bind fun _=>some (0,r1_1) | .brk (r0_HarnessBook4,r0_bald4,mf1,r1_2)=>bif (decide (r1_2≠0)) then (some (0,r1_2)) else ((g52 r0_HarnessBook4 r0_bald4 mf1).bind fun r0_2=>bif (decide (r0_2=0)) then (some (0,4)) else ((eachS (g22_15 x r0_HarnessBook4 r0_bald4 mf1) x.Stock 0 ((-1),0)).bind fun (best,least)=>some (best,0)))
theorem k22 (x:HarnessBook) (r:Int×Int) (h:g22 x=some r):SCall Tryd.prog Gs 22 [.agg [.d (.sl 4 (List.map e41 x.Hair.Hanks)),.d (.sl 3 (List.map e91 x.Hair.Horses)),jI x.Hair.Dark,jI x.Hair.Near,jI x.Hair.Match,.d (.sl 1 (List.map e42 x.Needs)),.d (.sl 2 (List.map e38 x.Stock)),jI x.Pack,jI x.Bad]] [] 0 Fr.emp (match r with | (r0_5,r1_5)=>.tup [jI r0_5,jI r1_5]) [] 0 Fr.emp:=by
 unfold g22 at h
 refine SCall.mkK Tryd.func22 c22 rfl rfl (by kernel_rfl) (fun Q_0 hR_0 hN_0=>?_)
 refine Sa (sT [pR 1 0] [(0,.var 29 (cv29 x))] 1 0) ?_
 refine AW.srwK (fun Q_1 hQ_1=>?_)
 refine Au 1 (sT [pR 1 0,(14,.agg [.d (.sl 4 (List.map e41 x.Hair.Hanks)),.d (.sl 3 (List.map e91 x.Hair.Horses)),jI x.Hair.Dark,jI x.Hair.Near,jI x.Hair.Match,.d (.sl 1 (List.map e42 x.Needs)),.d (.sl 2 (List.map e38 x.Stock)),jI x.Pack,jI x.Bad])] [(0,.var 29 (cv29 x))] 1 0) ?_
 obtain ⟨r_35,hx_2,h⟩:=bsome h
 rcases r_35 with (⟨r0_HarnessBook3,r0_bald3,r1_1⟩ | (⟨r0_HarnessBook4,r0_bald4,mf1,r1_2⟩))
 ·refine rC (k37 x true _ hx_2) ?_
  obtain ⟨_,hv_3,h⟩:=bsome h
  have hf_4:=must_ok hv_3
  refine Au 6 (sT [pR 1 0,pR 4 1,(5,jI r1_1)] [(1,.var 79 (catV (cv29 r0_HarnessBook3) [.d (.sl 1 (List.map e3 r0_bald3)),.d (.nilMap)])),(0,.var 29 (cv29 x))] 2 0) ?_
  refine RW.nil (hQ_1 _ ?_)
  refine AW.seqK (fun K_5 hK_5=>?_)
  refine Sa (sT [pR 1 0,pR 4 1,(5,jI r1_1),(19,.d (.bool (decide (r1_1≠0))))] [(1,.var 79 (catV (cv29 r0_HarnessBook3) [.d (.sl 1 (List.map e3 r0_bald3)),.d (.nilMap)])),(0,.var 29 (cv29 x))] 2 0) ?_
  refine AW.cond rfl (fun hb_6=>?_) (fun hb_6=>False.elim (by rw [hf_4] at hb_6;cases hb_6))
  refine Sa (sT [(2,jI 0),(3,jI r1_1)] [] 2 0) ?_
  obtain rfl:=Option.some.inj h
  exact rT hR_0 (.cons (.tmp rfl) (.cons (.tmp rfl) .nil))
 ·refine rC (k37 x true _ hx_2) ?_
  refine Au 6 (sT [pR 1 0,pR 4 1,(5,jI r1_2)] [(1,.var 79 (catV (cv29 r0_HarnessBook4) [.d (.sl 1 (List.map e3 r0_bald4)),.fmp (List.map m124_3 mf1)])),(0,.var 29 (cv29 x))] 2 0) ?_
  refine RW.nil (hQ_1 _ ?_)
  refine AW.seqK (fun K_7 hK_7=>?_)
  refine Sa (sT [pR 1 0,pR 4 1,(5,jI r1_2),(19,.d (.bool (decide (r1_2≠0))))] [(1,.var 79 (catV (cv29 r0_HarnessBook4) [.d (.sl 1 (List.map e3 r0_bald4)),.fmp (List.map m124_3 mf1)])),(0,.var 29 (cv29 x))] 2 0) ?_
  refine AW.cond rfl (fun hb_8=>?_) (fun hb_8=>?_)
  ·have h:=ifT hb_8 h
   refine Sa (sT [(2,jI 0),(3,jI r1_2)] [] 2 0) ?_
   obtain rfl:=Option.some.inj h
   exact rT hR_0 (.cons (.tmp rfl) (.cons (.tmp rfl) .nil))
  ·have h:=ifF hb_8 h
   refine AW.skip (hK_7 _ ?_)
   refine AW.seqK fun K_9 hK_9=>AW.srwK fun Q_10 hQ_10=>?_
   refine Au 1 (sT [pR 1 0,pR 4 1,(21,.agg [.d (.sl 4 (List.map e41 r0_HarnessBook4.Hair.Hanks)),.d (.sl 3 (List.map e91 r0_HarnessBook4.Hair.Horses)),jI r0_HarnessBook4.Hair.Dark,jI r0_HarnessBook4.Hair.Near,jI r0_HarnessBook4.Hair.Match,.d (.sl 1 (List.map e42 r0_HarnessBook4.Needs)),.d (.sl 2 (List.map e38 r0_HarnessBook4.Stock)),jI r0_HarnessBook4.Pack,jI r0_HarnessBook4.Bad,.d (.sl 1 (List.map e3 r0_bald4)),.fmp (List.map m124_3 mf1)])] [(1,.var 79 (catV (cv29 r0_HarnessBook4) [.d (.sl 1 (List.map e3 r0_bald4)),.fmp (List.map m124_3 mf1)])),(0,.var 29 (cv29 x))] 2 0) ?_
   obtain ⟨r0_2,hx_11,h⟩:=bsome h
   refine rC (k52 r0_HarnessBook4 r0_bald4 mf1 _ hx_11) ?_
   refine Au 1 (sT [pR 1 0,pR 4 1,(23,.d (.bool (decide (r0_2=0))))] [(1,.var 79 (catV (cv29 r0_HarnessBook4) [.d (.sl 1 (List.map e3 r0_bald4)),.fmp (List.map m124_3 mf1)])),(0,.var 29 (cv29 x))] 2 0) ?_
   refine RW.nil (hQ_10 _ ?_)
   refine AW.cond rfl (fun hb_12=>?_) (fun hb_12=>?_)
   ·have h:=ifT hb_12 h
    refine Sa (sT [(2,jI 0),(3,jI 4)] [] 2 0) ?_
    obtain rfl:=Option.some.inj h
    exact rT hR_0 (.cons (.tmp rfl) (.cons (.tmp rfl) .nil))
   ·have h:=ifF hb_12 h
    refine AW.skip (hK_9 _ ?_)
    refine Sa (sT [pR 1 0,pR 4 1,(6,jI (-1)),(7,jI 0)] [(1,.var 79 (catV (cv29 r0_HarnessBook4) [.d (.sl 1 (List.map e3 r0_bald4)),.fmp (List.map m124_3 mf1)])),(0,.var 29 (cv29 x))] 2 0) ?_
    refine AW.seqK fun K_13 hK_13=>AW.srwK fun Q_14 hQ_14=>?_
    refine Au 2 (sT [pR 1 0,pR 4 1,(6,jI (-1)),(7,jI 0),(25,.d (.sl 2 (List.map e38 x.Stock)))] [(1,.var 79 (catV (cv29 r0_HarnessBook4) [.d (.sl 1 (List.map e3 r0_bald4)),.fmp (List.map m124_3 mf1)])),(0,.var 29 (cv29 x))] 2 0) ?_
    refine rL rfl ?_
    refine Au 1 (sT [pR 1 0,pR 4 1,(6,jI (-1)),(7,jI 0),(25,.d (.sl 2 (List.map e38 x.Stock))),(26,jI (x.Stock.length:Int)),(27,jI 0)] [(1,.var 79 (catV (cv29 r0_HarnessBook4) [.d (.sl 1 (List.map e3 r0_bald4)),.fmp (List.map m124_3 mf1)])),(0,.var 29 (cv29 x))] 2 0) ?_
    refine RW.nil (hQ_14 _ ?_)
    refine AW.block ?_
    refine AW.sln (t:=25) rfl (fun hN_15=>?_)
    rw [List.length_map] at hN_15
    obtain ⟨out_15,hx_15,h⟩:=bsome h
    refine AW.evSK (fun (v:Int) (⟨best,least⟩:Int×Int)=>(sT [pR 1 0,pR 4 1,(6,jI best),(7,jI least),(25,.d (.sl 2 (List.map e38 x.Stock))),(26,jI (x.Stock.length:Int)),(27,jI v)] [(1,.var 79 (catV (cv29 r0_HarnessBook4) [.d (.sl 1 (List.map e3 r0_bald4)),.fmp (List.map m124_3 mf1)])),(0,.var 29 (cv29 x))] 2 0)) (g22_15 x r0_HarnessBook4 r0_bald4 mf1) hx_15 (Can.kp (by kernel_rfl)) (fun v p s_15 hi_15 hl_15 hp_15 c_15 h K_15 hK_15=>?_) (fun v s_15 hi_15 hl_15 hout=>?_)
    ·obtain ⟨best,least⟩:=s_15
     unfold g22_15 at h
     refine Sa (sT [pR 1 0,pR 4 1,(6,jI best),(7,jI least),(25,.d (.sl 2 (List.map e38 x.Stock))),(26,jI (x.Stock.length:Int)),(27,jI v),(28,.d (.bool (decide (v<(x.Stock.length:Int)))))] [(1,.var 79 (catV (cv29 r0_HarnessBook4) [.d (.sl 1 (List.map e3 r0_bald4)),.fmp (List.map m124_3 mf1)])),(0,.var 29 (cv29 x))] 2 0) ?_
     refine AW.seqK (fun K_16 hK_16=>?_)
     refine AW.cond rfl (fun hb_17=>?_) (fun hb_17=>False.elim (by have:=of_decide_eq_false hb_17;omega))
     refine AW.skip (hK_16 _ ?_)
     refine AW.seqK (fun K_18 hK_18=>?_)
     refine AW.block ?_
     refine AW.srwK (fun Q_19 hQ_19=>?_)
     refine Au 1 (sT [pR 1 0,pR 4 1,(6,jI best),(7,jI least),(25,.d (.sl 2 (List.map e38 x.Stock))),(26,jI (x.Stock.length:Int)),(27,jI v),(29,jI v)] [(1,.var 79 (catV (cv29 r0_HarnessBook4) [.d (.sl 1 (List.map e3 r0_bald4)),.fmp (List.map m124_3 mf1)])),(0,.var 29 (cv29 x))] 2 0) ?_
     refine RW.one fokW (r_iaD trivial rfl rfl hi_15 (row:=e38 p) (mapget hp_15) (r_end ?_))
     refine Au 4 (sT [pR 1 0,pR 4 1,(6,jI best),(7,jI least),(8,jI v),pR 9 2,(25,.d (.sl 2 (List.map e38 x.Stock))),(26,jI (x.Stock.length:Int)),(27,jI v)] [(2,.var 38 [jI p.Low,jI p.High]),(1,.var 79 (catV (cv29 r0_HarnessBook4) [.d (.sl 1 (List.map e3 r0_bald4)),.fmp (List.map m124_3 mf1)])),(0,.var 29 (cv29 x))] 3 0) ?_
     refine RW.nil (hQ_19 _ ?_)
     refine Sa (sT [pR 1 0,pR 4 1,(6,jI best),(7,jI least),(8,jI v),pR 9 2,(10,jI 0),(25,.d (.sl 2 (List.map e38 x.Stock))),(26,jI (x.Stock.length:Int)),(27,jI v)] [(2,.var 38 [jI p.Low,jI p.High]),(1,.var 79 (catV (cv29 r0_HarnessBook4) [.d (.sl 1 (List.map e3 r0_bald4)),.fmp (List.map m124_3 mf1)])),(0,.var 29 (cv29 x))] 3 0) ?_
     refine AW.seqK (fun K_20 hK_20=>?_)
     refine Sa (sT [pR 1 0,pR 4 1,(6,jI best),(7,jI least),(8,jI v),pR 9 2,(10,jI 0),(25,.d (.sl 2 (List.map e38 x.Stock))),(26,jI (x.Stock.length:Int)),(27,jI v),(37,jI (wr ((wr (p.High - p.Low))+1))),(38,jI 0)] [(2,.var 38 [jI p.Low,jI p.High]),(1,.var 79 (catV (cv29 r0_HarnessBook4) [.d (.sl 1 (List.map e3 r0_bald4)),.fmp (List.map m124_3 mf1)])),(0,.var 29 (cv29 x))] 3 0) ?_
     refine AW.block ?_
     have hN_21:(wr ((wr (p.High - p.Low))+1))≤9223372036854775807:=(wr_range _).2
     obtain ⟨out_21,hx_21,h⟩:=bsome h
     refine AW.lpSK (fun (v1:Int) (worst:Int)=>(sT [pR 1 0,pR 4 1,(6,jI best),(7,jI least),(8,jI v),pR 9 2,(10,jI worst),(25,.d (.sl 2 (List.map e38 x.Stock))),(26,jI (x.Stock.length:Int)),(27,jI v),(37,jI (wr ((wr (p.High - p.Low))+1))),(38,jI v1)] [(2,.var 38 [jI p.Low,jI p.High]),(1,.var 79 (catV (cv29 r0_HarnessBook4) [.d (.sl 1 (List.map e3 r0_bald4)),.fmp (List.map m124_3 mf1)])),(0,.var 29 (cv29 x))] 3 0)) (g22_21 x r0_HarnessBook4 r0_bald4 mf1 v p) ((wr ((wr (p.High - p.Low))+1))) hx_21 (Can.kp (by kernel_rfl)) (fun v1 worst hi_21 hl_21 c_21 h K_21 hK_21=>?_) (fun v1 worst hi_21 hl_21 hout=>?_)
     ·unfold g22_21 at h
      refine Sa (sT [pR 1 0,pR 4 1,(6,jI best),(7,jI least),(8,jI v),pR 9 2,(10,jI worst),(25,.d (.sl 2 (List.map e38 x.Stock))),(26,jI (x.Stock.length:Int)),(27,jI v),(37,jI (wr ((wr (p.High - p.Low))+1))),(38,jI v1),(39,.d (.bool (decide (v1<(wr ((wr (p.High - p.Low))+1))))))] [(2,.var 38 [jI p.Low,jI p.High]),(1,.var 79 (catV (cv29 r0_HarnessBook4) [.d (.sl 1 (List.map e3 r0_bald4)),.fmp (List.map m124_3 mf1)])),(0,.var 29 (cv29 x))] 3 0) ?_
      refine AW.seqK (fun K_22 hK_22=>?_)
      refine AW.cond rfl (fun hb_23=>?_) (fun hb_23=>False.elim (by have:=of_decide_eq_false hb_23;omega))
      refine AW.skip (hK_22 _ ?_)
      refine AW.seqK (fun K_24 hK_24=>?_)
      refine AW.block ?_
      refine Sa (sT [pR 1 0,pR 4 1,(6,jI best),(7,jI least),(8,jI v),pR 9 2,(10,jI worst),(11,jI v1),(25,.d (.sl 2 (List.map e38 x.Stock))),(26,jI (x.Stock.length:Int)),(27,jI v),(37,jI (wr ((wr (p.High - p.Low))+1))),(38,jI v1)] [(2,.var 38 [jI p.Low,jI p.High]),(1,.var 79 (catV (cv29 r0_HarnessBook4) [.d (.sl 1 (List.map e3 r0_bald4)),.fmp (List.map m124_3 mf1)])),(0,.var 29 (cv29 x))] 3 0) ?_
      refine Sa (sT [pR 1 0,pR 4 1,(6,jI best),(7,jI least),(8,jI v),pR 9 2,(10,jI worst),(11,jI v1),pR 12 3,(25,.d (.sl 2 (List.map e38 x.Stock))),(26,jI (x.Stock.length:Int)),(27,jI v),(37,jI (wr ((wr (p.High - p.Low))+1))),(38,jI v1)] [(3,.var 79 (catV (cv29 r0_HarnessBook4) [.d (.sl 1 (List.map e3 r0_bald4)),.fmp (List.map m124_3 mf1)])),(2,.var 38 [jI p.Low,jI p.High]),(1,.var 79 (catV (cv29 r0_HarnessBook4) [.d (.sl 1 (List.map e3 r0_bald4)),.fmp (List.map m124_3 mf1)])),(0,.var 29 (cv29 x))] 4 0) ?_
      refine AW.srwK (fun Q_25 hQ_25=>?_)
      refine Au 2 (sT [pR 1 0,pR 4 1,(6,jI best),(7,jI least),(8,jI v),pR 9 2,(10,jI worst),(11,jI v1),pR 12 3,(25,.d (.sl 2 (List.map e38 x.Stock))),(26,jI (x.Stock.length:Int)),(27,jI v),(37,jI (wr ((wr (p.High - p.Low))+1))),(38,jI v1),(43,.d (.sl 2 (List.map e38 x.Stock)))] [(3,.var 79 (catV (cv29 r0_HarnessBook4) [.d (.sl 1 (List.map e3 r0_bald4)),.fmp (List.map m124_3 mf1)])),(2,.var 38 [jI p.Low,jI p.High]),(1,.var 79 (catV (cv29 r0_HarnessBook4) [.d (.sl 1 (List.map e3 r0_bald4)),.fmp (List.map m124_3 mf1)])),(0,.var 29 (cv29 x))] 4 0) ?_
      obtain ⟨r0,hx_26,h⟩:=bsome h
      refine RW.one fokW (r_callS (zr:=[]) [] trivial rfl (k53 x.Stock _ hx_26) trivial rfl rfl ⟨.refl _,trivial⟩ rfl rfl rfl (r_end ?_))
      refine Au 3 (sT [pR 1 0,pR 4 1,(6,jI best),(7,jI least),(8,jI v),pR 9 2,(10,jI worst),(11,jI v1),pR 12 3,(25,.d (.sl 2 (List.map e38 x.Stock))),(26,jI (x.Stock.length:Int)),(27,jI v),(37,jI (wr ((wr (p.High - p.Low))+1))),(38,jI v1)] [(3,.var 79 (catV (cv25 r0_HarnessBook4.Hair) [.d (.sl 1 (List.map e42 r0_HarnessBook4.Needs)),.own 4 (List.map e38 r0).length,jI r0_HarnessBook4.Pack,jI r0_HarnessBook4.Bad,.d (.sl 1 (List.map e3 r0_bald4)),.fmp (List.map m124_3 mf1)])),(4,.row 38 2 (List.map e38 r0)),(2,.var 38 [jI p.Low,jI p.High]),(1,.var 79 (catV (cv29 r0_HarnessBook4) [.d (.sl 1 (List.map e3 r0_bald4)),.fmp (List.map m124_3 mf1)])),(0,.var 29 (cv29 x))] 5 0) ?_
      refine RW.nil (hQ_25 _ ?_)
      refine AW.srwK (fun Q_27 hQ_27=>?_)
      refine Au 13 (sT [pR 1 0,pR 4 1,(6,jI best),(7,jI least),(8,jI v),pR 9 2,(10,jI worst),pR 12 3,(25,.d (.sl 2 (List.map e38 x.Stock))),(26,jI (x.Stock.length:Int)),(27,jI v),(37,jI (wr ((wr (p.High - p.Low))+1))),(38,jI v1),(49,.own 4 (List.map e38 r0).length),(50,jI v),(59,.agg [jI (wr (p.Low+v1)),jI (wr (p.Low+v1))])] [(3,.var 79 (catV (cv25 r0_HarnessBook4.Hair) [.d (.sl 1 (List.map e42 r0_HarnessBook4.Needs)),.own 4 (List.map e38 r0).length,jI r0_HarnessBook4.Pack,jI r0_HarnessBook4.Bad,.d (.sl 1 (List.map e3 r0_bald4)),.fmp (List.map m124_3 mf1)])),(4,.row 38 2 (List.map e38 r0)),(2,.var 38 [jI p.Low,jI p.High]),(1,.var 79 (catV (cv29 r0_HarnessBook4) [.d (.sl 1 (List.map e3 r0_bald4)),.fmp (List.map m124_3 mf1)])),(0,.var 29 (cv29 x))] 5 0) ?_
      obtain ⟨p1,hv_28,h⟩:=bsome h
      refine RW.one fokW (r_iaO trivial rfl rfl rfl (ixL_ok hv_28).1 (ix_lt (ixL_ok hv_28).2) rfl (r_end ?_))
      refine RW.one fokW (r_stE trivial rfl rfl rfl rfl (mapget (f:=e38) (ixL_ok hv_28).2) rfl rfl rfl (Nat.le_of_ble_eq_true rfl) (stz (f:=e38) (x:=(Span.mk (wr (p.Low+v1)) (wr (p.Low+v1)))) rfl) (r_end ?_))
      rw [lenset (f:=e38) (xs:=r0) (i:=v) (x:=(Span.mk (wr (p.Low+v1)) (wr (p.Low+v1))))]
      refine RW.nil (hQ_27 _ ?_)
      refine AW.can (Can.fzH 3 6 4 rfl rfl rfl rfl) ?_
      refine AW.kp (sT [pR 1 0,pR 4 1,(6,jI best),(7,jI least),(8,jI v),pR 9 2,(10,jI worst),pR 12 3,(25,.d (.sl 2 (List.map e38 x.Stock))),(26,jI (x.Stock.length:Int)),(27,jI v),(37,jI (wr ((wr (p.High - p.Low))+1))),(38,jI v1)] [(3,.var 79 (catV (cv25 r0_HarnessBook4.Hair) [.d (.sl 1 (List.map e42 r0_HarnessBook4.Needs)),.d (.sl 2 (List.map e38 (setL r0 v (Span.mk (wr (p.Low+v1)) (wr (p.Low+v1)))))),jI r0_HarnessBook4.Pack,jI r0_HarnessBook4.Bad,.d (.sl 1 (List.map e3 r0_bald4)),.fmp (List.map m124_3 mf1)])),(2,.var 38 [jI p.Low,jI p.High]),(1,.var 79 (catV (cv29 r0_HarnessBook4) [.d (.sl 1 (List.map e3 r0_bald4)),.fmp (List.map m124_3 mf1)])),(0,.var 29 (cv29 x))] 5 0) (by kernel_rfl) ?_
      refine AW.rw ?_
      refine Au 2 (sT [pR 1 0,pR 4 1,(6,jI best),(7,jI least),(8,jI v),pR 9 2,(25,.d (.sl 2 (List.map e38 x.Stock))),(26,jI (x.Stock.length:Int)),(27,jI v),(37,jI (wr ((wr (p.High - p.Low))+1))),(38,jI v1),(61,jI worst),(62,.agg [.d (.sl 4 (List.map e41 r0_HarnessBook4.Hair.Hanks)),.d (.sl 3 (List.map e91 r0_HarnessBook4.Hair.Horses)),jI r0_HarnessBook4.Hair.Dark,jI r0_HarnessBook4.Hair.Near,jI r0_HarnessBook4.Hair.Match,.d (.sl 1 (List.map e42 r0_HarnessBook4.Needs)),.d (.sl 2 (List.map e38 (setL r0 v (Span.mk (wr (p.Low+v1)) (wr (p.Low+v1)))))),jI r0_HarnessBook4.Pack,jI r0_HarnessBook4.Bad,.d (.sl 1 (List.map e3 r0_bald4)),.fmp (List.map m124_3 mf1)])] [(2,.var 38 [jI p.Low,jI p.High]),(1,.var 79 (catV (cv29 r0_HarnessBook4) [.d (.sl 1 (List.map e3 r0_bald4)),.fmp (List.map m124_3 mf1)])),(0,.var 29 (cv29 x))] 5 0) ?_
      obtain ⟨r0_2_1,hx_30,h⟩:=bsome h
      refine rC (k52 (HarnessBook.mk r0_HarnessBook4.Hair r0_HarnessBook4.Needs (setL r0 v (Span.mk (wr (p.Low+v1)) (wr (p.Low+v1)))) r0_HarnessBook4.Pack r0_HarnessBook4.Bad) r0_bald4 mf1 _ hx_30) ?_
      refine Au 2 (sT [pR 1 0,pR 4 1,(6,jI best),(7,jI least),(8,jI v),pR 9 2,(10,jI (max worst r0_2_1)),(25,.d (.sl 2 (List.map e38 x.Stock))),(26,jI (x.Stock.length:Int)),(27,jI v),(37,jI (wr ((wr (p.High - p.Low))+1))),(38,jI v1)] [(2,.var 38 [jI p.Low,jI p.High]),(1,.var 79 (catV (cv29 r0_HarnessBook4) [.d (.sl 1 (List.map e3 r0_bald4)),.fmp (List.map m124_3 mf1)])),(0,.var 29 (cv29 x))] 5 0) ?_
      refine RW.nil ?_
      refine hK_24 _ ?_
      refine Ra (sT [pR 1 0,pR 4 1,(6,jI best),(7,jI least),(8,jI v),pR 9 2,(10,jI (max worst r0_2_1)),(25,.d (.sl 2 (List.map e38 x.Stock))),(26,jI (x.Stock.length:Int)),(27,jI v),(37,jI (wr ((wr (p.High - p.Low))+1))),(38,jI (wr (v1+1)))] [(2,.var 38 [jI p.Low,jI p.High]),(1,.var 79 (catV (cv29 r0_HarnessBook4) [.d (.sl 1 (List.map e3 r0_bald4)),.fmp (List.map m124_3 mf1)])),(0,.var 29 (cv29 x))] 5 0) ?_
      obtain rfl:=Option.some.inj h
      have ew:wr (v1+1)=v1+1:=inext (N:=(wr ((wr (p.High - p.Low))+1))) (by omega) (by omega) (by omega)
      rw [ew]
      exact hK_21 _ (Can.kp (by kernel_rfl))
     ·subst hout
      refine Sa (sT [pR 1 0,pR 4 1,(6,jI best),(7,jI least),(8,jI v),pR 9 2,(10,jI worst),(25,.d (.sl 2 (List.map e38 x.Stock))),(26,jI (x.Stock.length:Int)),(27,jI v),(37,jI (wr ((wr (p.High - p.Low))+1))),(38,jI v1),(39,.d (.bool (decide (v1<(wr ((wr (p.High - p.Low))+1))))))] [(2,.var 38 [jI p.Low,jI p.High]),(1,.var 79 (catV (cv29 r0_HarnessBook4) [.d (.sl 1 (List.map e3 r0_bald4)),.fmp (List.map m124_3 mf1)])),(0,.var 29 (cv29 x))] 3 0) ?_
      refine AW.seqK (fun K_31 hK_31=>?_)
      refine AW.cond rfl (fun hb_32=>False.elim (by have:=of_decide_eq_true hb_32;omega)) (fun hb_32=>?_)
      refine AW.exit ?_
      refine hK_20 _ ?_
      refine AW.sa fokW [68] (sT [pR 1 0,pR 4 1,(6,jI best),(7,jI least),(8,jI v),(10,jI worst),(25,.d (.sl 2 (List.map e38 x.Stock))),(26,jI (x.Stock.length:Int)),(27,jI v),(72,.d (.bool ((decide (best<0))||(decide (worst<least)))))] [(1,.var 79 (catV (cv29 r0_HarnessBook4) [.d (.sl 1 (List.map e3 r0_bald4)),.fmp (List.map m124_3 mf1)])),(0,.var 29 (cv29 x))] 3 0) (by kernel_rfl) ?_
      refine AW.cond rfl (fun hb_33=>?_) (fun hb_33=>?_)
      ·have h:=ifT hb_33 h
       refine Ra (sT [pR 1 0,pR 4 1,(6,jI v),(7,jI worst),(25,.d (.sl 2 (List.map e38 x.Stock))),(26,jI (x.Stock.length:Int)),(27,jI v)] [(1,.var 79 (catV (cv29 r0_HarnessBook4) [.d (.sl 1 (List.map e3 r0_bald4)),.fmp (List.map m124_3 mf1)])),(0,.var 29 (cv29 x))] 3 0) ?_
       refine hK_18 _ ?_
       refine Ra (sT [pR 1 0,pR 4 1,(6,jI v),(7,jI worst),(25,.d (.sl 2 (List.map e38 x.Stock))),(26,jI (x.Stock.length:Int)),(27,jI (wr (v+1)))] [(1,.var 79 (catV (cv29 r0_HarnessBook4) [.d (.sl 1 (List.map e3 r0_bald4)),.fmp (List.map m124_3 mf1)])),(0,.var 29 (cv29 x))] 3 0) ?_
       obtain rfl:=Option.some.inj h
       have ew:wr (v+1)=v+1:=inext (N:=(x.Stock.length:Int)) (by omega) (by omega) (by omega)
       rw [ew]
       exact hK_15 _ (Can.kp (by kernel_rfl))
      ·have h:=ifF hb_33 h
       refine AW.skip (hK_18 _ ?_)
       refine Ra (sT [pR 1 0,pR 4 1,(6,jI best),(7,jI least),(25,.d (.sl 2 (List.map e38 x.Stock))),(26,jI (x.Stock.length:Int)),(27,jI (wr (v+1)))] [(1,.var 79 (catV (cv29 r0_HarnessBook4) [.d (.sl 1 (List.map e3 r0_bald4)),.fmp (List.map m124_3 mf1)])),(0,.var 29 (cv29 x))] 3 0) ?_
       obtain rfl:=Option.some.inj h
       have ew:wr (v+1)=v+1:=inext (N:=(x.Stock.length:Int)) (by omega) (by omega) (by omega)
       rw [ew]
       exact hK_15 _ (Can.kp (by kernel_rfl))
    ·obtain ⟨best,least⟩:=s_15
     subst hout
     refine Sa (sT [pR 1 0,pR 4 1,(6,jI best),(7,jI least),(25,.d (.sl 2 (List.map e38 x.Stock))),(26,jI (x.Stock.length:Int)),(27,jI v),(28,.d (.bool (decide (v<(x.Stock.length:Int)))))] [(1,.var 79 (catV (cv29 r0_HarnessBook4) [.d (.sl 1 (List.map e3 r0_bald4)),.fmp (List.map m124_3 mf1)])),(0,.var 29 (cv29 x))] 2 0) ?_
     refine AW.seqK (fun K_34 hK_34=>?_)
     refine AW.cond rfl (fun hb_35=>False.elim (by have:=of_decide_eq_true hb_35;omega)) (fun hb_35=>?_)
     refine AW.exit ?_
     refine hK_13 _ ?_
     refine Sa (sT [(2,jI best),(3,jI 0)] [] 2 0) ?_
     obtain rfl:=Option.some.inj h
     exact rT hR_0 (.cons (.tmp rfl) (.cons (.tmp rfl) .nil))
def g23_2:Int→Int→Int→Option Int:=fun i p sum=>some (wr (sum+p))
def g23 (l:(List Int)):Option Int:=(eachS g23_2 l 0 0).bind fun sum=>some sum
theorem k23 (l:(List Int)) (r:Int) (h:g23 l=some r):SCall Tryd.prog Gs 23 [.d (.sl 1 (List.map e3 l))] [] 0 Fr.emp (jI r) [] 0 Fr.emp:=by
 unfold g23 at h
 refine SCall.mkK Tryd.func23 c23 rfl rfl (by kernel_rfl) (fun Q_0 hR_0 hN_0=>?_)
 refine Sa (sT [(0,.d (.sl 1 (List.map e3 l)))] [] 0 0) ?_
 refine Sa (sT [(0,.d (.sl 1 (List.map e3 l))),(3,jI 0)] [] 0 0) ?_
 refine AW.seqK (fun K_1 hK_1=>?_)
 refine Sa (sT [(0,.d (.sl 1 (List.map e3 l))),(3,jI 0),(4,jI 0)] [] 0 0) ?_
 refine AW.block ?_
 refine AW.sln (t:=0) rfl (fun hN_2=>?_)
 rw [List.length_map] at hN_2
 obtain ⟨out_2,hx_2,h⟩:=bsome h
 refine AW.evSK (fun (i:Int) (sum:Int)=>(sT [(0,.d (.sl 1 (List.map e3 l))),(3,jI sum),(4,jI i)] [] 0 0)) g23_2 hx_2 (Can.kp (by kernel_rfl)) (fun i p sum hi_2 hl_2 hp_2 c_2 h K_2 hK_2=>?_) (fun i sum hi_2 hl_2 hout=>?_)
 ·unfold g23_2 at h
  refine AW.seqK fun K_3 hK_3=>AW.srwK fun Q_4 hQ_4=>?_
  refine Au 2 (sT [(0,.d (.sl 1 (List.map e3 l))),(3,jI sum),(4,jI i),(5,jI i),(6,.d (.sl 1 (List.map e3 l)))] [] 0 0) ?_
  refine rL rfl ?_
  refine Au 1 (sT [(0,.d (.sl 1 (List.map e3 l))),(3,jI sum),(4,jI i),(8,.d (.bool (decide (i<(l.length:Int)))))] [] 0 0) ?_
  refine RW.nil (hQ_4 _ ?_)
  refine AW.cond rfl (fun hb_5=>?_) (fun hb_5=>False.elim (by have:=of_decide_eq_false hb_5;omega))
  refine AW.skip (hK_3 _ ?_)
  refine AW.seqK (fun K_6 hK_6=>?_)
  refine AW.block ?_
  refine AW.rw ?_
  refine Au 3 (sT [(0,.d (.sl 1 (List.map e3 l))),(4,jI i),(11,jI sum),(12,.d (.sl 1 (List.map e3 l))),(13,jI i)] [] 0 0) ?_
  refine RW.one fokW (r_iaD trivial rfl rfl hi_2 (row:=e3 p) (mapget hp_2) (r_end ?_))
  refine Au 3 (sT [(0,.d (.sl 1 (List.map e3 l))),(3,jI (wr (sum+p))),(4,jI i)] [] 0 0) ?_
  refine RW.nil ?_
  refine hK_6 _ ?_
  refine Ra (sT [(0,.d (.sl 1 (List.map e3 l))),(3,jI (wr (sum+p))),(4,jI (wr (i+1)))] [] 0 0) ?_
  obtain rfl:=Option.some.inj h
  have ew:wr (i+1)=i+1:=inext (N:=(l.length:Int)) (by omega) (by omega) (by omega)
  rw [ew]
  exact hK_2 _ (Can.kp (by kernel_rfl))
 ·subst hout
  refine AW.seqK fun K_8 hK_8=>AW.srwK fun Q_9 hQ_9=>?_
  refine Au 2 (sT [(0,.d (.sl 1 (List.map e3 l))),(3,jI sum),(4,jI i),(5,jI i),(6,.d (.sl 1 (List.map e3 l)))] [] 0 0) ?_
  refine rL rfl ?_
  refine Au 1 (sT [(0,.d (.sl 1 (List.map e3 l))),(3,jI sum),(4,jI i),(8,.d (.bool (decide (i<(l.length:Int)))))] [] 0 0) ?_
  refine RW.nil (hQ_9 _ ?_)
  refine AW.cond rfl (fun hb_10=>False.elim (by have:=of_decide_eq_true hb_10;omega)) (fun hb_10=>?_)
  refine AW.exit ?_
  refine hK_1 _ ?_
  refine Sa (sT [(2,jI sum)] [] 0 0) ?_
  obtain rfl:=Option.some.inj h
  exact rT hR_0 (.cons (.tmp rfl) .nil)
end Go.Proofs.Tt
namespace Go.Proofs.Tt
open Go Go.Abs Go.Proofs
def g4_25 (r0_2:(List Int)):Int→Int→(List Int)→Option (List Int):=fun v p1 l3=>(g17 r0_2 v).bind fun r0_1_1=>bif (decide (r0_1_1<0)) then ((appL 8 l3 [v]).bind fun l4=>some l4) else (some l3)
def g4_8 (t:HarnessBook):Int→(List Int)→(List (List Int))→Option (List (List Int)):=fun y p l=>(mkL2 8 (t.Stock.length:Int) (t.Stock.length:Int) 0).bind fun l1=>(appL 24 l [l1]).bind fun l2=>some l2
def g4 (t:HarnessBook) (o:Int):Option Bool:=(g5 t).bind fun r0_4=>bif (!r0_4) then ((g6).bind fun r0_8=>some r0_8) else ((eachS (g4_8 t) t.Needs 0 ([]:List (List Int))).bind fun l=>(g16 t.Hair).bind fun (r0_2,r1_1)=>(must (decide (0≤(t.Needs.length:Int)))).bind fun _=>(g12 (wr ((shl64 1 (t.Needs.length:Int)) - 1)) (t.Needs.length:Int)).bind fun r0_1=>(eachS (g4_25 r0_2) r0_1 0 ([]:List Int)).bind fun l3=>(g13 (HarnessBook.mk t.Hair l t.Stock t.Pack t.Bad)).bind fun (r0_4_1,r1_4)=>(g18 (HarnessBook.mk t.Hair l t.Stock t.Pack t.Bad)).bind fun (r0_4_2,r1_4_1)=>(g14 (HarnessBook.mk t.Hair l t.Stock t.Pack t.Bad)).bind fun (r0_2_1,r1_4_2)=>(g19 (HarnessBook.mk t.Hair l t.Stock t.Pack t.Bad)).bind fun (r0_5,r1_4_3)=>bindC ((bif (decide (r1_1≠0)) then (some true) else (bif (decide (r1_4≠0)) then (some true) else (bif (decide (r1_4_1≠0)) then (some true) else (bif (decide (r1_4_2≠0)) then (some true) else (bif (decide (r1_4_3≠0)) then (some true) else ((g15 r0_4_1 l3).bind fun r0=>bif (!r0) then (some true) else ((g15 r0_4_2 l3).bind fun r0_3=>bif (!r0_3) then (some true) else ((g15 r0_2_1 r0_1).bind fun r0_6=>bif (!r0_6) then (some true) else ((g9 (l3.length:Int)).bind fun r0_7=>some (true != ((r0_5.Low==r0_7.Low)&&((r0_5.High==r0_7.High)&&true)))))))))))).bind fun v1=>bif v1 then (some (.brk false)) else (some (.next ())):Option (Ctl (Unit) (Bool))) fun _=>(g7 o (t.Stock.length:Int)).bind fun r0_2_2=>(g10 (HarnessBook.mk t.Hair l t.Stock t.Pack t.Bad)).bind fun (r0_3_1,r1_4_4)=>(g20 (HarnessBook.mk t.Hair l t.Stock t.Pack t.Bad) r0_2_2).bind fun (r0_3_2,r1_4_5)=>(g21 (HarnessBook.mk t.Hair l t.Stock t.Pack t.Bad) r0_2_2).bind fun (r0_4_3,r1_4_6)=>(g22 (HarnessBook.mk t.Hair l t.Stock t.Pack t.Bad)).bind fun (r0_5_1,r1_5)=>(bif (decide (r1_4_4=0)) then (bif (decide (r1_4_5=0)) then (bif (decide (r1_4_6=0)) then (bif (decide (r1_5=4)) then (bif (decide ((r0_3_1.length:Int)=(t.Stock.length:Int))) then ((g23 r0_3_1).bind fun r0_9=>bif (decide (r0_9=0)) then ((g9 0).bind fun r0_10=>bif (false != ((r0_3_2.Low==r0_10.Low)&&((r0_3_2.High==r0_10.High)&&true))) then ((ixL t.Stock r0_2_2).bind fun p2=>bif (false != ((r0_4_3.Low==p2.Low)&&((r0_4_3.High==p2.High)&&true))) then ((g6).bind fun r0_8_1=>some r0_8_1) else (some false)) else (some false)) else (some false)) else (some false)) else (some false)) else (some false)) else (some false)) else (some false)).bind fun r_=>some r_)
def y48 (t:HarnessBook):List (Nat×Blk):=[(1,.var 29 (catV (cv25 t.Hair) [.d (.nilSl),.d (.sl 2 (List.map e38 t.Stock)),jI t.Pack,jI t.Bad])),(0,.var 29 (cv29 t))]
def y49 (t:HarnessBook) (l:List (List Int)):List (Nat×Blk):=[(1,.var 29 (catV (cv25 t.Hair) [.own 2 (List.map e42 l).length,.d (.sl 2 (List.map e38 t.Stock)),jI t.Pack,jI t.Bad])),(2,.row 42 1 (List.map e42 l)),(0,.var 29 (cv29 t))]
def y50 (t:HarnessBook) (l2:List ((List Int))):List (Nat×Blk):=[(1,.var 29 (catV (cv25 t.Hair) [.own 2 (List.map e42 l2).length,.d (.sl 2 (List.map e38 t.Stock)),jI t.Pack,jI t.Bad])),(2,.row 42 1 (List.map e42 l2)),(0,.var 29 (cv29 t))]
def y51 (l3:List Int) (t:HarnessBook) (l:List (List Int)):List (Nat×Blk):=[(3,.row 3 1 (List.map e3 l3)),(1,.var 29 (catV (cv25 t.Hair) [.own 2 (List.map e42 l).length,.d (.sl 2 (List.map e38 t.Stock)),jI t.Pack,jI t.Bad])),(2,.row 42 1 (List.map e42 l)),(0,.var 29 (cv29 t))]
def y52 (l4:List Int) (t:HarnessBook) (l:List (List Int)):List (Nat×Blk):=[(3,.row 3 1 (List.map e3 l4)),(1,.var 29 (catV (cv25 t.Hair) [.own 2 (List.map e42 l).length,.d (.sl 2 (List.map e38 t.Stock)),jI t.Pack,jI t.Bad])),(2,.row 42 1 (List.map e42 l)),(0,.var 29 (cv29 t))]
def y53 (t:HarnessBook) (l:List (List Int)) (l3:List Int):List (Nat×Blk):=[(1,.var 29 (catV (cv25 t.Hair) [.d (.sl 1 (List.map e42 l)),.d (.sl 2 (List.map e38 t.Stock)),jI t.Pack,jI t.Bad])),(3,.row 3 1 (List.map e3 l3)),(0,.var 29 (cv29 t))]
def y54 (t:HarnessBook) (l:List (List Int)):List (Nat×Blk):=[(1,.var 29 (catV (cv25 t.Hair) [.d (.sl 1 (List.map e42 l)),.d (.sl 2 (List.map e38 t.Stock)),jI t.Pack,jI t.Bad])),(0,.var 29 (cv29 t))]
theorem k4 (t:HarnessBook) (o:Int) (r:Bool) (h:g4 t o=some r):SCall Tryd.prog Gs 4 [.agg [.d (.sl 4 (List.map e41 t.Hair.Hanks)),.d (.sl 3 (List.map e91 t.Hair.Horses)),jI t.Hair.Dark,jI t.Hair.Near,jI t.Hair.Match,.d (.sl 1 (List.map e42 t.Needs)),.d (.sl 2 (List.map e38 t.Stock)),jI t.Pack,jI t.Bad],jI o] [] 0 Fr.emp (.d (.bool r)) [] 0 Fr.emp:=by
 unfold g4 at h
 refine SCall.mkK Tryd.func4 c4 rfl rfl (by kernel_rfl) (fun Q_0 hR_0 hN_0=>?_)
 refine Sa (sT [(1,jI o),pR 2 0] [(0,.var 29 (cv29 t))] 1 0) ?_
 refine AW.seqK fun K_1 hK_1=>AW.srwK fun Q_2 hQ_2=>?_
 refine Au 1 (sT [(1,jI o),pR 2 0,(24,.agg [.d (.sl 4 (List.map e41 t.Hair.Hanks)),.d (.sl 3 (List.map e91 t.Hair.Horses)),jI t.Hair.Dark,jI t.Hair.Near,jI t.Hair.Match,.d (.sl 1 (List.map e42 t.Needs)),.d (.sl 2 (List.map e38 t.Stock)),jI t.Pack,jI t.Bad])] [(0,.var 29 (cv29 t))] 1 0) ?_
 obtain ⟨r0_4,hx_3,h⟩:=bsome h
 refine rC (k5 t _ hx_3) ?_
 refine Au 1 (sT [(1,jI o),pR 2 0,(26,.d (.bool (!r0_4)))] [(0,.var 29 (cv29 t))] 1 0) ?_
 refine RW.nil (hQ_2 _ ?_)
 refine AW.cond rfl (fun hb_4=>?_) (fun hb_4=>?_)
 ·have h:=ifT hb_4 h
  refine AW.srwK (fun Q_5 hQ_5=>?_)
  obtain ⟨r0_8,hx_6,h⟩:=bsome h
  refine rC (k6 _ hx_6) ?_
  refine Au 1 (sT [(4,.d (.bool r0_8))] [] 1 0) ?_
  refine RW.nil (hQ_5 _ ?_)
  obtain rfl:=Option.some.inj h
  exact rT hR_0 (.cons (.tmp rfl) .nil)
 ·have h:=ifF hb_4 h
  refine AW.skip (hK_1 _ ?_)
  refine Sa (sT [(1,jI o),pR 2 0,pR 5 1] [(1,.var 29 (cv29 t)),(0,.var 29 (cv29 t))] 2 0) ?_
  refine Sa (sT [(1,jI o),pR 2 0,pR 5 1] (y48 t) 2 0) ?_
  refine AW.seqK (fun K_7 hK_7=>?_)
  refine Sa (sT [(1,jI o),pR 2 0,pR 5 1,(6,jI 0)] (y48 t) 2 0) ?_
  refine AW.block ?_
  refine AW.slh (r:=0) (off:=5) rfl rfl (fun hN_8=>?_)
  rw [List.length_map] at hN_8
  obtain ⟨out_8,hx_8,h⟩:=bsome h
  refine AW.evSK (fun (y:Int) (l:List (List Int))=>(sT [(1,jI o),pR 2 0,pR 5 1,(6,jI y)] (y49 t l) 3 0)) (g4_8 t) hx_8 (Can.trans (Can.thawH 1 5 29 42 1 rfl rfl rfl) (Can.kp (by kernel_rfl))) (fun y p l hi_8 hl_8 hp_8 c_8 h K_8 hK_8=>?_) (fun y l hi_8 hl_8 hout=>?_)
  ·unfold g4_8 at h
   refine AW.seqK fun K_9 hK_9=>AW.srwK fun Q_10 hQ_10=>?_
   refine Au 3 (sT [(1,jI o),pR 2 0,pR 5 1,(6,jI y),(30,jI y),(32,.d (.sl 1 (List.map e42 t.Needs)))] (y49 t l) 3 0) ?_
   refine rL rfl ?_
   refine Au 1 (sT [(1,jI o),pR 2 0,pR 5 1,(6,jI y),(34,.d (.bool (decide (y<(t.Needs.length:Int)))))] (y49 t l) 3 0) ?_
   refine RW.nil (hQ_10 _ ?_)
   refine AW.cond rfl (fun hb_11=>?_) (fun hb_11=>False.elim (by have:=of_decide_eq_false hb_11;omega))
   refine AW.skip (hK_9 _ ?_)
   refine AW.seqK (fun K_12 hK_12=>?_)
   refine AW.block ?_
   refine AW.drw fokW ?_
   refine aX 4 (sT [(1,jI o),pR 2 0,pR 5 1,(6,jI y),(38,.own 2 (List.map e42 l).length),(40,.d (.sl 2 (List.map e38 t.Stock)))] (y49 t l) 3 0) ?_
   refine r_lenX trivial rfl lenm ?_
   obtain ⟨l1,hv_14,h⟩:=bsome h
   refine r_mkF e3 trivial rfl rfl hv_14 rfl ?_
   refine aX 1 (sT [(1,jI o),pR 2 0,pR 5 1,(6,jI y),(38,.own 2 (List.map e42 l).length),(43,.own 4 (List.map e42 [l1]).length)] [(4,.row 42 1 (List.map e42 [l1])),(1,.var 29 (catV (cv25 t.Hair) [.own 2 (List.map e42 l).length,.d (.sl 2 (List.map e38 t.Stock)),jI t.Pack,jI t.Bad])),(2,.row 42 1 (List.map e42 l)),(0,.var 29 (cv29 t))] 5 0) ?_
   obtain ⟨l2,hv_15,h⟩:=bsome h
   refine r_apO trivial rfl rfl rfl rfl rfl rfl (apz hv_15 e42) (apr hv_15 e42) ?_
   refine aX 2 (sT [(1,jI o),pR 2 0,pR 5 1,(6,jI y)] [(1,.var 29 (catV (cv25 t.Hair) [.own 2 (List.map e42 l2).length,.d (.sl 2 (List.map e38 t.Stock)),jI t.Pack,jI t.Bad])),(2,.row 42 1 (List.map e42 l2)),(4,.row 42 1 (List.map e42 [l1])),(0,.var 29 (cv29 t))] 5 0) ?_
   refine Fi (sT [(1,jI o),pR 2 0,pR 5 1,(6,jI y)] (y50 t l2) 5 0) ?_
   refine hK_12 _ ?_
   refine Ra (sT [(1,jI o),pR 2 0,pR 5 1,(6,jI (wr (y+1)))] (y50 t l2) 5 0) ?_
   obtain rfl:=Option.some.inj h
   have ew:wr (y+1)=y+1:=inext (N:=(t.Needs.length:Int)) (by omega) (by omega) (by omega)
   rw [ew]
   exact hK_8 _ (Can.kp (by kernel_rfl))
  ·subst hout
   refine AW.seqK fun K_16 hK_16=>AW.srwK fun Q_17 hQ_17=>?_
   refine Au 3 (sT [(1,jI o),pR 2 0,pR 5 1,(6,jI y),(30,jI y),(32,.d (.sl 1 (List.map e42 t.Needs)))] (y49 t l) 3 0) ?_
   refine rL rfl ?_
   refine Au 1 (sT [(1,jI o),pR 2 0,pR 5 1,(6,jI y),(34,.d (.bool (decide (y<(t.Needs.length:Int)))))] (y49 t l) 3 0) ?_
   refine RW.nil (hQ_17 _ ?_)
   refine AW.cond rfl (fun hb_18=>False.elim (by have:=of_decide_eq_true hb_18;omega)) (fun hb_18=>?_)
   refine AW.exit ?_
   refine hK_7 _ ?_
   refine AW.srwK (fun Q_19 hQ_19=>?_)
   refine Au 2 (sT [(1,jI o),pR 2 0,pR 5 1,(48,.agg [.d (.sl 4 (List.map e41 t.Hair.Hanks)),.d (.sl 3 (List.map e91 t.Hair.Horses)),jI t.Hair.Dark,jI t.Hair.Near,jI t.Hair.Match])] (y49 t l) 3 0) ?_
   obtain ⟨⟨r0_2,r1_1⟩,hx_20,h⟩:=bsome h
   refine rC (k16 t.Hair _ hx_20) ?_
   refine Au 5 (sT [(1,jI o),pR 2 0,pR 5 1,(7,.d (.sl 1 (List.map e3 r0_2))),(8,jI r1_1)] (y49 t l) 3 0) ?_
   refine RW.nil (hQ_19 _ ?_)
   refine AW.sdrwK fokW (fun Q_21 hQ_21=>?_)
   refine aX 2 (sT [(1,jI o),pR 2 0,pR 5 1,(7,.d (.sl 1 (List.map e3 r0_2))),(8,jI r1_1),(53,.d (.sl 1 (List.map e42 t.Needs)))] (y49 t l) 3 0) ?_
   refine r_lenX trivial rfl lenm ?_
   obtain ⟨_,hv_22,h⟩:=bsome h
   refine r_sh trivial rfl rfl (shl64_ok (of_decide_eq_true (must_ok hv_22))) ?_
   refine aX 3 (sT [(1,jI o),pR 2 0,pR 5 1,(7,.d (.sl 1 (List.map e3 r0_2))),(8,jI r1_1),(56,jI (wr ((shl64 1 (t.Needs.length:Int)) - 1))),(58,.d (.sl 1 (List.map e42 t.Needs)))] (y49 t l) 3 0) ?_
   refine r_lenX trivial rfl lenm ?_
   obtain ⟨r0_1,hx_23,h⟩:=bsome h
   refine r_call trivial rfl (k12 (wr ((shl64 1 (t.Needs.length:Int)) - 1)) (t.Needs.length:Int) _ hx_23) rfl rfl ?_
   refine aX 1 (sT [(1,jI o),pR 2 0,pR 5 1,(7,.d (.sl 1 (List.map e3 r0_2))),(8,jI r1_1),(9,.d (.sl 1 (List.map e3 r0_1)))] (y49 t l) 3 0) ?_
   refine Fi (sT [(1,jI o),pR 2 0,pR 5 1,(7,.d (.sl 1 (List.map e3 r0_2))),(8,jI r1_1),(9,.d (.sl 1 (List.map e3 r0_1)))] (y49 t l) 3 0) ?_
   refine hQ_21 _ ?_
   refine Sa (sT [(1,jI o),pR 2 0,pR 5 1,(7,.d (.sl 1 (List.map e3 r0_2))),(8,jI r1_1),(9,.d (.sl 1 (List.map e3 r0_1))),(10,.d (.nilSl))] (y49 t l) 3 0) ?_
   refine AW.seqK (fun K_24 hK_24=>?_)
   refine Sa (sT [(1,jI o),pR 2 0,pR 5 1,(7,.d (.sl 1 (List.map e3 r0_2))),(8,jI r1_1),(9,.d (.sl 1 (List.map e3 r0_1))),(10,.d (.nilSl)),(11,jI 0)] (y49 t l) 3 0) ?_
   refine AW.block ?_
   refine AW.sln (t:=9) rfl (fun hN_25=>?_)
   rw [List.length_map] at hN_25
   obtain ⟨out_25,hx_25,h⟩:=bsome h
   refine AW.evSK (fun (v:Int) (l3:List Int)=>(sT [(1,jI o),pR 2 0,pR 5 1,(7,.d (.sl 1 (List.map e3 r0_2))),(8,jI r1_1),(9,.d (.sl 1 (List.map e3 r0_1))),(10,.own 3 (List.map e3 l3).length),(11,jI v)] (y51 l3 t l) 4 0)) (g4_25 r0_2) hx_25 (Can.trans (Can.thawT 10 3 1 rfl rfl) (Can.kp (by kernel_rfl))) (fun v p1 l3 hi_25 hl_25 hp_25 c_25 h K_25 hK_25=>?_) (fun v l3 hi_25 hl_25 hout=>?_)
   ·unfold g4_25 at h
    refine AW.seqK fun K_26 hK_26=>AW.srwK fun Q_27 hQ_27=>?_
    refine Au 2 (sT [(1,jI o),pR 2 0,pR 5 1,(7,.d (.sl 1 (List.map e3 r0_2))),(8,jI r1_1),(9,.d (.sl 1 (List.map e3 r0_1))),(10,.own 3 (List.map e3 l3).length),(11,jI v),(61,jI v),(62,.d (.sl 1 (List.map e3 r0_1)))] (y51 l3 t l) 4 0) ?_
    refine rL rfl ?_
    refine Au 1 (sT [(1,jI o),pR 2 0,pR 5 1,(7,.d (.sl 1 (List.map e3 r0_2))),(8,jI r1_1),(9,.d (.sl 1 (List.map e3 r0_1))),(10,.own 3 (List.map e3 l3).length),(11,jI v),(64,.d (.bool (decide (v<(r0_1.length:Int)))))] (y51 l3 t l) 4 0) ?_
    refine RW.nil (hQ_27 _ ?_)
    refine AW.cond rfl (fun hb_28=>?_) (fun hb_28=>False.elim (by have:=of_decide_eq_false hb_28;omega))
    refine AW.skip (hK_26 _ ?_)
    refine AW.seqK (fun K_29 hK_29=>?_)
    refine AW.block ?_
    refine AW.srwK (fun Q_30 hQ_30=>?_)
    refine Au 2 (sT [(1,jI o),pR 2 0,pR 5 1,(7,.d (.sl 1 (List.map e3 r0_2))),(8,jI r1_1),(9,.d (.sl 1 (List.map e3 r0_1))),(10,.own 3 (List.map e3 l3).length),(11,jI v),(67,.d (.sl 1 (List.map e3 r0_2))),(68,jI v)] (y51 l3 t l) 4 0) ?_
    obtain ⟨r0_1_1,hx_31,h⟩:=bsome h
    refine rC (k17 r0_2 v _ hx_31) ?_
    refine Au 1 (sT [(1,jI o),pR 2 0,pR 5 1,(7,.d (.sl 1 (List.map e3 r0_2))),(8,jI r1_1),(9,.d (.sl 1 (List.map e3 r0_1))),(10,.own 3 (List.map e3 l3).length),(11,jI v),(70,.d (.bool (decide (r0_1_1<0))))] (y51 l3 t l) 4 0) ?_
    refine RW.nil (hQ_30 _ ?_)
    refine AW.cond rfl (fun hb_32=>?_) (fun hb_32=>?_)
    ·have h:=ifT hb_32 h
     refine AW.rw ?_
     refine Au 3 (sT [(1,jI o),pR 2 0,pR 5 1,(7,.d (.sl 1 (List.map e3 r0_2))),(8,jI r1_1),(9,.d (.sl 1 (List.map e3 r0_1))),(11,jI v),(71,.own 3 (List.map e3 l3).length),(73,.own 4 (List.map e3 [v]).length)] [(4,.row 3 1 (List.map e3 [v])),(3,.row 3 1 (List.map e3 l3)),(1,.var 29 (catV (cv25 t.Hair) [.own 2 (List.map e42 l).length,.d (.sl 2 (List.map e38 t.Stock)),jI t.Pack,jI t.Bad])),(2,.row 42 1 (List.map e42 l)),(0,.var 29 (cv29 t))] 5 0) ?_
     obtain ⟨l4,hv_34,h⟩:=bsome h
     refine RW.one fokW (r_apO trivial rfl rfl rfl rfl rfl rfl (apz hv_34 e3) (apr hv_34 e3) (r_end ?_))
     refine Au 1 (sT [(1,jI o),pR 2 0,pR 5 1,(7,.d (.sl 1 (List.map e3 r0_2))),(8,jI r1_1),(9,.d (.sl 1 (List.map e3 r0_1))),(10,.own 3 (List.map e3 l4).length),(11,jI v)] (y52 l4 t l) 5 0) ?_
     refine RW.nil ?_
     refine hK_29 _ ?_
     refine Ra (sT [(1,jI o),pR 2 0,pR 5 1,(7,.d (.sl 1 (List.map e3 r0_2))),(8,jI r1_1),(9,.d (.sl 1 (List.map e3 r0_1))),(10,.own 3 (List.map e3 l4).length),(11,jI (wr (v+1)))] (y52 l4 t l) 5 0) ?_
     obtain rfl:=Option.some.inj h
     have ew:wr (v+1)=v+1:=inext (N:=(r0_1.length:Int)) (by omega) (by omega) (by omega)
     rw [ew]
     exact hK_25 _ (Can.kp (by kernel_rfl))
    ·have h:=ifF hb_32 h
     refine AW.skip (hK_29 _ ?_)
     refine Ra (sT [(1,jI o),pR 2 0,pR 5 1,(7,.d (.sl 1 (List.map e3 r0_2))),(8,jI r1_1),(9,.d (.sl 1 (List.map e3 r0_1))),(10,.own 3 (List.map e3 l3).length),(11,jI (wr (v+1)))] (y51 l3 t l) 4 0) ?_
     obtain rfl:=Option.some.inj h
     have ew:wr (v+1)=v+1:=inext (N:=(r0_1.length:Int)) (by omega) (by omega) (by omega)
     rw [ew]
     exact hK_25 _ (Can.kp (by kernel_rfl))
   ·subst hout
    refine AW.seqK fun K_35 hK_35=>AW.srwK fun Q_36 hQ_36=>?_
    refine Au 2 (sT [(1,jI o),pR 2 0,pR 5 1,(7,.d (.sl 1 (List.map e3 r0_2))),(8,jI r1_1),(9,.d (.sl 1 (List.map e3 r0_1))),(10,.own 3 (List.map e3 l3).length),(11,jI v),(61,jI v),(62,.d (.sl 1 (List.map e3 r0_1)))] (y51 l3 t l) 4 0) ?_
    refine rL rfl ?_
    refine Au 1 (sT [(1,jI o),pR 2 0,pR 5 1,(7,.d (.sl 1 (List.map e3 r0_2))),(8,jI r1_1),(9,.d (.sl 1 (List.map e3 r0_1))),(10,.own 3 (List.map e3 l3).length),(11,jI v),(64,.d (.bool (decide (v<(r0_1.length:Int)))))] (y51 l3 t l) 4 0) ?_
    refine RW.nil (hQ_36 _ ?_)
    refine AW.cond rfl (fun hb_37=>False.elim (by have:=of_decide_eq_true hb_37;omega)) (fun hb_37=>?_)
    refine AW.exit ?_
    refine hK_24 _ ?_
    refine AW.can (Can.fzH 1 5 2 rfl rfl rfl rfl) ?_
    refine AW.kp (sT [(1,jI o),pR 2 0,pR 5 1,(7,.d (.sl 1 (List.map e3 r0_2))),(8,jI r1_1),(9,.d (.sl 1 (List.map e3 r0_1))),(10,.own 3 (List.map e3 l3).length),(11,jI v),(64,.d (.bool (decide (v<(r0_1.length:Int)))))] (y53 t l l3) 4 0) (by kernel_rfl) ?_
    refine AW.srwK (fun Q_38 hQ_38=>?_)
    refine Au 1 (sT [(1,jI o),pR 2 0,pR 5 1,(8,jI r1_1),(9,.d (.sl 1 (List.map e3 r0_1))),(10,.own 3 (List.map e3 l3).length),(76,.agg [.d (.sl 4 (List.map e41 t.Hair.Hanks)),.d (.sl 3 (List.map e91 t.Hair.Horses)),jI t.Hair.Dark,jI t.Hair.Near,jI t.Hair.Match,.d (.sl 1 (List.map e42 l)),.d (.sl 2 (List.map e38 t.Stock)),jI t.Pack,jI t.Bad])] (y53 t l l3) 4 0) ?_
    obtain ⟨⟨r0_4_1,r1_4⟩,hx_39,h⟩:=bsome h
    refine rC (k13 (HarnessBook.mk t.Hair l t.Stock t.Pack t.Bad) _ hx_39) ?_
    refine Au 5 (sT [(1,jI o),pR 2 0,pR 5 1,(8,jI r1_1),(9,.d (.sl 1 (List.map e3 r0_1))),(10,.own 3 (List.map e3 l3).length),(12,.d (.sl 1 (List.map e3 r0_4_1))),(13,jI r1_4)] (y53 t l l3) 4 0) ?_
    refine RW.nil (hQ_38 _ ?_)
    refine AW.srwK (fun Q_40 hQ_40=>?_)
    refine Au 1 (sT [(1,jI o),pR 2 0,pR 5 1,(8,jI r1_1),(9,.d (.sl 1 (List.map e3 r0_1))),(10,.own 3 (List.map e3 l3).length),(12,.d (.sl 1 (List.map e3 r0_4_1))),(13,jI r1_4),(81,.agg [.d (.sl 4 (List.map e41 t.Hair.Hanks)),.d (.sl 3 (List.map e91 t.Hair.Horses)),jI t.Hair.Dark,jI t.Hair.Near,jI t.Hair.Match,.d (.sl 1 (List.map e42 l)),.d (.sl 2 (List.map e38 t.Stock)),jI t.Pack,jI t.Bad])] (y53 t l l3) 4 0) ?_
    obtain ⟨⟨r0_4_2,r1_4_1⟩,hx_41,h⟩:=bsome h
    refine rC (k18 (HarnessBook.mk t.Hair l t.Stock t.Pack t.Bad) _ hx_41) ?_
    refine Au 5 (sT [(1,jI o),pR 2 0,pR 5 1,(8,jI r1_1),(9,.d (.sl 1 (List.map e3 r0_1))),(10,.own 3 (List.map e3 l3).length),(12,.d (.sl 1 (List.map e3 r0_4_1))),(13,jI r1_4),(14,.d (.sl 1 (List.map e3 r0_4_2))),(15,jI r1_4_1)] (y53 t l l3) 4 0) ?_
    refine RW.nil (hQ_40 _ ?_)
    refine AW.srwK (fun Q_42 hQ_42=>?_)
    refine Au 1 (sT [(1,jI o),pR 2 0,pR 5 1,(8,jI r1_1),(9,.d (.sl 1 (List.map e3 r0_1))),(10,.own 3 (List.map e3 l3).length),(12,.d (.sl 1 (List.map e3 r0_4_1))),(13,jI r1_4),(14,.d (.sl 1 (List.map e3 r0_4_2))),(15,jI r1_4_1),(86,.agg [.d (.sl 4 (List.map e41 t.Hair.Hanks)),.d (.sl 3 (List.map e91 t.Hair.Horses)),jI t.Hair.Dark,jI t.Hair.Near,jI t.Hair.Match,.d (.sl 1 (List.map e42 l)),.d (.sl 2 (List.map e38 t.Stock)),jI t.Pack,jI t.Bad])] (y53 t l l3) 4 0) ?_
    obtain ⟨⟨r0_2_1,r1_4_2⟩,hx_43,h⟩:=bsome h
    refine rC (k14 (HarnessBook.mk t.Hair l t.Stock t.Pack t.Bad) _ hx_43) ?_
    refine Au 5 (sT [(1,jI o),pR 2 0,pR 5 1,(8,jI r1_1),(9,.d (.sl 1 (List.map e3 r0_1))),(10,.own 3 (List.map e3 l3).length),(12,.d (.sl 1 (List.map e3 r0_4_1))),(13,jI r1_4),(14,.d (.sl 1 (List.map e3 r0_4_2))),(15,jI r1_4_1),(16,.d (.sl 1 (List.map e3 r0_2_1))),(17,jI r1_4_2)] (y53 t l l3) 4 0) ?_
    refine RW.nil (hQ_42 _ ?_)
    refine AW.srwK (fun Q_44 hQ_44=>?_)
    refine Au 1 (sT [(1,jI o),pR 2 0,pR 5 1,(8,jI r1_1),(9,.d (.sl 1 (List.map e3 r0_1))),(10,.own 3 (List.map e3 l3).length),(12,.d (.sl 1 (List.map e3 r0_4_1))),(13,jI r1_4),(14,.d (.sl 1 (List.map e3 r0_4_2))),(15,jI r1_4_1),(16,.d (.sl 1 (List.map e3 r0_2_1))),(17,jI r1_4_2),(91,.agg [.d (.sl 4 (List.map e41 t.Hair.Hanks)),.d (.sl 3 (List.map e91 t.Hair.Horses)),jI t.Hair.Dark,jI t.Hair.Near,jI t.Hair.Match,.d (.sl 1 (List.map e42 l)),.d (.sl 2 (List.map e38 t.Stock)),jI t.Pack,jI t.Bad])] (y53 t l l3) 4 0) ?_
    obtain ⟨⟨r0_5,r1_4_3⟩,hx_45,h⟩:=bsome h
    refine rC (k19 (HarnessBook.mk t.Hair l t.Stock t.Pack t.Bad) _ hx_45) ?_
    refine Au 6 (sT [(1,jI o),pR 2 0,pR 5 1,(8,jI r1_1),(9,.d (.sl 1 (List.map e3 r0_1))),(10,.own 3 (List.map e3 l3).length),(12,.d (.sl 1 (List.map e3 r0_4_1))),(13,jI r1_4),(14,.d (.sl 1 (List.map e3 r0_4_2))),(15,jI r1_4_1),(16,.d (.sl 1 (List.map e3 r0_2_1))),(17,jI r1_4_2),pR 18 4,(19,jI r1_4_3)] [(4,.var 38 [jI r0_5.Low,jI r0_5.High]),(1,.var 29 (catV (cv25 t.Hair) [.d (.sl 1 (List.map e42 l)),.d (.sl 2 (List.map e38 t.Stock)),jI t.Pack,jI t.Bad])),(3,.row 3 1 (List.map e3 l3)),(0,.var 29 (cv29 t))] 5 0) ?_
    refine RW.nil (hQ_44 _ ?_)
    obtain ⟨c_46,hx_46,hk_46⟩:=bsomeC h
    refine AW.jnK (fun (_:Unit)=>(sT [(1,jI o),pR 2 0,pR 5 1] (y54 t l) 5 0)) (c:=c_46) (fun K_46 hK_46=>?_) (fun j_46 hj_46=>?_)
    ·have h:=hx_46
     obtain ⟨v1,hx_47,h⟩:=bsome h
     refine AW.jnSK (fun (v1:Bool)=>(sT [(1,jI o),pR 2 0,pR 5 1,(137,.d (.bool v1))] (y54 t l) 5 0)) (c:=v1) (fun K_47 hK_47=>?_) ?_
     ·have h:=hx_47
      refine AW.drw fokW ?_
      refine aX 3 (sT [(1,jI o),pR 2 0,pR 5 1,(9,.d (.sl 1 (List.map e3 r0_1))),(10,.own 3 (List.map e3 l3).length),(12,.d (.sl 1 (List.map e3 r0_4_1))),(13,jI r1_4),(14,.d (.sl 1 (List.map e3 r0_4_2))),(15,jI r1_4_1),(16,.d (.sl 1 (List.map e3 r0_2_1))),(17,jI r1_4_2),pR 18 4,(19,jI r1_4_3),(97,.d (.bool (decide (r1_1≠0))))] [(4,.var 38 [jI r0_5.Low,jI r0_5.High]),(1,.var 29 (catV (cv25 t.Hair) [.d (.sl 1 (List.map e42 l)),.d (.sl 2 (List.map e38 t.Stock)),jI t.Pack,jI t.Bad])),(3,.row 3 1 (List.map e3 l3)),(0,.var 29 (cv29 t))] 5 0) ?_
      refine r_split 97 rfl (fun hb_49=>?_) (fun hb_49=>?_)
      ·have h:=ifT hb_49 h
       refine aX 40 (sT [(1,jI o),pR 2 0,pR 5 1,(137,.d (.bool true))] [(4,.var 38 [jI r0_5.Low,jI r0_5.High]),(1,.var 29 (catV (cv25 t.Hair) [.d (.sl 1 (List.map e42 l)),.d (.sl 2 (List.map e38 t.Stock)),jI t.Pack,jI t.Bad])),(3,.row 3 1 (List.map e3 l3)),(0,.var 29 (cv29 t))] 5 0) ?_
       refine Fi (sT [(1,jI o),pR 2 0,pR 5 1,(137,.d (.bool true))] (y54 t l) 5 0) ?_
       obtain rfl:=Option.some.inj h
       exact hK_47 _ (Can.kp (by kernel_rfl))
      ·have h:=ifF hb_49 h
       refine aX 4 (sT [(1,jI o),pR 2 0,pR 5 1,(9,.d (.sl 1 (List.map e3 r0_1))),(10,.own 3 (List.map e3 l3).length),(12,.d (.sl 1 (List.map e3 r0_4_1))),(14,.d (.sl 1 (List.map e3 r0_4_2))),(15,jI r1_4_1),(16,.d (.sl 1 (List.map e3 r0_2_1))),(17,jI r1_4_2),pR 18 4,(19,jI r1_4_3),(101,.d (.bool (decide (r1_4≠0))))] [(4,.var 38 [jI r0_5.Low,jI r0_5.High]),(1,.var 29 (catV (cv25 t.Hair) [.d (.sl 1 (List.map e42 l)),.d (.sl 2 (List.map e38 t.Stock)),jI t.Pack,jI t.Bad])),(3,.row 3 1 (List.map e3 l3)),(0,.var 29 (cv29 t))] 5 0) ?_
       refine r_split 101 rfl (fun hb_50=>?_) (fun hb_50=>?_)
       ·have h:=ifT hb_50 h
        refine aX 36 (sT [(1,jI o),pR 2 0,pR 5 1,(137,.d (.bool true))] [(4,.var 38 [jI r0_5.Low,jI r0_5.High]),(1,.var 29 (catV (cv25 t.Hair) [.d (.sl 1 (List.map e42 l)),.d (.sl 2 (List.map e38 t.Stock)),jI t.Pack,jI t.Bad])),(3,.row 3 1 (List.map e3 l3)),(0,.var 29 (cv29 t))] 5 0) ?_
        refine Fi (sT [(1,jI o),pR 2 0,pR 5 1,(137,.d (.bool true))] (y54 t l) 5 0) ?_
        obtain rfl:=Option.some.inj h
        exact hK_47 _ (Can.kp (by kernel_rfl))
       ·have h:=ifF hb_50 h
        refine aX 4 (sT [(1,jI o),pR 2 0,pR 5 1,(9,.d (.sl 1 (List.map e3 r0_1))),(10,.own 3 (List.map e3 l3).length),(12,.d (.sl 1 (List.map e3 r0_4_1))),(14,.d (.sl 1 (List.map e3 r0_4_2))),(16,.d (.sl 1 (List.map e3 r0_2_1))),(17,jI r1_4_2),pR 18 4,(19,jI r1_4_3),(105,.d (.bool (decide (r1_4_1≠0))))] [(4,.var 38 [jI r0_5.Low,jI r0_5.High]),(1,.var 29 (catV (cv25 t.Hair) [.d (.sl 1 (List.map e42 l)),.d (.sl 2 (List.map e38 t.Stock)),jI t.Pack,jI t.Bad])),(3,.row 3 1 (List.map e3 l3)),(0,.var 29 (cv29 t))] 5 0) ?_
        refine r_split 105 rfl (fun hb_51=>?_) (fun hb_51=>?_)
        ·have h:=ifT hb_51 h
         refine aX 32 (sT [(1,jI o),pR 2 0,pR 5 1,(137,.d (.bool true))] [(4,.var 38 [jI r0_5.Low,jI r0_5.High]),(1,.var 29 (catV (cv25 t.Hair) [.d (.sl 1 (List.map e42 l)),.d (.sl 2 (List.map e38 t.Stock)),jI t.Pack,jI t.Bad])),(3,.row 3 1 (List.map e3 l3)),(0,.var 29 (cv29 t))] 5 0) ?_
         refine Fi (sT [(1,jI o),pR 2 0,pR 5 1,(137,.d (.bool true))] (y54 t l) 5 0) ?_
         obtain rfl:=Option.some.inj h
         exact hK_47 _ (Can.kp (by kernel_rfl))
        ·have h:=ifF hb_51 h
         refine aX 4 (sT [(1,jI o),pR 2 0,pR 5 1,(9,.d (.sl 1 (List.map e3 r0_1))),(10,.own 3 (List.map e3 l3).length),(12,.d (.sl 1 (List.map e3 r0_4_1))),(14,.d (.sl 1 (List.map e3 r0_4_2))),(16,.d (.sl 1 (List.map e3 r0_2_1))),pR 18 4,(19,jI r1_4_3),(109,.d (.bool (decide (r1_4_2≠0))))] [(4,.var 38 [jI r0_5.Low,jI r0_5.High]),(1,.var 29 (catV (cv25 t.Hair) [.d (.sl 1 (List.map e42 l)),.d (.sl 2 (List.map e38 t.Stock)),jI t.Pack,jI t.Bad])),(3,.row 3 1 (List.map e3 l3)),(0,.var 29 (cv29 t))] 5 0) ?_
         refine r_split 109 rfl (fun hb_52=>?_) (fun hb_52=>?_)
         ·have h:=ifT hb_52 h
          refine aX 28 (sT [(1,jI o),pR 2 0,pR 5 1,(137,.d (.bool true))] [(4,.var 38 [jI r0_5.Low,jI r0_5.High]),(1,.var 29 (catV (cv25 t.Hair) [.d (.sl 1 (List.map e42 l)),.d (.sl 2 (List.map e38 t.Stock)),jI t.Pack,jI t.Bad])),(3,.row 3 1 (List.map e3 l3)),(0,.var 29 (cv29 t))] 5 0) ?_
          refine Fi (sT [(1,jI o),pR 2 0,pR 5 1,(137,.d (.bool true))] (y54 t l) 5 0) ?_
          obtain rfl:=Option.some.inj h
          exact hK_47 _ (Can.kp (by kernel_rfl))
         ·have h:=ifF hb_52 h
          refine aX 4 (sT [(1,jI o),pR 2 0,pR 5 1,(9,.d (.sl 1 (List.map e3 r0_1))),(10,.own 3 (List.map e3 l3).length),(12,.d (.sl 1 (List.map e3 r0_4_1))),(14,.d (.sl 1 (List.map e3 r0_4_2))),(16,.d (.sl 1 (List.map e3 r0_2_1))),pR 18 4,(113,.d (.bool (decide (r1_4_3≠0))))] [(4,.var 38 [jI r0_5.Low,jI r0_5.High]),(1,.var 29 (catV (cv25 t.Hair) [.d (.sl 1 (List.map e42 l)),.d (.sl 2 (List.map e38 t.Stock)),jI t.Pack,jI t.Bad])),(3,.row 3 1 (List.map e3 l3)),(0,.var 29 (cv29 t))] 5 0) ?_
          refine r_split 113 rfl (fun hb_53=>?_) (fun hb_53=>?_)
          ·have h:=ifT hb_53 h
           refine aX 24 (sT [(1,jI o),pR 2 0,pR 5 1,(137,.d (.bool true))] [(4,.var 38 [jI r0_5.Low,jI r0_5.High]),(1,.var 29 (catV (cv25 t.Hair) [.d (.sl 1 (List.map e42 l)),.d (.sl 2 (List.map e38 t.Stock)),jI t.Pack,jI t.Bad])),(3,.row 3 1 (List.map e3 l3)),(0,.var 29 (cv29 t))] 5 0) ?_
           refine Fi (sT [(1,jI o),pR 2 0,pR 5 1,(137,.d (.bool true))] (y54 t l) 5 0) ?_
           obtain rfl:=Option.some.inj h
           exact hK_47 _ (Can.kp (by kernel_rfl))
          ·have h:=ifF hb_53 h
           refine aX 2 (sT [(1,jI o),pR 2 0,pR 5 1,(9,.d (.sl 1 (List.map e3 r0_1))),(10,.own 3 (List.map e3 l3).length),(14,.d (.sl 1 (List.map e3 r0_4_2))),(16,.d (.sl 1 (List.map e3 r0_2_1))),pR 18 4,(113,.d (.bool false)),(114,.d (.sl 1 (List.map e3 r0_4_1))),(115,.own 3 (List.map e3 l3).length)] [(4,.var 38 [jI r0_5.Low,jI r0_5.High]),(1,.var 29 (catV (cv25 t.Hair) [.d (.sl 1 (List.map e42 l)),.d (.sl 2 (List.map e38 t.Stock)),jI t.Pack,jI t.Bad])),(3,.row 3 1 (List.map e3 l3)),(0,.var 29 (cv29 t))] 5 0) ?_
           obtain ⟨r0,hx_54,h⟩:=bsome h
           refine r_callF (rs:=[(3,.row 3 1 (List.map e3 l3))]) rfl rfl (k15 r0_4_1 l3 _ hx_54) ⟨rfl,trivial⟩ ⟨.refl _,(.own rfl rfl),trivial⟩ rfl rfl rfl ?_
           refine aX 3 (sT [(1,jI o),pR 2 0,pR 5 1,(9,.d (.sl 1 (List.map e3 r0_1))),(10,.own 3 (List.map e3 l3).length),(14,.d (.sl 1 (List.map e3 r0_4_2))),(16,.d (.sl 1 (List.map e3 r0_2_1))),pR 18 4,(119,.d (.bool (!r0)))] [(4,.var 38 [jI r0_5.Low,jI r0_5.High]),(1,.var 29 (catV (cv25 t.Hair) [.d (.sl 1 (List.map e42 l)),.d (.sl 2 (List.map e38 t.Stock)),jI t.Pack,jI t.Bad])),(3,.row 3 1 (List.map e3 l3)),(0,.var 29 (cv29 t))] 5 0) ?_
           refine r_split 119 rfl (fun hb_55=>?_) (fun hb_55=>?_)
           ·have h:=ifT hb_55 h
            refine aX 18 (sT [(1,jI o),pR 2 0,pR 5 1,(137,.d (.bool true))] [(4,.var 38 [jI r0_5.Low,jI r0_5.High]),(1,.var 29 (catV (cv25 t.Hair) [.d (.sl 1 (List.map e42 l)),.d (.sl 2 (List.map e38 t.Stock)),jI t.Pack,jI t.Bad])),(3,.row 3 1 (List.map e3 l3)),(0,.var 29 (cv29 t))] 5 0) ?_
            refine Fi (sT [(1,jI o),pR 2 0,pR 5 1,(137,.d (.bool true))] (y54 t l) 5 0) ?_
            obtain rfl:=Option.some.inj h
            exact hK_47 _ (Can.kp (by kernel_rfl))
           ·have h:=ifF hb_55 h
            refine aX 2 (sT [(1,jI o),pR 2 0,pR 5 1,(9,.d (.sl 1 (List.map e3 r0_1))),(10,.own 3 (List.map e3 l3).length),(16,.d (.sl 1 (List.map e3 r0_2_1))),pR 18 4,(119,.d (.bool false)),(120,.d (.sl 1 (List.map e3 r0_4_2))),(121,.own 3 (List.map e3 l3).length)] [(4,.var 38 [jI r0_5.Low,jI r0_5.High]),(1,.var 29 (catV (cv25 t.Hair) [.d (.sl 1 (List.map e42 l)),.d (.sl 2 (List.map e38 t.Stock)),jI t.Pack,jI t.Bad])),(3,.row 3 1 (List.map e3 l3)),(0,.var 29 (cv29 t))] 5 0) ?_
            obtain ⟨r0_3,hx_56,h⟩:=bsome h
            refine r_callF (rs:=[(3,.row 3 1 (List.map e3 l3))]) rfl rfl (k15 r0_4_2 l3 _ hx_56) ⟨rfl,trivial⟩ ⟨.refl _,(.own rfl rfl),trivial⟩ rfl rfl rfl ?_
            refine aX 3 (sT [(1,jI o),pR 2 0,pR 5 1,(9,.d (.sl 1 (List.map e3 r0_1))),(10,.own 3 (List.map e3 l3).length),(16,.d (.sl 1 (List.map e3 r0_2_1))),pR 18 4,(125,.d (.bool (!r0_3)))] [(4,.var 38 [jI r0_5.Low,jI r0_5.High]),(1,.var 29 (catV (cv25 t.Hair) [.d (.sl 1 (List.map e42 l)),.d (.sl 2 (List.map e38 t.Stock)),jI t.Pack,jI t.Bad])),(3,.row 3 1 (List.map e3 l3)),(0,.var 29 (cv29 t))] 5 0) ?_
            refine r_split 125 rfl (fun hb_57=>?_) (fun hb_57=>?_)
            ·have h:=ifT hb_57 h
             refine aX 12 (sT [(1,jI o),pR 2 0,pR 5 1,(137,.d (.bool true))] [(4,.var 38 [jI r0_5.Low,jI r0_5.High]),(1,.var 29 (catV (cv25 t.Hair) [.d (.sl 1 (List.map e42 l)),.d (.sl 2 (List.map e38 t.Stock)),jI t.Pack,jI t.Bad])),(3,.row 3 1 (List.map e3 l3)),(0,.var 29 (cv29 t))] 5 0) ?_
             refine Fi (sT [(1,jI o),pR 2 0,pR 5 1,(137,.d (.bool true))] (y54 t l) 5 0) ?_
             obtain rfl:=Option.some.inj h
             exact hK_47 _ (Can.kp (by kernel_rfl))
            ·have h:=ifF hb_57 h
             refine aX 2 (sT [(1,jI o),pR 2 0,pR 5 1,(10,.own 3 (List.map e3 l3).length),pR 18 4,(125,.d (.bool false)),(126,.d (.sl 1 (List.map e3 r0_2_1))),(127,.d (.sl 1 (List.map e3 r0_1)))] [(4,.var 38 [jI r0_5.Low,jI r0_5.High]),(1,.var 29 (catV (cv25 t.Hair) [.d (.sl 1 (List.map e42 l)),.d (.sl 2 (List.map e38 t.Stock)),jI t.Pack,jI t.Bad])),(3,.row 3 1 (List.map e3 l3)),(0,.var 29 (cv29 t))] 5 0) ?_
             obtain ⟨r0_6,hx_58,h⟩:=bsome h
             refine r_call rfl rfl (k15 r0_2_1 r0_1 _ hx_58) rfl rfl ?_
             refine aX 3 (sT [(1,jI o),pR 2 0,pR 5 1,(10,.own 3 (List.map e3 l3).length),pR 18 4,(131,.d (.bool (!r0_6)))] [(4,.var 38 [jI r0_5.Low,jI r0_5.High]),(1,.var 29 (catV (cv25 t.Hair) [.d (.sl 1 (List.map e42 l)),.d (.sl 2 (List.map e38 t.Stock)),jI t.Pack,jI t.Bad])),(3,.row 3 1 (List.map e3 l3)),(0,.var 29 (cv29 t))] 5 0) ?_
             refine r_split 131 rfl (fun hb_59=>?_) (fun hb_59=>?_)
             ·have h:=ifT hb_59 h
              refine aX 6 (sT [(1,jI o),pR 2 0,pR 5 1,(137,.d (.bool true))] [(4,.var 38 [jI r0_5.Low,jI r0_5.High]),(1,.var 29 (catV (cv25 t.Hair) [.d (.sl 1 (List.map e42 l)),.d (.sl 2 (List.map e38 t.Stock)),jI t.Pack,jI t.Bad])),(3,.row 3 1 (List.map e3 l3)),(0,.var 29 (cv29 t))] 5 0) ?_
              refine Fi (sT [(1,jI o),pR 2 0,pR 5 1,(137,.d (.bool true))] (y54 t l) 5 0) ?_
              obtain rfl:=Option.some.inj h
              exact hK_47 _ (Can.kp (by kernel_rfl))
             ·have h:=ifF hb_59 h
              refine aX 2 (sT [(1,jI o),pR 2 0,pR 5 1,(131,.d (.bool false)),(132,.agg [jI r0_5.Low,jI r0_5.High]),(133,.own 3 (List.map e3 l3).length)] [(4,.var 38 [jI r0_5.Low,jI r0_5.High]),(1,.var 29 (catV (cv25 t.Hair) [.d (.sl 1 (List.map e42 l)),.d (.sl 2 (List.map e38 t.Stock)),jI t.Pack,jI t.Bad])),(3,.row 3 1 (List.map e3 l3)),(0,.var 29 (cv29 t))] 5 0) ?_
              refine r_lenY rfl rfl lenm ?_
              obtain ⟨r0_7,hx_60,h⟩:=bsome h
              refine r_call rfl rfl (k9 (l3.length:Int) _ hx_60) rfl rfl ?_
              refine r_aeq rfl rfl rfl rfl rfl ft38 rfl rfl rfl ?_
              refine aX 1 (sT [(1,jI o),pR 2 0,pR 5 1,(137,.d (.bool (true != ((r0_5.Low==r0_7.Low)&&((r0_5.High==r0_7.High)&&true)))))] [(4,.var 38 [jI r0_5.Low,jI r0_5.High]),(1,.var 29 (catV (cv25 t.Hair) [.d (.sl 1 (List.map e42 l)),.d (.sl 2 (List.map e38 t.Stock)),jI t.Pack,jI t.Bad])),(3,.row 3 1 (List.map e3 l3)),(0,.var 29 (cv29 t))] 5 0) ?_
              refine Fi (sT [(1,jI o),pR 2 0,pR 5 1,(137,.d (.bool (true != ((r0_5.Low==r0_7.Low)&&((r0_5.High==r0_7.High)&&true)))))] (y54 t l) 5 0) ?_
              obtain rfl:=Option.some.inj h
              exact hK_47 _ (Can.kp (by kernel_rfl))
     ·refine AW.cond rfl (fun hb_61=>?_) (fun hb_61=>?_)
      ·have h:=ifT hb_61 h
       refine Sa (sT [(4,.d (.bool false))] [] 5 0) ?_
       obtain rfl:=Option.some.inj h
       obtain rfl:=Aft.bk hk_46
       exact rT hR_0 (.cons (.tmp rfl) .nil)
      ·have h:=ifF hb_61 h
       refine AW.skip ?_
       obtain rfl:=Option.some.inj h
       exact hK_46 _ _ rfl (Can.kp (by kernel_rfl))
    ·subst hj_46
     have h:=Aft.nx hk_46
     refine AW.srwK (fun Q_62 hQ_62=>?_)
     refine Au 3 (sT [pR 2 0,pR 5 1,(138,jI o),(140,.d (.sl 2 (List.map e38 t.Stock)))] (y54 t l) 5 0) ?_
     refine rL rfl ?_
     obtain ⟨r0_2_2,hx_63,h⟩:=bsome h
     refine rC (k7 o (t.Stock.length:Int) _ hx_63) ?_
     refine Au 1 (sT [pR 2 0,pR 5 1,(20,jI r0_2_2)] (y54 t l) 5 0) ?_
     refine RW.nil (hQ_62 _ ?_)
     refine AW.srwK (fun Q_64 hQ_64=>?_)
     refine Au 1 (sT [pR 2 0,pR 5 1,(20,jI r0_2_2),(144,.agg [.d (.sl 4 (List.map e41 t.Hair.Hanks)),.d (.sl 3 (List.map e91 t.Hair.Horses)),jI t.Hair.Dark,jI t.Hair.Near,jI t.Hair.Match,.d (.sl 1 (List.map e42 l)),.d (.sl 2 (List.map e38 t.Stock)),jI t.Pack,jI t.Bad])] (y54 t l) 5 0) ?_
     obtain ⟨⟨r0_3_1,r1_4_4⟩,hx_65,h⟩:=bsome h
     refine rC (k10 (HarnessBook.mk t.Hair l t.Stock t.Pack t.Bad) _ hx_65) ?_
     refine Au 5 (sT [pR 2 0,pR 5 1,(8,jI r1_4_4),(20,jI r0_2_2),(21,.d (.sl 1 (List.map e3 r0_3_1)))] (y54 t l) 5 0) ?_
     refine RW.nil (hQ_64 _ ?_)
     refine AW.srwK (fun Q_66 hQ_66=>?_)
     refine Au 2 (sT [pR 2 0,pR 5 1,(8,jI r1_4_4),(20,jI r0_2_2),(21,.d (.sl 1 (List.map e3 r0_3_1))),(149,.agg [.d (.sl 4 (List.map e41 t.Hair.Hanks)),.d (.sl 3 (List.map e91 t.Hair.Horses)),jI t.Hair.Dark,jI t.Hair.Near,jI t.Hair.Match,.d (.sl 1 (List.map e42 l)),.d (.sl 2 (List.map e38 t.Stock)),jI t.Pack,jI t.Bad]),(150,jI r0_2_2)] (y54 t l) 5 0) ?_
     obtain ⟨⟨r0_3_2,r1_4_5⟩,hx_67,h⟩:=bsome h
     refine rC (k20 (HarnessBook.mk t.Hair l t.Stock t.Pack t.Bad) r0_2_2 _ hx_67) ?_
     refine Au 6 (sT [pR 2 0,pR 5 1,(8,jI r1_4_4),(13,jI r1_4_5),(20,jI r0_2_2),(21,.d (.sl 1 (List.map e3 r0_3_1))),pR 22 5] [(5,.var 38 [jI r0_3_2.Low,jI r0_3_2.High]),(1,.var 29 (catV (cv25 t.Hair) [.d (.sl 1 (List.map e42 l)),.d (.sl 2 (List.map e38 t.Stock)),jI t.Pack,jI t.Bad])),(0,.var 29 (cv29 t))] 6 0) ?_
     refine RW.nil (hQ_66 _ ?_)
     refine AW.srwK (fun Q_68 hQ_68=>?_)
     refine Au 2 (sT [pR 2 0,pR 5 1,(8,jI r1_4_4),(13,jI r1_4_5),(20,jI r0_2_2),(21,.d (.sl 1 (List.map e3 r0_3_1))),pR 22 5,(155,.agg [.d (.sl 4 (List.map e41 t.Hair.Hanks)),.d (.sl 3 (List.map e91 t.Hair.Horses)),jI t.Hair.Dark,jI t.Hair.Near,jI t.Hair.Match,.d (.sl 1 (List.map e42 l)),.d (.sl 2 (List.map e38 t.Stock)),jI t.Pack,jI t.Bad]),(156,jI r0_2_2)] [(5,.var 38 [jI r0_3_2.Low,jI r0_3_2.High]),(1,.var 29 (catV (cv25 t.Hair) [.d (.sl 1 (List.map e42 l)),.d (.sl 2 (List.map e38 t.Stock)),jI t.Pack,jI t.Bad])),(0,.var 29 (cv29 t))] 6 0) ?_
     obtain ⟨⟨r0_4_3,r1_4_6⟩,hx_69,h⟩:=bsome h
     refine rC (k21 (HarnessBook.mk t.Hair l t.Stock t.Pack t.Bad) r0_2_2 _ hx_69) ?_
     refine Au 6 (sT [pR 2 0,pR 5 1,(8,jI r1_4_4),(13,jI r1_4_5),(15,jI r1_4_6),(20,jI r0_2_2),(21,.d (.sl 1 (List.map e3 r0_3_1))),pR 22 5,pR 23 6] [(6,.var 38 [jI r0_4_3.Low,jI r0_4_3.High]),(5,.var 38 [jI r0_3_2.Low,jI r0_3_2.High]),(1,.var 29 (catV (cv25 t.Hair) [.d (.sl 1 (List.map e42 l)),.d (.sl 2 (List.map e38 t.Stock)),jI t.Pack,jI t.Bad])),(0,.var 29 (cv29 t))] 7 0) ?_
     refine RW.nil (hQ_68 _ ?_)
     refine AW.srwK (fun Q_70 hQ_70=>?_)
     refine Au 1 (sT [pR 2 0,(8,jI r1_4_4),(13,jI r1_4_5),(15,jI r1_4_6),(20,jI r0_2_2),(21,.d (.sl 1 (List.map e3 r0_3_1))),pR 22 5,pR 23 6,(161,.agg [.d (.sl 4 (List.map e41 t.Hair.Hanks)),.d (.sl 3 (List.map e91 t.Hair.Horses)),jI t.Hair.Dark,jI t.Hair.Near,jI t.Hair.Match,.d (.sl 1 (List.map e42 l)),.d (.sl 2 (List.map e38 t.Stock)),jI t.Pack,jI t.Bad])] [(6,.var 38 [jI r0_4_3.Low,jI r0_4_3.High]),(5,.var 38 [jI r0_3_2.Low,jI r0_3_2.High]),(0,.var 29 (cv29 t))] 7 0) ?_
     obtain ⟨⟨r0_5_1,r1_5⟩,hx_71,h⟩:=bsome h
     refine rC (k22 (HarnessBook.mk t.Hair l t.Stock t.Pack t.Bad) _ hx_71) ?_
     refine Au 4 (sT [pR 2 0,(8,jI r1_4_4),(13,jI r1_4_5),(15,jI r1_4_6),(17,jI r1_5),(20,jI r0_2_2),(21,.d (.sl 1 (List.map e3 r0_3_1))),pR 22 5,pR 23 6] [(6,.var 38 [jI r0_4_3.Low,jI r0_4_3.High]),(5,.var 38 [jI r0_3_2.Low,jI r0_3_2.High]),(0,.var 29 (cv29 t))] 7 0) ?_
     refine RW.nil (hQ_70 _ ?_)
     obtain ⟨r_,hx_72,h⟩:=bsome h
     refine AW.jnSK (fun (r_:Bool)=>(sT [(4,.d (.bool r_))] [] 7 0)) (c:=r_) (fun K_72 hK_72=>?_) ?_
     ·have h:=hx_72
      refine AW.drw fokW ?_
      refine aX 3 (sT [pR 2 0,(13,jI r1_4_5),(15,jI r1_4_6),(17,jI r1_5),(20,jI r0_2_2),(21,.d (.sl 1 (List.map e3 r0_3_1))),pR 22 5,pR 23 6,(167,.d (.bool (decide (r1_4_4=0))))] [(6,.var 38 [jI r0_4_3.Low,jI r0_4_3.High]),(5,.var 38 [jI r0_3_2.Low,jI r0_3_2.High]),(0,.var 29 (cv29 t))] 7 0) ?_
      refine r_split 167 rfl (fun hb_74=>?_) (fun hb_74=>?_)
      ·have h:=ifT hb_74 h
       refine aX 4 (sT [pR 2 0,(15,jI r1_4_6),(17,jI r1_5),(20,jI r0_2_2),(21,.d (.sl 1 (List.map e3 r0_3_1))),pR 22 5,pR 23 6,(171,.d (.bool (decide (r1_4_5=0))))] [(6,.var 38 [jI r0_4_3.Low,jI r0_4_3.High]),(5,.var 38 [jI r0_3_2.Low,jI r0_3_2.High]),(0,.var 29 (cv29 t))] 7 0) ?_
       refine r_split 171 rfl (fun hb_75=>?_) (fun hb_75=>?_)
       ·have h:=ifT hb_75 h
        refine aX 4 (sT [pR 2 0,(17,jI r1_5),(20,jI r0_2_2),(21,.d (.sl 1 (List.map e3 r0_3_1))),pR 22 5,pR 23 6,(175,.d (.bool (decide (r1_4_6=0))))] [(6,.var 38 [jI r0_4_3.Low,jI r0_4_3.High]),(5,.var 38 [jI r0_3_2.Low,jI r0_3_2.High]),(0,.var 29 (cv29 t))] 7 0) ?_
        refine r_split 175 rfl (fun hb_76=>?_) (fun hb_76=>?_)
        ·have h:=ifT hb_76 h
         refine aX 4 (sT [pR 2 0,(20,jI r0_2_2),(21,.d (.sl 1 (List.map e3 r0_3_1))),pR 22 5,pR 23 6,(179,.d (.bool (decide (r1_5=4))))] [(6,.var 38 [jI r0_4_3.Low,jI r0_4_3.High]),(5,.var 38 [jI r0_3_2.Low,jI r0_3_2.High]),(0,.var 29 (cv29 t))] 7 0) ?_
         refine r_split 179 rfl (fun hb_77=>?_) (fun hb_77=>?_)
         ·have h:=ifT hb_77 h
          refine aX 1 (sT [pR 2 0,(20,jI r0_2_2),(21,.d (.sl 1 (List.map e3 r0_3_1))),pR 22 5,pR 23 6,(179,.d (.bool true)),(180,.d (.sl 1 (List.map e3 r0_3_1)))] [(6,.var 38 [jI r0_4_3.Low,jI r0_4_3.High]),(5,.var 38 [jI r0_3_2.Low,jI r0_3_2.High]),(0,.var 29 (cv29 t))] 7 0) ?_
          refine r_lenX rfl rfl lenm ?_
          refine aX 2 (sT [pR 2 0,(20,jI r0_2_2),(21,.d (.sl 1 (List.map e3 r0_3_1))),pR 22 5,pR 23 6,(179,.d (.bool true)),(181,jI (r0_3_1.length:Int)),(183,.d (.sl 2 (List.map e38 t.Stock)))] [(6,.var 38 [jI r0_4_3.Low,jI r0_4_3.High]),(5,.var 38 [jI r0_3_2.Low,jI r0_3_2.High]),(0,.var 29 (cv29 t))] 7 0) ?_
          refine r_lenX rfl rfl lenm ?_
          refine aX 3 (sT [pR 2 0,(20,jI r0_2_2),(21,.d (.sl 1 (List.map e3 r0_3_1))),pR 22 5,pR 23 6,(187,.d (.bool (decide ((r0_3_1.length:Int)=(t.Stock.length:Int)))))] [(6,.var 38 [jI r0_4_3.Low,jI r0_4_3.High]),(5,.var 38 [jI r0_3_2.Low,jI r0_3_2.High]),(0,.var 29 (cv29 t))] 7 0) ?_
          refine r_split 187 rfl (fun hb_78=>?_) (fun hb_78=>?_)
          ·have h:=ifT hb_78 h
           refine aX 1 (sT [pR 2 0,(20,jI r0_2_2),pR 22 5,pR 23 6,(187,.d (.bool true)),(188,.d (.sl 1 (List.map e3 r0_3_1)))] [(6,.var 38 [jI r0_4_3.Low,jI r0_4_3.High]),(5,.var 38 [jI r0_3_2.Low,jI r0_3_2.High]),(0,.var 29 (cv29 t))] 7 0) ?_
           obtain ⟨r0_9,hx_79,h⟩:=bsome h
           refine r_call rfl rfl (k23 r0_3_1 _ hx_79) rfl rfl ?_
           refine aX 3 (sT [pR 2 0,(20,jI r0_2_2),pR 22 5,pR 23 6,(192,.d (.bool (decide (r0_9=0))))] [(6,.var 38 [jI r0_4_3.Low,jI r0_4_3.High]),(5,.var 38 [jI r0_3_2.Low,jI r0_3_2.High]),(0,.var 29 (cv29 t))] 7 0) ?_
           refine r_split 192 rfl (fun hb_80=>?_) (fun hb_80=>?_)
           ·have h:=ifT hb_80 h
            refine aX 1 (sT [pR 2 0,(20,jI r0_2_2),pR 23 6,(192,.d (.bool true)),(193,.agg [jI r0_3_2.Low,jI r0_3_2.High])] [(6,.var 38 [jI r0_4_3.Low,jI r0_4_3.High]),(5,.var 38 [jI r0_3_2.Low,jI r0_3_2.High]),(0,.var 29 (cv29 t))] 7 0) ?_
            obtain ⟨r0_10,hx_81,h⟩:=bsome h
            refine r_call rfl rfl (k9 0 _ hx_81) rfl rfl ?_
            refine r_aeq rfl rfl rfl rfl rfl ft38 rfl rfl rfl ?_
            refine aX 2 (sT [pR 2 0,(20,jI r0_2_2),pR 23 6,(197,.d (.bool (false != ((r0_3_2.Low==r0_10.Low)&&((r0_3_2.High==r0_10.High)&&true)))))] [(6,.var 38 [jI r0_4_3.Low,jI r0_4_3.High]),(5,.var 38 [jI r0_3_2.Low,jI r0_3_2.High]),(0,.var 29 (cv29 t))] 7 0) ?_
            refine r_split 197 rfl (fun hb_82=>?_) (fun hb_82=>?_)
            ·have h:=ifT hb_82 h
             refine aX 4 (sT [(197,.d (.bool true)),(198,.agg [jI r0_4_3.Low,jI r0_4_3.High]),(200,.d (.sl 2 (List.map e38 t.Stock))),(201,jI r0_2_2)] [(6,.var 38 [jI r0_4_3.Low,jI r0_4_3.High]),(5,.var 38 [jI r0_3_2.Low,jI r0_3_2.High]),(0,.var 29 (cv29 t))] 7 0) ?_
             obtain ⟨p2,hv_83,h⟩:=bsome h
             refine r_iaD rfl rfl rfl (ixL_ok hv_83).1 (row:=e38 p2) (mapget (ixL_ok hv_83).2) ?_
             refine aX 1 (sT [(197,.d (.bool true)),(198,.agg [jI r0_4_3.Low,jI r0_4_3.High]),(203,.agg [jI p2.Low,jI p2.High])] [(6,.var 38 [jI r0_4_3.Low,jI r0_4_3.High]),(5,.var 38 [jI r0_3_2.Low,jI r0_3_2.High]),(0,.var 29 (cv29 t))] 7 0) ?_
             refine r_aeq rfl rfl rfl rfl rfl ft38 rfl rfl rfl ?_
             refine aX 2 (sT [(206,.d (.bool (false != ((r0_4_3.Low==p2.Low)&&((r0_4_3.High==p2.High)&&true)))))] [(6,.var 38 [jI r0_4_3.Low,jI r0_4_3.High]),(5,.var 38 [jI r0_3_2.Low,jI r0_3_2.High]),(0,.var 29 (cv29 t))] 7 0) ?_
             refine r_split 206 rfl (fun hb_84=>?_) (fun hb_84=>?_)
             ·have h:=ifT hb_84 h
              obtain ⟨r0_8_1,hx_85,h⟩:=bsome h
              refine r_call rfl rfl (k6 _ hx_85) rfl rfl ?_
              refine aX 2 (sT [(4,.d (.bool r0_8_1))] [(6,.var 38 [jI r0_4_3.Low,jI r0_4_3.High]),(5,.var 38 [jI r0_3_2.Low,jI r0_3_2.High]),(0,.var 29 (cv29 t))] 7 0) ?_
              refine Fi (sT [(4,.d (.bool r0_8_1))] [] 7 0) ?_
              obtain rfl:=Option.some.inj h
              exact hK_72 _ (Can.kp (by kernel_rfl))
             ·have h:=ifF hb_84 h
              refine aX 3 (sT [(4,.d (.bool false))] [(6,.var 38 [jI r0_4_3.Low,jI r0_4_3.High]),(5,.var 38 [jI r0_3_2.Low,jI r0_3_2.High]),(0,.var 29 (cv29 t))] 7 0) ?_
              refine Fi (sT [(4,.d (.bool false))] [] 7 0) ?_
              obtain rfl:=Option.some.inj h
              exact hK_72 _ (Can.kp (by kernel_rfl))
            ·have h:=ifF hb_82 h
             refine aX 12 (sT [(4,.d (.bool false))] [(6,.var 38 [jI r0_4_3.Low,jI r0_4_3.High]),(5,.var 38 [jI r0_3_2.Low,jI r0_3_2.High]),(0,.var 29 (cv29 t))] 7 0) ?_
             refine Fi (sT [(4,.d (.bool false))] [] 7 0) ?_
             obtain rfl:=Option.some.inj h
             exact hK_72 _ (Can.kp (by kernel_rfl))
           ·have h:=ifF hb_80 h
            refine aX 17 (sT [(4,.d (.bool false))] [(6,.var 38 [jI r0_4_3.Low,jI r0_4_3.High]),(5,.var 38 [jI r0_3_2.Low,jI r0_3_2.High]),(0,.var 29 (cv29 t))] 7 0) ?_
            refine Fi (sT [(4,.d (.bool false))] [] 7 0) ?_
            obtain rfl:=Option.some.inj h
            exact hK_72 _ (Can.kp (by kernel_rfl))
          ·have h:=ifF hb_78 h
           refine aX 22 (sT [(4,.d (.bool false))] [(6,.var 38 [jI r0_4_3.Low,jI r0_4_3.High]),(5,.var 38 [jI r0_3_2.Low,jI r0_3_2.High]),(0,.var 29 (cv29 t))] 7 0) ?_
           refine Fi (sT [(4,.d (.bool false))] [] 7 0) ?_
           obtain rfl:=Option.some.inj h
           exact hK_72 _ (Can.kp (by kernel_rfl))
         ·have h:=ifF hb_77 h
          refine aX 30 (sT [(4,.d (.bool false))] [(6,.var 38 [jI r0_4_3.Low,jI r0_4_3.High]),(5,.var 38 [jI r0_3_2.Low,jI r0_3_2.High]),(0,.var 29 (cv29 t))] 7 0) ?_
          refine Fi (sT [(4,.d (.bool false))] [] 7 0) ?_
          obtain rfl:=Option.some.inj h
          exact hK_72 _ (Can.kp (by kernel_rfl))
        ·have h:=ifF hb_76 h
         refine aX 34 (sT [(4,.d (.bool false))] [(6,.var 38 [jI r0_4_3.Low,jI r0_4_3.High]),(5,.var 38 [jI r0_3_2.Low,jI r0_3_2.High]),(0,.var 29 (cv29 t))] 7 0) ?_
         refine Fi (sT [(4,.d (.bool false))] [] 7 0) ?_
         obtain rfl:=Option.some.inj h
         exact hK_72 _ (Can.kp (by kernel_rfl))
       ·have h:=ifF hb_75 h
        refine aX 38 (sT [(4,.d (.bool false))] [(6,.var 38 [jI r0_4_3.Low,jI r0_4_3.High]),(5,.var 38 [jI r0_3_2.Low,jI r0_3_2.High]),(0,.var 29 (cv29 t))] 7 0) ?_
        refine Fi (sT [(4,.d (.bool false))] [] 7 0) ?_
        obtain rfl:=Option.some.inj h
        exact hK_72 _ (Can.kp (by kernel_rfl))
      ·have h:=ifF hb_74 h
       refine aX 42 (sT [(4,.d (.bool false))] [(6,.var 38 [jI r0_4_3.Low,jI r0_4_3.High]),(5,.var 38 [jI r0_3_2.Low,jI r0_3_2.High]),(0,.var 29 (cv29 t))] 7 0) ?_
       refine Fi (sT [(4,.d (.bool false))] [] 7 0) ?_
       obtain rfl:=Option.some.inj h
       exact hK_72 _ (Can.kp (by kernel_rfl))
     ·obtain rfl:=Option.some.inj h
      exact rT hR_0 (.cons (.tmp rfl) .nil)
end Go.Proofs.Tt
