/- Told functions, and that the program does so, part 2. Conditions: none. -/
import Derived.Test.YtgdkhppmlfmacaaDoorTda
set_option linter.unusedVariables false
set_option linter.unusedSimpArgs false
namespace Go.Proofs.Tk
open Go Go.Abs Go.Proofs
def g16_16 (weight:Int) (r0B6:StandBook) (r0T6:(List (Nat→Int))) (r0L6:Stand_load):Int→(Int×(List (Stand_child×StandRatio)))→Option (Ctl (Int×(List (Stand_child×StandRatio))) (Int×(List (Stand_child×StandRatio)))):=fun v1 (Low2,m3)=>(g57a r0B6 r0T6 r0L6 (Stand_child.mk weight (wr (-v1))) m3).bind fun (r0_5_1,m0_2_1)=>bif (decide (r0_5_1.Top<0)) then (some (.brk (Low2,m0_2_1))) else (some (.next ((wr (-v1)),m0_2_1)))
def g16_28 (weight:Int) (r0B6:StandBook) (r0T6:(List (Nat→Int))) (r0L6:Stand_load):Int→(Int×(List (Stand_child×StandRatio)))→Option (Ctl (Int×(List (Stand_child×StandRatio))) (Int)):=fun v3 (High2,m5)=>(g57a r0B6 r0T6 r0L6 (Stand_child.mk weight v3) m5).bind fun (r0_5_2,m0_2_2)=>bif (decide (r0_5_2.Top<0)) then (some (.brk High2)) else (some (.next (v3,m0_2_2)))
def g16 (x:StandBook) (weight:Int):Option (Span×Int):=(g54 x weight).bind fun r0_1=>(g53 x r0_1).bind fun r_37=>match r_37 with | .next (r0B5,r0T5,r0L5,r1_2)=>(must (decide (r1_2≠0))).bind fun _=>some ((Span.mk 0 0),r1_2) | .brk (r0B6,r0T6,r0L6,r1_3,m4_1)=>bif (decide (r1_3≠0)) then (some ((Span.mk 0 0),r1_3)) else ((g57a r0B6 r0T6 r0L6 (Stand_child.mk weight 0) m4_1).bind fun (r0_5,m0_2)=>bif (decide (r0_5.Top<0)) then (some ((Span.mk 0 0),4)) else (((bindC (forC (g16_16 weight r0B6 r0T6 r0L6) ((((wr (x.Lean_+1)):Int) - 0).toNat) 0 (0,m0_2)) fun (Low2,m3)=>some (Low2,m3)).bind fun (Low1,m1)=>some (Low1,m1)).bind fun (Low,m)=>((bindC (forC (g16_28 weight r0B6 r0T6 r0L6) ((((wr (x.Lean_+1)):Int) - 0).toNat) 0 (0,m)) fun (High2,m5)=>some High2).bind fun High1=>some High1).bind fun High=>some ((Span.mk Low High),0)))
theorem k16 (x:StandBook) (weight:Int) (r:Span×Int) (h:g16 x weight=some r):SCall Tryd.prog Gs 16 [.agg [jI x.Kind,jI x.Front,jI x.Back,jI x.Radius,.d (.sl 4 (List.map e36 x.Parts)),jI x.Along,jI x.High,jI x.Lean_,jI x.Limit,.d (.sl 3 (List.map e29 x.Trials))],jI weight] [] 0 Fr.emp (match r with | (r0_4,r1_5)=>.tup [.agg [jI r0_4.Low,jI r0_4.High],jI r1_5]) [] 0 Fr.emp:=by
 unfold g16 at h
 refine SCall.mkK Tryd.func16 c16 rfl rfl (by kernel_rfl) (fun Q_0 hR_0 hN_0=>?_)
 refine Sa (sT [(1,jI weight),pR 2 0,pR 4 1] [(1,.var 33 [jI 0,jI 0]),(0,.var 25 (cv25 x))] 2 0) ?_
 refine AW.sdrwK fokW (fun Q_1 hQ_1=>?_)
 refine aX 3 (sT [(1,jI weight),pR 2 0,pR 4 1,(12,.agg [jI x.Kind,jI x.Front,jI x.Back,jI x.Radius,.d (.sl 4 (List.map e36 x.Parts)),jI x.Along,jI x.High,jI x.Lean_,jI x.Limit,.d (.sl 3 (List.map e29 x.Trials))]),(13,.agg [jI x.Kind,jI x.Front,jI x.Back,jI x.Radius,.d (.sl 4 (List.map e36 x.Parts)),jI x.Along,jI x.High,jI x.Lean_,jI x.Limit,.d (.sl 3 (List.map e29 x.Trials))]),(14,jI weight)] [(1,.var 33 [jI 0,jI 0]),(0,.var 25 (cv25 x))] 2 0) ?_
 obtain ⟨r0_1,hx_2,h⟩:=bsome h
 refine r_call trivial rfl (k54 x weight _ hx_2) rfl rfl ?_
 obtain ⟨r_37,hx_3,h⟩:=bsome h
 rcases r_37 with (⟨r0B5,r0T5,r0L5,r1_2⟩ | (⟨r0B6,r0T6,r0L6,r1_3,m4_1⟩))
 ·refine r_callS (zr:=[]) [] trivial rfl (k53 x r0_1 _ hx_3) trivial rfl rfl ⟨.refl _,.refl _,trivial⟩ rfl rfl rfl ?_
  obtain ⟨_,hv_4,h⟩:=bsome h
  have hf_5:=must_ok hv_4
  refine aX 6 (sT [(1,jI weight),pR 2 0,pR 4 1,pR 6 2,(7,jI r1_2)] [(2,.var 96 (catV (cv25 r0B5) [.d (.sl 4 (List.map e103 r0T5)),jI r0L5.weight,jI r0L5.along,jI r0L5.high,.d (.nilMap)])),(1,.var 33 [jI 0,jI 0]),(0,.var 25 (cv25 x))] 3 0) ?_
  refine Fi (sT [(1,jI weight),pR 2 0,pR 4 1,pR 6 2,(7,jI r1_2)] [(2,.var 96 (catV (cv25 r0B5) [.d (.sl 4 (List.map e103 r0T5)),jI r0L5.weight,jI r0L5.along,jI r0L5.high,.d (.nilMap)])),(1,.var 33 [jI 0,jI 0]),(0,.var 25 (cv25 x))] 3 0) ?_
  refine hQ_1 _ ?_
  refine AW.seqK (fun K_6 hK_6=>?_)
  refine Sa (sT [(1,jI weight),pR 2 0,pR 4 1,pR 6 2,(7,jI r1_2),(20,.d (.bool (decide (r1_2≠0))))] [(2,.var 96 (catV (cv25 r0B5) [.d (.sl 4 (List.map e103 r0T5)),jI r0L5.weight,jI r0L5.along,jI r0L5.high,.d (.nilMap)])),(1,.var 33 [jI 0,jI 0]),(0,.var 25 (cv25 x))] 3 0) ?_
  refine AW.cond rfl (fun hb_7=>?_) (fun hb_7=>False.elim (by rw [hf_5] at hb_7;cases hb_7))
  refine Sa (sT [pR 4 1,(5,jI r1_2)] [(1,.var 33 [jI 0,jI 0])] 3 0) ?_
  obtain rfl:=Option.some.inj h
  exact rT hR_0 (.cons (.agg rfl rfl (Nat.le_of_ble_eq_true rfl)) (.cons (.tmp rfl) .nil))
 ·refine r_callS (zr:=[]) [] trivial rfl (k53 x r0_1 _ hx_3) trivial rfl rfl ⟨.refl _,.refl _,trivial⟩ rfl rfl rfl ?_
  refine aX 6 (sT [(1,jI weight),pR 2 0,pR 4 1,pR 6 7,(7,jI r1_3)] [(7,.var 96 (catV (cv25 r0B6) [.d (.sl 4 (List.map e103 r0T6)),jI r0L6.weight,jI r0L6.along,jI r0L6.high,.map 6])),(6,.mp (List.map m105_43 m4_1)),(1,.var 33 [jI 0,jI 0]),(0,.var 25 (cv25 x))] 8 0) ?_
  refine Fi (sT [(1,jI weight),pR 2 0,pR 4 1,pR 6 7,(7,jI r1_3)] [(7,.var 96 (catV (cv25 r0B6) [.d (.sl 4 (List.map e103 r0T6)),jI r0L6.weight,jI r0L6.along,jI r0L6.high,.map 6])),(6,.mp (List.map m105_43 m4_1)),(1,.var 33 [jI 0,jI 0]),(0,.var 25 (cv25 x))] 8 0) ?_
  refine hQ_1 _ ?_
  refine AW.seqK (fun K_8 hK_8=>?_)
  refine Sa (sT [(1,jI weight),pR 2 0,pR 4 1,pR 6 7,(7,jI r1_3),(20,.d (.bool (decide (r1_3≠0))))] [(7,.var 96 (catV (cv25 r0B6) [.d (.sl 4 (List.map e103 r0T6)),jI r0L6.weight,jI r0L6.along,jI r0L6.high,.map 6])),(6,.mp (List.map m105_43 m4_1)),(1,.var 33 [jI 0,jI 0]),(0,.var 25 (cv25 x))] 8 0) ?_
  refine AW.cond rfl (fun hb_9=>?_) (fun hb_9=>?_)
  ·have h:=ifT hb_9 h
   refine Sa (sT [pR 4 1,(5,jI r1_3)] [(1,.var 33 [jI 0,jI 0])] 8 0) ?_
   obtain rfl:=Option.some.inj h
   exact rT hR_0 (.cons (.agg rfl rfl (Nat.le_of_ble_eq_true rfl)) (.cons (.tmp rfl) .nil))
  ·have h:=ifF hb_9 h
   refine AW.skip (hK_8 _ ?_)
   refine AW.seqK fun K_10 hK_10=>AW.srwK fun Q_11 hQ_11=>?_
   refine Au 3 (sT [(1,jI weight),pR 2 0,pR 4 1,pR 6 7,(23,.agg [jI r0B6.Kind,jI r0B6.Front,jI r0B6.Back,jI r0B6.Radius,.d (.sl 4 (List.map e36 r0B6.Parts)),jI r0B6.Along,jI r0B6.High,jI r0B6.Lean_,jI r0B6.Limit,.d (.sl 3 (List.map e29 r0B6.Trials)),.d (.sl 4 (List.map e103 r0T6)),jI r0L6.weight,jI r0L6.along,jI r0L6.high,.map 6]),(25,.agg [jI weight,jI 0])] [(7,.var 96 (catV (cv25 r0B6) [.d (.sl 4 (List.map e103 r0T6)),jI r0L6.weight,jI r0L6.along,jI r0L6.high,.map 6])),(6,.mp (List.map m105_43 m4_1)),(1,.var 33 [jI 0,jI 0]),(0,.var 25 (cv25 x))] 8 0) ?_
   obtain ⟨⟨r0_5,m0_2⟩,hx_12,h⟩:=bsome h
   refine RW.one fokW (r_callS (zr:=[]) [6] trivial rfl (k57a r0B6 r0T6 r0L6 (Stand_child.mk weight 0) m4_1 _ hx_12) ⟨rfl,trivial⟩ rfl rfl ⟨.refl _,.refl _,trivial⟩ rfl rfl rfl (r_end ?_))
   refine Au 2 (sT [(1,jI weight),pR 2 0,pR 4 1,pR 6 7,(28,.d (.bool (decide (r0_5.Top<0))))] [(6,.mp (List.map m105_43 m0_2)),(7,.var 96 (catV (cv25 r0B6) [.d (.sl 4 (List.map e103 r0T6)),jI r0L6.weight,jI r0L6.along,jI r0L6.high,.map 6])),(1,.var 33 [jI 0,jI 0]),(0,.var 25 (cv25 x))] 8 0) ?_
   refine RW.nil (hQ_11 _ ?_)
   refine AW.cond rfl (fun hb_13=>?_) (fun hb_13=>?_)
   ·have h:=ifT hb_13 h
    refine Sa (sT [pR 4 1,(5,jI 4)] [(1,.var 33 [jI 0,jI 0])] 8 0) ?_
    obtain rfl:=Option.some.inj h
    exact rT hR_0 (.cons (.agg rfl rfl (Nat.le_of_ble_eq_true rfl)) (.cons (.tmp rfl) .nil))
   ·have h:=ifF hb_13 h
    refine AW.skip (hK_10 _ ?_)
    refine Sa (sT [(1,jI weight),pR 2 0,pR 4 1,pR 6 7,pR 8 8] [(8,.var 33 [jI 0,jI 0]),(6,.mp (List.map m105_43 m0_2)),(7,.var 96 (catV (cv25 r0B6) [.d (.sl 4 (List.map e103 r0T6)),jI r0L6.weight,jI r0L6.along,jI r0L6.high,.map 6])),(1,.var 33 [jI 0,jI 0]),(0,.var 25 (cv25 x))] 9 0) ?_
    obtain ⟨c_14,hx_14,h⟩:=bsome h
    refine AW.jnSK (fun (⟨Low,m⟩:Int×(List (Stand_child×StandRatio)))=>(sT [(1,jI weight),pR 2 0,pR 4 1,pR 6 7,pR 8 8] [(6,.mp (List.map m105_43 m)),(8,.var 33 [jI Low,jI 0]),(7,.var 96 (catV (cv25 r0B6) [.d (.sl 4 (List.map e103 r0T6)),jI r0L6.weight,jI r0L6.along,jI r0L6.high,.map 6])),(1,.var 33 [jI 0,jI 0]),(0,.var 25 (cv25 x))] 9 0)) (c:=c_14) (fun K_14 hK_14=>?_) ?_
    ·have h:=hx_14
     refine Sa (sT [(1,jI weight),pR 2 0,pR 4 1,pR 6 7,pR 8 8,(32,jI (wr (x.Lean_+1))),(33,jI 0)] [(8,.var 33 [jI 0,jI 0]),(6,.mp (List.map m105_43 m0_2)),(7,.var 96 (catV (cv25 r0B6) [.d (.sl 4 (List.map e103 r0T6)),jI r0L6.weight,jI r0L6.along,jI r0L6.high,.map 6])),(1,.var 33 [jI 0,jI 0]),(0,.var 25 (cv25 x))] 9 0) ?_
     obtain ⟨c_15,hx_15,h⟩:=bsome h
     refine AW.jqSK (fun (⟨Low1,m1⟩:Int×(List (Stand_child×StandRatio)))=>(sT [(1,jI weight),pR 2 0,pR 4 1,pR 6 7,pR 8 8] [(6,.mp (List.map m105_43 m1)),(8,.var 33 [jI Low1,jI 0]),(7,.var 96 (catV (cv25 r0B6) [.d (.sl 4 (List.map e103 r0T6)),jI r0L6.weight,jI r0L6.along,jI r0L6.high,.map 6])),(1,.var 33 [jI 0,jI 0]),(0,.var 25 (cv25 x))] 9 0)) (c:=c_15) (fun K_15 hK_15=>?_) ?_
     ·have h:=hx_15
      refine AW.block ?_
      have hN_16:(wr (x.Lean_+1))≤9223372036854775807:=(wr_range _).2
      obtain ⟨out_16,hx_16,hk_16⟩:=bsomeC h
      refine AW.lpCK (fun (v1:Int) (⟨Low2,m3⟩:Int×(List (Stand_child×StandRatio)))=>(sT [(1,jI weight),pR 2 0,pR 4 1,pR 6 7,pR 8 8,(32,jI (wr (x.Lean_+1))),(33,jI v1)] [(8,.var 33 [jI Low2,jI 0]),(6,.mp (List.map m105_43 m3)),(7,.var 96 (catV (cv25 r0B6) [.d (.sl 4 (List.map e103 r0T6)),jI r0L6.weight,jI r0L6.along,jI r0L6.high,.map 6])),(1,.var 33 [jI 0,jI 0]),(0,.var 25 (cv25 x))] 9 0)) (g16_16 weight r0B6 r0T6 r0L6) ((wr (x.Lean_+1))) hx_16 (Can.kp (by kernel_rfl)) (fun v1 s_16 hi_16 hl_16 c_16 h hb_16 K_16 hK_16=>?_) (fun v1 s_16 hi_16 hl_16 hout=>?_)
      ·obtain ⟨Low2,m3⟩:=s_16
       unfold g16_16 at h
       refine Sa (sT [(1,jI weight),pR 2 0,pR 4 1,pR 6 7,pR 8 8,(32,jI (wr (x.Lean_+1))),(33,jI v1),(34,.d (.bool (decide (v1<(wr (x.Lean_+1))))))] [(8,.var 33 [jI Low2,jI 0]),(6,.mp (List.map m105_43 m3)),(7,.var 96 (catV (cv25 r0B6) [.d (.sl 4 (List.map e103 r0T6)),jI r0L6.weight,jI r0L6.along,jI r0L6.high,.map 6])),(1,.var 33 [jI 0,jI 0]),(0,.var 25 (cv25 x))] 9 0) ?_
       refine AW.seqK (fun K_17 hK_17=>?_)
       refine AW.cond rfl (fun hb_18=>?_) (fun hb_18=>False.elim (by have:=of_decide_eq_false hb_18;omega))
       refine AW.skip (hK_17 _ ?_)
       refine AW.seqK (fun K_19 hK_19=>?_)
       refine AW.block ?_
       refine Sa (sT [(1,jI weight),pR 2 0,pR 4 1,pR 6 7,pR 8 8,(9,jI v1),(32,jI (wr (x.Lean_+1))),(33,jI v1)] [(8,.var 33 [jI Low2,jI 0]),(6,.mp (List.map m105_43 m3)),(7,.var 96 (catV (cv25 r0B6) [.d (.sl 4 (List.map e103 r0T6)),jI r0L6.weight,jI r0L6.along,jI r0L6.high,.map 6])),(1,.var 33 [jI 0,jI 0]),(0,.var 25 (cv25 x))] 9 0) ?_
       refine AW.seqK fun K_20 hK_20=>AW.srwK fun Q_21 hQ_21=>?_
       refine Au 5 (sT [(1,jI weight),pR 2 0,pR 4 1,pR 6 7,pR 8 8,(9,jI v1),(32,jI (wr (x.Lean_+1))),(33,jI v1),(36,.agg [jI r0B6.Kind,jI r0B6.Front,jI r0B6.Back,jI r0B6.Radius,.d (.sl 4 (List.map e36 r0B6.Parts)),jI r0B6.Along,jI r0B6.High,jI r0B6.Lean_,jI r0B6.Limit,.d (.sl 3 (List.map e29 r0B6.Trials)),.d (.sl 4 (List.map e103 r0T6)),jI r0L6.weight,jI r0L6.along,jI r0L6.high,.map 6]),(40,.agg [jI weight,jI (wr (-v1))])] [(8,.var 33 [jI Low2,jI 0]),(6,.mp (List.map m105_43 m3)),(7,.var 96 (catV (cv25 r0B6) [.d (.sl 4 (List.map e103 r0T6)),jI r0L6.weight,jI r0L6.along,jI r0L6.high,.map 6])),(1,.var 33 [jI 0,jI 0]),(0,.var 25 (cv25 x))] 9 0) ?_
       obtain ⟨⟨r0_5_1,m0_2_1⟩,hx_22,h⟩:=bsome h
       refine RW.one fokW (r_callS (zr:=[]) [6] trivial rfl (k57a r0B6 r0T6 r0L6 (Stand_child.mk weight (wr (-v1))) m3 _ hx_22) ⟨rfl,trivial⟩ rfl rfl ⟨.refl _,.refl _,trivial⟩ rfl rfl rfl (r_end ?_))
       refine Au 2 (sT [(1,jI weight),pR 2 0,pR 4 1,pR 6 7,pR 8 8,(9,jI v1),(32,jI (wr (x.Lean_+1))),(33,jI v1),(43,.d (.bool (decide (r0_5_1.Top<0))))] [(6,.mp (List.map m105_43 m0_2_1)),(8,.var 33 [jI Low2,jI 0]),(7,.var 96 (catV (cv25 r0B6) [.d (.sl 4 (List.map e103 r0T6)),jI r0L6.weight,jI r0L6.along,jI r0L6.high,.map 6])),(1,.var 33 [jI 0,jI 0]),(0,.var 25 (cv25 x))] 9 0) ?_
       refine RW.nil (hQ_21 _ ?_)
       refine AW.cond rfl (fun hb_23=>?_) (fun hb_23=>?_)
       ·have h:=ifT hb_23 h
        refine AW.exit ?_
        obtain rfl:=Option.some.inj h
        have e_3:=hb_16 _ rfl
        subst e_3
        obtain rfl:=Aft.bk hk_16
        exact hK_15 _ (Can.kp (by kernel_rfl))
       ·have h:=ifF hb_23 h
        refine AW.skip (hK_20 _ ?_)
        refine Ra (sT [(1,jI weight),pR 2 0,pR 4 1,pR 6 7,pR 8 8,(32,jI (wr (x.Lean_+1))),(33,jI v1)] [(8,.var 33 [jI (wr (-v1)),jI 0]),(6,.mp (List.map m105_43 m0_2_1)),(7,.var 96 (catV (cv25 r0B6) [.d (.sl 4 (List.map e103 r0T6)),jI r0L6.weight,jI r0L6.along,jI r0L6.high,.map 6])),(1,.var 33 [jI 0,jI 0]),(0,.var 25 (cv25 x))] 9 0) ?_
        refine hK_19 _ ?_
        refine Ra (sT [(1,jI weight),pR 2 0,pR 4 1,pR 6 7,pR 8 8,(32,jI (wr (x.Lean_+1))),(33,jI (wr (v1+1)))] [(8,.var 33 [jI (wr (-v1)),jI 0]),(6,.mp (List.map m105_43 m0_2_1)),(7,.var 96 (catV (cv25 r0B6) [.d (.sl 4 (List.map e103 r0T6)),jI r0L6.weight,jI r0L6.along,jI r0L6.high,.map 6])),(1,.var 33 [jI 0,jI 0]),(0,.var 25 (cv25 x))] 9 0) ?_
        obtain rfl:=Option.some.inj h
        have ew:wr (v1+1)=v1+1:=inext (N:=(wr (x.Lean_+1))) (by omega) (by omega) (by omega)
        rw [ew]
        exact hK_16 _ _ rfl (Can.kp (by kernel_rfl))
      ·obtain ⟨Low2,m3⟩:=s_16
       subst hout
       have h:=Aft.nx hk_16
       refine Sa (sT [(1,jI weight),pR 2 0,pR 4 1,pR 6 7,pR 8 8,(32,jI (wr (x.Lean_+1))),(33,jI v1),(34,.d (.bool (decide (v1<(wr (x.Lean_+1))))))] [(8,.var 33 [jI Low2,jI 0]),(6,.mp (List.map m105_43 m3)),(7,.var 96 (catV (cv25 r0B6) [.d (.sl 4 (List.map e103 r0T6)),jI r0L6.weight,jI r0L6.along,jI r0L6.high,.map 6])),(1,.var 33 [jI 0,jI 0]),(0,.var 25 (cv25 x))] 9 0) ?_
       refine AW.seqK (fun K_24 hK_24=>?_)
       refine AW.cond rfl (fun hb_25=>False.elim (by have:=of_decide_eq_true hb_25;omega)) (fun hb_25=>?_)
       refine AW.exit ?_
       obtain rfl:=Option.some.inj h
       exact hK_15 _ (Can.kp (by kernel_rfl))
     ·obtain ⟨Low1,m1⟩:=c_15
      obtain rfl:=Option.some.inj h
      exact hK_14 _ (Can.kp (by kernel_rfl))
    ·obtain ⟨Low,m⟩:=c_14
     obtain ⟨High,hx_26,h⟩:=bsome h
     refine AW.jnSK (fun (High:Int)=>(sT [pR 4 1,pR 8 8] [(8,.var 33 [jI Low,jI High]),(1,.var 33 [jI 0,jI 0])] 9 0)) (c:=High) (fun K_26 hK_26=>?_) ?_
     ·have h:=hx_26
      refine Sa (sT [(1,jI weight),pR 4 1,pR 6 7,pR 8 8,(50,jI (wr (x.Lean_+1))),(51,jI 0)] [(6,.mp (List.map m105_43 m)),(8,.var 33 [jI Low,jI 0]),(7,.var 96 (catV (cv25 r0B6) [.d (.sl 4 (List.map e103 r0T6)),jI r0L6.weight,jI r0L6.along,jI r0L6.high,.map 6])),(1,.var 33 [jI 0,jI 0])] 9 0) ?_
      obtain ⟨High1,hx_27,h⟩:=bsome h
      refine AW.jqSK (fun (High1:Int)=>(sT [pR 4 1,pR 8 8] [(8,.var 33 [jI Low,jI High1]),(1,.var 33 [jI 0,jI 0])] 9 0)) (c:=High1) (fun K_27 hK_27=>?_) ?_
      ·have h:=hx_27
       refine AW.block ?_
       have hN_28:(wr (x.Lean_+1))≤9223372036854775807:=(wr_range _).2
       obtain ⟨out_28,hx_28,hk_28⟩:=bsomeC h
       refine AW.lpCK (fun (v3:Int) (⟨High2,m5⟩:Int×(List (Stand_child×StandRatio)))=>(sT [(1,jI weight),pR 4 1,pR 6 7,pR 8 8,(50,jI (wr (x.Lean_+1))),(51,jI v3)] [(6,.mp (List.map m105_43 m5)),(8,.var 33 [jI Low,jI High2]),(7,.var 96 (catV (cv25 r0B6) [.d (.sl 4 (List.map e103 r0T6)),jI r0L6.weight,jI r0L6.along,jI r0L6.high,.map 6])),(1,.var 33 [jI 0,jI 0])] 9 0)) (g16_28 weight r0B6 r0T6 r0L6) ((wr (x.Lean_+1))) hx_28 (Can.kp (by kernel_rfl)) (fun v3 s_28 hi_28 hl_28 c_28 h hb_28 K_28 hK_28=>?_) (fun v3 s_28 hi_28 hl_28 hout=>?_)
       ·obtain ⟨High2,m5⟩:=s_28
        unfold g16_28 at h
        refine Sa (sT [(1,jI weight),pR 4 1,pR 6 7,pR 8 8,(50,jI (wr (x.Lean_+1))),(51,jI v3),(52,.d (.bool (decide (v3<(wr (x.Lean_+1))))))] [(6,.mp (List.map m105_43 m5)),(8,.var 33 [jI Low,jI High2]),(7,.var 96 (catV (cv25 r0B6) [.d (.sl 4 (List.map e103 r0T6)),jI r0L6.weight,jI r0L6.along,jI r0L6.high,.map 6])),(1,.var 33 [jI 0,jI 0])] 9 0) ?_
        refine AW.seqK (fun K_29 hK_29=>?_)
        refine AW.cond rfl (fun hb_30=>?_) (fun hb_30=>False.elim (by have:=of_decide_eq_false hb_30;omega))
        refine AW.skip (hK_29 _ ?_)
        refine AW.seqK (fun K_31 hK_31=>?_)
        refine AW.block ?_
        refine Sa (sT [(1,jI weight),pR 4 1,pR 6 7,pR 8 8,(10,jI v3),(50,jI (wr (x.Lean_+1))),(51,jI v3)] [(6,.mp (List.map m105_43 m5)),(8,.var 33 [jI Low,jI High2]),(7,.var 96 (catV (cv25 r0B6) [.d (.sl 4 (List.map e103 r0T6)),jI r0L6.weight,jI r0L6.along,jI r0L6.high,.map 6])),(1,.var 33 [jI 0,jI 0])] 9 0) ?_
        refine AW.seqK fun K_32 hK_32=>AW.srwK fun Q_33 hQ_33=>?_
        refine Au 4 (sT [(1,jI weight),pR 4 1,pR 6 7,pR 8 8,(10,jI v3),(50,jI (wr (x.Lean_+1))),(51,jI v3),(54,.agg [jI r0B6.Kind,jI r0B6.Front,jI r0B6.Back,jI r0B6.Radius,.d (.sl 4 (List.map e36 r0B6.Parts)),jI r0B6.Along,jI r0B6.High,jI r0B6.Lean_,jI r0B6.Limit,.d (.sl 3 (List.map e29 r0B6.Trials)),.d (.sl 4 (List.map e103 r0T6)),jI r0L6.weight,jI r0L6.along,jI r0L6.high,.map 6]),(57,.agg [jI weight,jI v3])] [(6,.mp (List.map m105_43 m5)),(8,.var 33 [jI Low,jI High2]),(7,.var 96 (catV (cv25 r0B6) [.d (.sl 4 (List.map e103 r0T6)),jI r0L6.weight,jI r0L6.along,jI r0L6.high,.map 6])),(1,.var 33 [jI 0,jI 0])] 9 0) ?_
        obtain ⟨⟨r0_5_2,m0_2_2⟩,hx_34,h⟩:=bsome h
        refine RW.one fokW (r_callS (zr:=[]) [6] trivial rfl (k57a r0B6 r0T6 r0L6 (Stand_child.mk weight v3) m5 _ hx_34) ⟨rfl,trivial⟩ rfl rfl ⟨.refl _,.refl _,trivial⟩ rfl rfl rfl (r_end ?_))
        refine Au 2 (sT [(1,jI weight),pR 4 1,pR 6 7,pR 8 8,(10,jI v3),(50,jI (wr (x.Lean_+1))),(51,jI v3),(60,.d (.bool (decide (r0_5_2.Top<0))))] [(6,.mp (List.map m105_43 m0_2_2)),(8,.var 33 [jI Low,jI High2]),(7,.var 96 (catV (cv25 r0B6) [.d (.sl 4 (List.map e103 r0T6)),jI r0L6.weight,jI r0L6.along,jI r0L6.high,.map 6])),(1,.var 33 [jI 0,jI 0])] 9 0) ?_
        refine RW.nil (hQ_33 _ ?_)
        refine AW.cond rfl (fun hb_35=>?_) (fun hb_35=>?_)
        ·have h:=ifT hb_35 h
         refine AW.exit ?_
         obtain rfl:=Option.some.inj h
         have e_3:=hb_28 _ rfl
         subst e_3
         obtain rfl:=Aft.bk hk_28
         exact hK_27 _ (Can.kp (by kernel_rfl))
        ·have h:=ifF hb_35 h
         refine AW.skip (hK_32 _ ?_)
         refine Ra (sT [(1,jI weight),pR 4 1,pR 6 7,pR 8 8,(50,jI (wr (x.Lean_+1))),(51,jI v3)] [(8,.var 33 [jI Low,jI v3]),(6,.mp (List.map m105_43 m0_2_2)),(7,.var 96 (catV (cv25 r0B6) [.d (.sl 4 (List.map e103 r0T6)),jI r0L6.weight,jI r0L6.along,jI r0L6.high,.map 6])),(1,.var 33 [jI 0,jI 0])] 9 0) ?_
         refine hK_31 _ ?_
         refine Ra (sT [(1,jI weight),pR 4 1,pR 6 7,pR 8 8,(50,jI (wr (x.Lean_+1))),(51,jI (wr (v3+1)))] [(8,.var 33 [jI Low,jI v3]),(6,.mp (List.map m105_43 m0_2_2)),(7,.var 96 (catV (cv25 r0B6) [.d (.sl 4 (List.map e103 r0T6)),jI r0L6.weight,jI r0L6.along,jI r0L6.high,.map 6])),(1,.var 33 [jI 0,jI 0])] 9 0) ?_
         obtain rfl:=Option.some.inj h
         have ew:wr (v3+1)=v3+1:=inext (N:=(wr (x.Lean_+1))) (by omega) (by omega) (by omega)
         rw [ew]
         exact hK_28 _ _ rfl (Can.kp (by kernel_rfl))
       ·obtain ⟨High2,m5⟩:=s_28
        subst hout
        have h:=Aft.nx hk_28
        refine Sa (sT [(1,jI weight),pR 4 1,pR 6 7,pR 8 8,(50,jI (wr (x.Lean_+1))),(51,jI v3),(52,.d (.bool (decide (v3<(wr (x.Lean_+1))))))] [(6,.mp (List.map m105_43 m5)),(8,.var 33 [jI Low,jI High2]),(7,.var 96 (catV (cv25 r0B6) [.d (.sl 4 (List.map e103 r0T6)),jI r0L6.weight,jI r0L6.along,jI r0L6.high,.map 6])),(1,.var 33 [jI 0,jI 0])] 9 0) ?_
        refine AW.seqK (fun K_36 hK_36=>?_)
        refine AW.cond rfl (fun hb_37=>False.elim (by have:=of_decide_eq_true hb_37;omega)) (fun hb_37=>?_)
        refine AW.exit ?_
        obtain rfl:=Option.some.inj h
        exact hK_27 _ (Can.kp (by kernel_rfl))
      ·obtain rfl:=Option.some.inj h
       exact hK_26 _ (Can.kp (by kernel_rfl))
     ·refine Sa (sT [pR 4 1,(5,jI 0)] [(1,.var 33 [jI Low,jI High])] 9 0) ?_
      obtain rfl:=Option.some.inj h
      exact rT hR_0 (.cons (.agg rfl rfl (Nat.le_of_ble_eq_true rfl)) (.cons (.tmp rfl) .nil))
def g60 (bB:StandBook) (bT:(List (Nat→Int))) (bL:Stand_load) (lead:Stand_load) (wider:Int):Option (StandBook×(List (Nat→Int))×Stand_load×(List (Stand_child×StandRatio))):=some ((StandBook.mk bB.Kind (wr (bB.Front+wider)) (wr (bB.Back+wider)) bB.Radius bB.Parts bB.Along bB.High bB.Lean_ bB.Limit bB.Trials),bT,lead,[])
theorem k60 (bB:StandBook) (bT:(List (Nat→Int))) (bL:Stand_load) (lead:Stand_load) (wider:Int) (r:StandBook×(List (Nat→Int))×Stand_load×(List (Stand_child×StandRatio))) (h:g60 bB bT bL lead wider=some r):SCall Tryd.prog Gs 60 [.agg [jI bB.Kind,jI bB.Front,jI bB.Back,jI bB.Radius,.d (.sl 4 (List.map e36 bB.Parts)),jI bB.Along,jI bB.High,jI bB.Lean_,jI bB.Limit,.d (.sl 3 (List.map e29 bB.Trials)),.d (.sl 4 (List.map e103 bT)),jI bL.weight,jI bL.along,jI bL.high,.opq],.agg [jI lead.weight,jI lead.along,jI lead.high],jI wider] [] 0 Fr.emp (match r with | (r0B,r0T,r0L,m4)=>.agg [jI r0B.Kind,jI r0B.Front,jI r0B.Back,jI r0B.Radius,.d (.sl 4 (List.map e36 r0B.Parts)),jI r0B.Along,jI r0B.High,jI r0B.Lean_,jI r0B.Limit,.d (.sl 3 (List.map e29 r0B.Trials)),.d (.sl 4 (List.map e103 r0T)),jI r0L.weight,jI r0L.along,jI r0L.high,.map 4]) (match r with | (r0B,r0T,r0L,m4)=>[(4,.mp (List.map m105_43 m4))]) 5 Fr.emp:=by
 unfold g60 at h
 refine SCall.mkK Tryd.func60 c60 rfl rfl (by kernel_rfl) (fun Q_0 hR_0 hN_0=>?_)
 refine Sa (sT [(2,jI wider),pR 3 0,pR 4 1,pR 6 2] [(2,.var 96 [jI 0,jI 0,jI 0,jI 0,.d (.nilSl),jI 0,jI 0,jI 0,jI 0,.d (.nilSl),.d (.nilSl),jI 0,jI 0,jI 0,.d (.nilMap)]),(1,.var 93 [jI lead.weight,jI lead.along,jI lead.high]),(0,.var 96 (catV (cv25 bB) [.d (.sl 4 (List.map e103 bT)),jI bL.weight,jI bL.along,jI bL.high,.opq]))] 3 0) ?_
 refine Sa (sT [(2,jI wider),pR 3 0,pR 4 1,pR 6 2,pR 7 3] [(3,.var 96 (catV (cv25 bB) [.d (.sl 4 (List.map e103 bT)),jI bL.weight,jI bL.along,jI bL.high,.opq])),(2,.var 96 [jI 0,jI 0,jI 0,jI 0,.d (.nilSl),jI 0,jI 0,jI 0,jI 0,.d (.nilSl),.d (.nilSl),jI 0,jI 0,jI 0,.d (.nilMap)]),(1,.var 93 [jI lead.weight,jI lead.along,jI lead.high]),(0,.var 96 (catV (cv25 bB) [.d (.sl 4 (List.map e103 bT)),jI bL.weight,jI bL.along,jI bL.high,.opq]))] 4 0) ?_
 refine Sa (sT [pR 6 2,pR 7 3] [(3,.var 96 [jI bB.Kind,jI (wr (bB.Front+wider)),jI (wr (bB.Back+wider)),jI bB.Radius,.d (.sl 4 (List.map e36 bB.Parts)),jI bB.Along,jI bB.High,jI bB.Lean_,jI bB.Limit,.d (.sl 3 (List.map e29 bB.Trials)),.d (.sl 4 (List.map e103 bT)),jI lead.weight,jI lead.along,jI lead.high,.map 4]),(4,.mp (List.map m105_43 [])),(2,.var 96 [jI 0,jI 0,jI 0,jI 0,.d (.nilSl),jI 0,jI 0,jI 0,jI 0,.d (.nilSl),.d (.nilSl),jI 0,jI 0,jI 0,.d (.nilMap)])] 5 0) ?_
 refine Sa (sT [pR 6 2] [(2,.var 96 [jI bB.Kind,jI (wr (bB.Front+wider)),jI (wr (bB.Back+wider)),jI bB.Radius,.d (.sl 4 (List.map e36 bB.Parts)),jI bB.Along,jI bB.High,jI bB.Lean_,jI bB.Limit,.d (.sl 3 (List.map e29 bB.Trials)),.d (.sl 4 (List.map e103 bT)),jI lead.weight,jI lead.along,jI lead.high,.map 4]),(4,.mp (List.map m105_43 []))] 5 0) ?_
 obtain rfl:=Option.some.inj h
 exact rT hR_0 (.cons (.agg rfl rfl (Nat.le_of_ble_eq_true rfl)) .nil)
def g61a (bB:StandBook) (bT:(List (Nat→Int))) (bL:Stand_load) (m0:List (Stand_child×StandRatio)):Option (Bool×(List (Stand_child×StandRatio))):=(g58a bB bT bL 1 m0).bind fun (r0,m0_1)=>(bif r0 then ((g58a bB bT bL bB.Limit m0_1).bind fun (r0_1,m0_1_1)=>some (r0_1,m0_1_1)) else (some (false,m0_1))).bind fun (v,m)=>some (v,m)
def y20 (m0_1:List (Stand_child×StandRatio)) (bB:StandBook) (bT:(List (Nat→Int))) (bL:Stand_load):List (Nat×Blk):=[(0,.mp (List.map m105_43 m0_1)),(1,.var 96 (catV (cv25 bB) [.d (.sl 4 (List.map e103 bT)),jI bL.weight,jI bL.along,jI bL.high,.map 0]))]
theorem k61a (bB:StandBook) (bT:(List (Nat→Int))) (bL:Stand_load) (m0:List (Stand_child×StandRatio)) (r:Bool×(List (Stand_child×StandRatio))) (h:g61a bB bT bL m0=some r):SCall Tryd.prog Gs 61 [.agg [jI bB.Kind,jI bB.Front,jI bB.Back,jI bB.Radius,.d (.sl 4 (List.map e36 bB.Parts)),jI bB.Along,jI bB.High,jI bB.Lean_,jI bB.Limit,.d (.sl 3 (List.map e29 bB.Trials)),.d (.sl 4 (List.map e103 bT)),jI bL.weight,jI bL.along,jI bL.high,.map 0]] [(0,.mp (List.map m105_43 m0))] 1 Fr.emp (match r with | (r0_2,m0_2)=>.d (.bool r0_2)) (match r with | (r0_2,m0_2)=>[(0,.mp (List.map m105_43 m0_2))]) 1 Fr.emp:=by
 unfold g61a at h
 refine SCall.mkK Tryd.func61 c61 rfl rfl (by kernel_rfl) (fun Q_0 hR_0 hN_0=>?_)
 refine Sa (sT [pR 1 1] [(1,.var 96 (catV (cv25 bB) [.d (.sl 4 (List.map e103 bT)),jI bL.weight,jI bL.along,jI bL.high,.map 0])),(0,.mp (List.map m105_43 m0))] 2 1) ?_
 refine AW.srwK (fun Q_1 hQ_1=>?_)
 refine Au 1 (sT [pR 1 1,(3,.agg [jI bB.Kind,jI bB.Front,jI bB.Back,jI bB.Radius,.d (.sl 4 (List.map e36 bB.Parts)),jI bB.Along,jI bB.High,jI bB.Lean_,jI bB.Limit,.d (.sl 3 (List.map e29 bB.Trials)),.d (.sl 4 (List.map e103 bT)),jI bL.weight,jI bL.along,jI bL.high,.map 0])] [(1,.var 96 (catV (cv25 bB) [.d (.sl 4 (List.map e103 bT)),jI bL.weight,jI bL.along,jI bL.high,.map 0])),(0,.mp (List.map m105_43 m0))] 2 1) ?_
 obtain ⟨⟨r0,m0_1⟩,hx_2,h⟩:=bsome h
 refine RW.one fokW (r_callS (zr:=[]) [0] trivial rfl (k58a bB bT bL 1 m0 _ hx_2) ⟨rfl,trivial⟩ rfl rfl ⟨.refl _,.refl _,trivial⟩ rfl rfl rfl (r_end ?_))
 refine Au 1 (sT [pR 1 1,(5,.d (.bool r0))] (y20 m0_1 bB bT bL) 2 1) ?_
 obtain ⟨c_3,hx_3,h⟩:=bsome h
 refine RW.cut fokW 6 (match c_3 with | (v,m)=>(sT [(11,.d (.bool v))] [(0,.mp (List.map m105_43 m))] 2 1)) ?_ ?_
 ·refine r_split 5 rfl (fun hb_5=>?_) (fun hb_5=>?_)
  ·have h:=ifT hb_5 hx_3
   refine aX 4 (sT [(5,.d (.bool true)),(6,.agg [jI bB.Kind,jI bB.Front,jI bB.Back,jI bB.Radius,.d (.sl 4 (List.map e36 bB.Parts)),jI bB.Along,jI bB.High,jI bB.Lean_,jI bB.Limit,.d (.sl 3 (List.map e29 bB.Trials)),.d (.sl 4 (List.map e103 bT)),jI bL.weight,jI bL.along,jI bL.high,.map 0]),(9,jI bB.Limit)] (y20 m0_1 bB bT bL) 2 1) ?_
   obtain ⟨⟨r0_1,m0_1_1⟩,hx_4,h⟩:=bsome h
   refine r_callS (zr:=[]) [0] rfl rfl (k58a bB bT bL bB.Limit m0_1 _ hx_4) ⟨rfl,trivial⟩ rfl rfl ⟨.refl _,.refl _,trivial⟩ rfl rfl rfl ?_
   refine aX 1 (sT [(11,.d (.bool r0_1))] [(0,.mp (List.map m105_43 m0_1_1)),(1,.var 96 (catV (cv25 bB) [.d (.sl 4 (List.map e103 bT)),jI bL.weight,jI bL.along,jI bL.high,.map 0]))] 2 1) ?_
   obtain rfl:=Option.some.inj h
   refine RunC.finJ (Can.kp (by kernel_rfl))
  ·have h:=ifF hb_5 hx_3
   refine aX 6 (sT [(11,.d (.bool false))] (y20 m0_1 bB bT bL) 2 1) ?_
   obtain rfl:=Option.some.inj h
   refine RunC.finJ (Can.kp (by kernel_rfl))
 ·obtain ⟨v,m⟩:=c_3
  refine Au 1 (sT [(2,.d (.bool v))] [(0,.mp (List.map m105_43 m))] 2 1) ?_
  refine RW.nil (hQ_1 _ ?_)
  obtain rfl:=Option.some.inj h
  exact rT hR_0 (.cons (.tmp rfl) .nil)
def g17_11 (along:Int) (r0B6:StandBook) (r0T6:(List (Nat→Int))) (r0L6:Stand_load):Int→Unit→Option (Ctl (Unit) (Int×Int)):=fun v _=>(g60 r0B6 r0T6 r0L6 (Stand_load.mk v (wr (v*along)) 0) 0).bind fun (r0B,r0T,r0L,m4)=>(g61a r0B r0T r0L m4).bind fun (r0_2,m0_2)=>bif r0_2 then (some (.brk (v,0))) else (some (.next ()))
def g17 (x:StandBook) (along:Int):Option (Int×Int):=(g59 along (-60) 60).bind fun r0=>(g53 x r0).bind fun r_20=>match r_20 with | .next (r0B5,r0T5,r0L5,r1_2)=>(must (decide (r1_2≠0))).bind fun _=>some (0,r1_2) | .brk (r0B6,r0T6,r0L6,r1_3,m4_1)=>bif (decide (r1_3≠0)) then (some (0,r1_3)) else (bindC (forC (g17_11 along r0B6 r0T6 r0L6) (((100:Int) - 0).toNat) 0 ()) fun _=>some (0,4))
theorem k17 (x:StandBook) (along:Int) (r:Int×Int) (h:g17 x along=some r):SCall Tryd.prog Gs 17 [.agg [jI x.Kind,jI x.Front,jI x.Back,jI x.Radius,.d (.sl 4 (List.map e36 x.Parts)),jI x.Along,jI x.High,jI x.Lean_,jI x.Limit,.d (.sl 3 (List.map e29 x.Trials))],jI along] [] 0 Fr.emp (match r with | (r0_5,r1_5)=>.tup [jI r0_5,jI r1_5]) [] 0 Fr.emp:=by
 unfold g17 at h
 refine SCall.mkK Tryd.func17 c17 rfl rfl (by kernel_rfl) (fun Q_0 hR_0 hN_0=>?_)
 refine Sa (sT [(1,jI along),pR 2 0] [(0,.var 25 (cv25 x))] 1 0) ?_
 refine AW.sdrwK fokW (fun Q_1 hQ_1=>?_)
 refine aX 2 (sT [(1,jI along),(10,.agg [jI x.Kind,jI x.Front,jI x.Back,jI x.Radius,.d (.sl 4 (List.map e36 x.Parts)),jI x.Along,jI x.High,jI x.Lean_,jI x.Limit,.d (.sl 3 (List.map e29 x.Trials))]),(11,jI along)] [(0,.var 25 (cv25 x))] 1 0) ?_
 obtain ⟨r0,hx_2,h⟩:=bsome h
 refine r_call trivial rfl (k59 along (-60) 60 _ hx_2) rfl rfl ?_
 obtain ⟨r_20,hx_3,h⟩:=bsome h
 rcases r_20 with (⟨r0B5,r0T5,r0L5,r1_2⟩ | (⟨r0B6,r0T6,r0L6,r1_3,m4_1⟩))
 ·refine r_callS (zr:=[]) [] trivial rfl (k53 x r0 _ hx_3) trivial rfl rfl ⟨.refl _,.refl _,trivial⟩ rfl rfl rfl ?_
  obtain ⟨_,hv_4,h⟩:=bsome h
  have hf_5:=must_ok hv_4
  refine aX 6 (sT [(1,jI along),pR 6 1,(7,jI r1_2)] [(1,.var 96 (catV (cv25 r0B5) [.d (.sl 4 (List.map e103 r0T5)),jI r0L5.weight,jI r0L5.along,jI r0L5.high,.d (.nilMap)])),(0,.var 25 (cv25 x))] 2 0) ?_
  refine Fi (sT [(1,jI along),pR 6 1,(7,jI r1_2)] [(1,.var 96 (catV (cv25 r0B5) [.d (.sl 4 (List.map e103 r0T5)),jI r0L5.weight,jI r0L5.along,jI r0L5.high,.d (.nilMap)]))] 2 0) ?_
  refine hQ_1 _ ?_
  refine AW.seqK (fun K_6 hK_6=>?_)
  refine Sa (sT [(1,jI along),pR 6 1,(7,jI r1_2),(17,.d (.bool (decide (r1_2≠0))))] [(1,.var 96 (catV (cv25 r0B5) [.d (.sl 4 (List.map e103 r0T5)),jI r0L5.weight,jI r0L5.along,jI r0L5.high,.d (.nilMap)]))] 2 0) ?_
  refine AW.cond rfl (fun hb_7=>?_) (fun hb_7=>False.elim (by rw [hf_5] at hb_7;cases hb_7))
  refine Sa (sT [(4,jI 0),(5,jI r1_2)] [] 2 0) ?_
  obtain rfl:=Option.some.inj h
  exact rT hR_0 (.cons (.tmp rfl) (.cons (.tmp rfl) .nil))
 ·refine r_callS (zr:=[]) [] trivial rfl (k53 x r0 _ hx_3) trivial rfl rfl ⟨.refl _,.refl _,trivial⟩ rfl rfl rfl ?_
  refine aX 6 (sT [(1,jI along),pR 6 6,(7,jI r1_3)] [(6,.var 96 (catV (cv25 r0B6) [.d (.sl 4 (List.map e103 r0T6)),jI r0L6.weight,jI r0L6.along,jI r0L6.high,.map 5])),(5,.mp (List.map m105_43 m4_1)),(0,.var 25 (cv25 x))] 7 0) ?_
  refine Fi (sT [(1,jI along),pR 6 6,(7,jI r1_3)] [(6,.var 96 (catV (cv25 r0B6) [.d (.sl 4 (List.map e103 r0T6)),jI r0L6.weight,jI r0L6.along,jI r0L6.high,.map 5])),(5,.mp (List.map m105_43 m4_1))] 7 0) ?_
  refine hQ_1 _ ?_
  refine AW.seqK (fun K_8 hK_8=>?_)
  refine Sa (sT [(1,jI along),pR 6 6,(7,jI r1_3),(17,.d (.bool (decide (r1_3≠0))))] [(6,.var 96 (catV (cv25 r0B6) [.d (.sl 4 (List.map e103 r0T6)),jI r0L6.weight,jI r0L6.along,jI r0L6.high,.map 5])),(5,.mp (List.map m105_43 m4_1))] 7 0) ?_
  refine AW.cond rfl (fun hb_9=>?_) (fun hb_9=>?_)
  ·have h:=ifT hb_9 h
   refine Sa (sT [(4,jI 0),(5,jI r1_3)] [] 7 0) ?_
   obtain rfl:=Option.some.inj h
   exact rT hR_0 (.cons (.tmp rfl) (.cons (.tmp rfl) .nil))
  ·have h:=ifF hb_9 h
   refine AW.skip (hK_8 _ ?_)
   refine AW.seqK (fun K_10 hK_10=>?_)
   refine Sa (sT [(1,jI along),pR 6 6,(19,jI 0)] [(6,.var 96 (catV (cv25 r0B6) [.d (.sl 4 (List.map e103 r0T6)),jI r0L6.weight,jI r0L6.along,jI r0L6.high,.map 5])),(5,.mp (List.map m105_43 m4_1))] 7 0) ?_
   refine AW.block ?_
   have hN_11:(100:Int)≤9223372036854775807:=by decide
   obtain ⟨out_11,hx_11,hk_11⟩:=bsomeC h
   refine AW.lpCK (fun (v:Int) (_:Unit)=>(sT [(1,jI along),pR 6 6,(19,jI v)] [(6,.var 96 (catV (cv25 r0B6) [.d (.sl 4 (List.map e103 r0T6)),jI r0L6.weight,jI r0L6.along,jI r0L6.high,.map 5])),(5,.mp (List.map m105_43 m4_1))] 7 0)) (g17_11 along r0B6 r0T6 r0L6) (100) hx_11 (Can.kp (by kernel_rfl)) (fun v s_11 hi_11 hl_11 c_11 h hb_11 K_11 hK_11=>?_) (fun v s_11 hi_11 hl_11 hout=>?_)
   ·unfold g17_11 at h
    refine Sa (sT [(1,jI along),pR 6 6,(19,jI v),(20,.d (.bool (decide (v<100))))] [(6,.var 96 (catV (cv25 r0B6) [.d (.sl 4 (List.map e103 r0T6)),jI r0L6.weight,jI r0L6.along,jI r0L6.high,.map 5])),(5,.mp (List.map m105_43 m4_1))] 7 0) ?_
    refine AW.seqK (fun K_12 hK_12=>?_)
    refine AW.cond rfl (fun hb_13=>?_) (fun hb_13=>False.elim (by have:=of_decide_eq_false hb_13;omega))
    refine AW.skip (hK_12 _ ?_)
    refine AW.seqK (fun K_14 hK_14=>?_)
    refine AW.block ?_
    refine Sa (sT [(1,jI along),pR 6 6,(8,jI v),(19,jI v)] [(6,.var 96 (catV (cv25 r0B6) [.d (.sl 4 (List.map e103 r0T6)),jI r0L6.weight,jI r0L6.along,jI r0L6.high,.map 5])),(5,.mp (List.map m105_43 m4_1))] 7 0) ?_
    refine AW.srwK (fun Q_15 hQ_15=>?_)
    refine Au 6 (sT [(1,jI along),pR 6 6,(8,jI v),(19,jI v),(22,.agg [jI r0B6.Kind,jI r0B6.Front,jI r0B6.Back,jI r0B6.Radius,.d (.sl 4 (List.map e36 r0B6.Parts)),jI r0B6.Along,jI r0B6.High,jI r0B6.Lean_,jI r0B6.Limit,.d (.sl 3 (List.map e29 r0B6.Trials)),.d (.sl 4 (List.map e103 r0T6)),jI r0L6.weight,jI r0L6.along,jI r0L6.high,.map 5]),(27,.agg [jI v,jI (wr (v*along)),jI 0])] [(6,.var 96 (catV (cv25 r0B6) [.d (.sl 4 (List.map e103 r0T6)),jI r0L6.weight,jI r0L6.along,jI r0L6.high,.map 5])),(5,.mp (List.map m105_43 m4_1))] 7 0) ?_
    obtain ⟨⟨r0B,r0T,r0L,m4⟩,hx_16,h⟩:=bsome h
    refine RW.one fokW (r_callS (zr:=[]) [] trivial rfl (k60 r0B6 r0T6 r0L6 (Stand_load.mk v (wr (v*along)) 0) 0 _ hx_16) trivial rfl rfl ⟨(Frz.agg_of ⟨.refl _,.refl _,.refl _,.refl _,.refl _,.refl _,.refl _,.refl _,.refl _,.refl _,.refl _,.refl _,.refl _,.refl _,(.opq rfl (by intro _ h;cases h)),trivial⟩),.refl _,.refl _,trivial⟩ rfl rfl rfl (r_end ?_))
    obtain ⟨⟨r0_2,m0_2⟩,hx_17,h⟩:=bsome h
    refine RW.one fokW (r_callS (zr:=[]) [11] trivial rfl (k61a r0B r0T r0L m4 _ hx_17) ⟨rfl,trivial⟩ rfl rfl ⟨.refl _,trivial⟩ rfl rfl rfl (r_end ?_))
    refine RW.nil (hQ_15 _ ?_)
    refine AW.cond rfl (fun hb_18=>?_) (fun hb_18=>?_)
    ·have h:=ifT hb_18 h
     refine Sa (sT [(4,jI v),(5,jI 0)] [] 12 0) ?_
     obtain rfl:=Option.some.inj h
     have e_1:=hb_11 _ rfl
     subst e_1
     obtain rfl:=Aft.bk hk_11
     exact rT hR_0 (.cons (.tmp rfl) (.cons (.tmp rfl) .nil))
    ·have h:=ifF hb_18 h
     refine AW.skip (hK_14 _ ?_)
     refine Ra (sT [(1,jI along),pR 6 6,(19,jI (wr (v+1)))] [(6,.var 96 (catV (cv25 r0B6) [.d (.sl 4 (List.map e103 r0T6)),jI r0L6.weight,jI r0L6.along,jI r0L6.high,.map 5])),(5,.mp (List.map m105_43 m4_1))] 12 0) ?_
     obtain rfl:=Option.some.inj h
     have ew:wr (v+1)=v+1:=inext (N:=100) (by omega) (by omega) (by omega)
     rw [ew]
     exact hK_11 _ _ rfl (Can.kp (by kernel_rfl))
   ·subst hout
    have h:=Aft.nx hk_11
    refine Sa (sT [(1,jI along),pR 6 6,(19,jI v),(20,.d (.bool (decide (v<100))))] [(6,.var 96 (catV (cv25 r0B6) [.d (.sl 4 (List.map e103 r0T6)),jI r0L6.weight,jI r0L6.along,jI r0L6.high,.map 5])),(5,.mp (List.map m105_43 m4_1))] 7 0) ?_
    refine AW.seqK (fun K_19 hK_19=>?_)
    refine AW.cond rfl (fun hb_20=>False.elim (by have:=of_decide_eq_true hb_20;omega)) (fun hb_20=>?_)
    refine AW.exit ?_
    refine hK_10 _ ?_
    refine Sa (sT [(4,jI 0),(5,jI 4)] [] 7 0) ?_
    obtain rfl:=Option.some.inj h
    exact rT hR_0 (.cons (.tmp rfl) (.cons (.tmp rfl) .nil))
def g18_10 (r0B6:StandBook) (r0T6:(List (Nat→Int))) (r0L6:Stand_load):Int→Unit→Option (Ctl (Unit) (Int×Int)):=fun v _=>(g60 r0B6 r0T6 r0L6 (Stand_load.mk 0 0 0) v).bind fun (r0B,r0T,r0L,m4)=>(g61a r0B r0T r0L m4).bind fun (r0_2,m0_2)=>bif r0_2 then (some (.brk (v,0))) else (some (.next ()))
def g18 (x:StandBook):Option (Int×Int):=(g53 x true).bind fun r_19=>match r_19 with | .next (r0B5,r0T5,r0L5,r1_2)=>(must (decide (r1_2≠0))).bind fun _=>some (0,r1_2) | .brk (r0B6,r0T6,r0L6,r1_3,m4_1)=>bif (decide (r1_3≠0)) then (some (0,r1_3)) else (bindC (forC (g18_10 r0B6 r0T6 r0L6) (((21:Int) - 0).toNat) 0 ()) fun _=>some (0,4))
theorem k18 (x:StandBook) (r:Int×Int) (h:g18 x=some r):SCall Tryd.prog Gs 18 [.agg [jI x.Kind,jI x.Front,jI x.Back,jI x.Radius,.d (.sl 4 (List.map e36 x.Parts)),jI x.Along,jI x.High,jI x.Lean_,jI x.Limit,.d (.sl 3 (List.map e29 x.Trials))]] [] 0 Fr.emp (match r with | (r0_4,r1_5)=>.tup [jI r0_4,jI r1_5]) [] 0 Fr.emp:=by
 unfold g18 at h
 refine SCall.mkK Tryd.func18 c18 rfl rfl (by kernel_rfl) (fun Q_0 hR_0 hN_0=>?_)
 refine Sa (sT [pR 1 0] [(0,.var 25 (cv25 x))] 1 0) ?_
 refine AW.srwK (fun Q_1 hQ_1=>?_)
 refine Au 1 (sT [(8,.agg [jI x.Kind,jI x.Front,jI x.Back,jI x.Radius,.d (.sl 4 (List.map e36 x.Parts)),jI x.Along,jI x.High,jI x.Lean_,jI x.Limit,.d (.sl 3 (List.map e29 x.Trials))])] [] 1 0) ?_
 obtain ⟨r_19,hx_2,h⟩:=bsome h
 rcases r_19 with (⟨r0B5,r0T5,r0L5,r1_2⟩ | (⟨r0B6,r0T6,r0L6,r1_3,m4_1⟩))
 ·refine RW.one fokW (r_callS (zr:=[]) [] trivial rfl (k53 x true _ hx_2) trivial rfl rfl ⟨.refl _,.refl _,trivial⟩ rfl rfl rfl (r_end ?_))
  obtain ⟨_,hv_3,h⟩:=bsome h
  have hf_4:=must_ok hv_3
  refine Au 6 (sT [pR 4 1,(5,jI r1_2)] [(1,.var 96 (catV (cv25 r0B5) [.d (.sl 4 (List.map e103 r0T5)),jI r0L5.weight,jI r0L5.along,jI r0L5.high,.d (.nilMap)]))] 2 0) ?_
  refine RW.nil (hQ_1 _ ?_)
  refine AW.seqK (fun K_5 hK_5=>?_)
  refine Sa (sT [pR 4 1,(5,jI r1_2),(13,.d (.bool (decide (r1_2≠0))))] [(1,.var 96 (catV (cv25 r0B5) [.d (.sl 4 (List.map e103 r0T5)),jI r0L5.weight,jI r0L5.along,jI r0L5.high,.d (.nilMap)]))] 2 0) ?_
  refine AW.cond rfl (fun hb_6=>?_) (fun hb_6=>False.elim (by rw [hf_4] at hb_6;cases hb_6))
  refine Sa (sT [(2,jI 0),(3,jI r1_2)] [] 2 0) ?_
  obtain rfl:=Option.some.inj h
  exact rT hR_0 (.cons (.tmp rfl) (.cons (.tmp rfl) .nil))
 ·refine RW.one fokW (r_callS (zr:=[]) [] trivial rfl (k53 x true _ hx_2) trivial rfl rfl ⟨.refl _,.refl _,trivial⟩ rfl rfl rfl (r_end ?_))
  refine Au 6 (sT [pR 4 6,(5,jI r1_3)] [(6,.var 96 (catV (cv25 r0B6) [.d (.sl 4 (List.map e103 r0T6)),jI r0L6.weight,jI r0L6.along,jI r0L6.high,.map 5])),(5,.mp (List.map m105_43 m4_1))] 7 0) ?_
  refine RW.nil (hQ_1 _ ?_)
  refine AW.seqK (fun K_7 hK_7=>?_)
  refine Sa (sT [pR 4 6,(5,jI r1_3),(13,.d (.bool (decide (r1_3≠0))))] [(6,.var 96 (catV (cv25 r0B6) [.d (.sl 4 (List.map e103 r0T6)),jI r0L6.weight,jI r0L6.along,jI r0L6.high,.map 5])),(5,.mp (List.map m105_43 m4_1))] 7 0) ?_
  refine AW.cond rfl (fun hb_8=>?_) (fun hb_8=>?_)
  ·have h:=ifT hb_8 h
   refine Sa (sT [(2,jI 0),(3,jI r1_3)] [] 7 0) ?_
   obtain rfl:=Option.some.inj h
   exact rT hR_0 (.cons (.tmp rfl) (.cons (.tmp rfl) .nil))
  ·have h:=ifF hb_8 h
   refine AW.skip (hK_7 _ ?_)
   refine AW.seqK (fun K_9 hK_9=>?_)
   refine Sa (sT [pR 4 6,(15,jI 0)] [(6,.var 96 (catV (cv25 r0B6) [.d (.sl 4 (List.map e103 r0T6)),jI r0L6.weight,jI r0L6.along,jI r0L6.high,.map 5])),(5,.mp (List.map m105_43 m4_1))] 7 0) ?_
   refine AW.block ?_
   have hN_10:(21:Int)≤9223372036854775807:=by decide
   obtain ⟨out_10,hx_10,hk_10⟩:=bsomeC h
   refine AW.lpCK (fun (v:Int) (_:Unit)=>(sT [pR 4 6,(15,jI v)] [(6,.var 96 (catV (cv25 r0B6) [.d (.sl 4 (List.map e103 r0T6)),jI r0L6.weight,jI r0L6.along,jI r0L6.high,.map 5])),(5,.mp (List.map m105_43 m4_1))] 7 0)) (g18_10 r0B6 r0T6 r0L6) (21) hx_10 (Can.kp (by kernel_rfl)) (fun v s_10 hi_10 hl_10 c_10 h hb_10 K_10 hK_10=>?_) (fun v s_10 hi_10 hl_10 hout=>?_)
   ·unfold g18_10 at h
    refine Sa (sT [pR 4 6,(15,jI v),(16,.d (.bool (decide (v<21))))] [(6,.var 96 (catV (cv25 r0B6) [.d (.sl 4 (List.map e103 r0T6)),jI r0L6.weight,jI r0L6.along,jI r0L6.high,.map 5])),(5,.mp (List.map m105_43 m4_1))] 7 0) ?_
    refine AW.seqK (fun K_11 hK_11=>?_)
    refine AW.cond rfl (fun hb_12=>?_) (fun hb_12=>False.elim (by have:=of_decide_eq_false hb_12;omega))
    refine AW.skip (hK_11 _ ?_)
    refine AW.seqK (fun K_13 hK_13=>?_)
    refine AW.block ?_
    refine Sa (sT [pR 4 6,(6,jI v),(15,jI v)] [(6,.var 96 (catV (cv25 r0B6) [.d (.sl 4 (List.map e103 r0T6)),jI r0L6.weight,jI r0L6.along,jI r0L6.high,.map 5])),(5,.mp (List.map m105_43 m4_1))] 7 0) ?_
    refine AW.srwK (fun Q_14 hQ_14=>?_)
    refine Au 3 (sT [pR 4 6,(6,jI v),(15,jI v),(18,.agg [jI r0B6.Kind,jI r0B6.Front,jI r0B6.Back,jI r0B6.Radius,.d (.sl 4 (List.map e36 r0B6.Parts)),jI r0B6.Along,jI r0B6.High,jI r0B6.Lean_,jI r0B6.Limit,.d (.sl 3 (List.map e29 r0B6.Trials)),.d (.sl 4 (List.map e103 r0T6)),jI r0L6.weight,jI r0L6.along,jI r0L6.high,.map 5]),(19,.agg [jI 0,jI 0,jI 0]),(20,jI v)] [(6,.var 96 (catV (cv25 r0B6) [.d (.sl 4 (List.map e103 r0T6)),jI r0L6.weight,jI r0L6.along,jI r0L6.high,.map 5])),(5,.mp (List.map m105_43 m4_1))] 7 0) ?_
    obtain ⟨⟨r0B,r0T,r0L,m4⟩,hx_15,h⟩:=bsome h
    refine RW.one fokW (r_callS (zr:=[]) [] trivial rfl (k60 r0B6 r0T6 r0L6 (Stand_load.mk 0 0 0) v _ hx_15) trivial rfl rfl ⟨(Frz.agg_of ⟨.refl _,.refl _,.refl _,.refl _,.refl _,.refl _,.refl _,.refl _,.refl _,.refl _,.refl _,.refl _,.refl _,.refl _,(.opq rfl (by intro _ h;cases h)),trivial⟩),.refl _,.refl _,trivial⟩ rfl rfl rfl (r_end ?_))
    obtain ⟨⟨r0_2,m0_2⟩,hx_16,h⟩:=bsome h
    refine RW.one fokW (r_callS (zr:=[]) [11] trivial rfl (k61a r0B r0T r0L m4 _ hx_16) ⟨rfl,trivial⟩ rfl rfl ⟨.refl _,trivial⟩ rfl rfl rfl (r_end ?_))
    refine RW.nil (hQ_14 _ ?_)
    refine AW.cond rfl (fun hb_17=>?_) (fun hb_17=>?_)
    ·have h:=ifT hb_17 h
     refine Sa (sT [(2,jI v),(3,jI 0)] [] 12 0) ?_
     obtain rfl:=Option.some.inj h
     have e_1:=hb_10 _ rfl
     subst e_1
     obtain rfl:=Aft.bk hk_10
     exact rT hR_0 (.cons (.tmp rfl) (.cons (.tmp rfl) .nil))
    ·have h:=ifF hb_17 h
     refine AW.skip (hK_13 _ ?_)
     refine Ra (sT [pR 4 6,(15,jI (wr (v+1)))] [(6,.var 96 (catV (cv25 r0B6) [.d (.sl 4 (List.map e103 r0T6)),jI r0L6.weight,jI r0L6.along,jI r0L6.high,.map 5])),(5,.mp (List.map m105_43 m4_1))] 12 0) ?_
     obtain rfl:=Option.some.inj h
     have ew:wr (v+1)=v+1:=inext (N:=21) (by omega) (by omega) (by omega)
     rw [ew]
     exact hK_10 _ _ rfl (Can.kp (by kernel_rfl))
   ·subst hout
    have h:=Aft.nx hk_10
    refine Sa (sT [pR 4 6,(15,jI v),(16,.d (.bool (decide (v<21))))] [(6,.var 96 (catV (cv25 r0B6) [.d (.sl 4 (List.map e103 r0T6)),jI r0L6.weight,jI r0L6.along,jI r0L6.high,.map 5])),(5,.mp (List.map m105_43 m4_1))] 7 0) ?_
    refine AW.seqK (fun K_18 hK_18=>?_)
    refine AW.cond rfl (fun hb_19=>False.elim (by have:=of_decide_eq_true hb_19;omega)) (fun hb_19=>?_)
    refine AW.exit ?_
    refine hK_9 _ ?_
    refine Sa (sT [(2,jI 0),(3,jI 4)] [] 7 0) ?_
    obtain rfl:=Option.some.inj h
    exact rT hR_0 (.cons (.tmp rfl) (.cons (.tmp rfl) .nil))
def g63a (bB:StandBook) (bT:(List (Nat→Int))) (bL:Stand_load):Option (StandBook×(List (Nat→Int))×Stand_load):=some (bB,bT,bL)
def y21 (bB:StandBook) (bT:(List (Nat→Int))) (bL:Stand_load):List (Nat×Blk):=[(0,.var 96 (catV (cv25 bB) [.d (.sl 4 (List.map e103 bT)),jI bL.weight,jI bL.along,jI bL.high,.d (.nilMap)]))]
theorem k63a (bB:StandBook) (bT:(List (Nat→Int))) (bL:Stand_load) (r:StandBook×(List (Nat→Int))×Stand_load) (h:g63a bB bT bL=some r):SCall Tryd.prog Gs 63 [.agg [jI bB.Kind,jI bB.Front,jI bB.Back,jI bB.Radius,.d (.sl 4 (List.map e36 bB.Parts)),jI bB.Along,jI bB.High,jI bB.Lean_,jI bB.Limit,.d (.sl 3 (List.map e29 bB.Trials)),.d (.sl 4 (List.map e103 bT)),jI bL.weight,jI bL.along,jI bL.high,.d (.nilMap)]] [] 0 Fr.emp (match r with | (o0B,o0T,o0L)=>.clo 111 [] [.ptr 0 0]) (match r with | (o0B,o0T,o0L)=>[(0,.var 96 (catV (cv25 o0B) [.d (.sl 4 (List.map e103 o0T)),jI o0L.weight,jI o0L.along,jI o0L.high,.d (.nilMap)]))]) 1 Fr.emp:=by
 unfold g63a at h
 refine SCall.mkK Tryd.func63 c63 rfl rfl (by kernel_rfl) (fun Q_0 hR_0 hN_0=>?_)
 refine Sa (sT [pR 1 0] (y21 bB bT bL) 1 0) ?_
 refine Sa (sT [(2,.clo 111 [] [.ptr 0 0])] (y21 bB bT bL) 1 0) ?_
 obtain rfl:=Option.some.inj h
 exact rT hR_0 (.cons (.tmp rfl) .nil)
def g112a_12 {S_:Type} (rec_:(Nat→Int)→Int→StandBook→(List (Nat→Int))→Stand_load→S_→Option (Bool×S_)) (part:Int) (o0B:StandBook) (o0T:(List (Nat→Int))) (o0L:Stand_load) (p:StandPart):Int→(S_×(Nat→Int))→Option (Ctl (S_×(Nat→Int)) (Ctl (S_) (Ctl (S_) (Bool×S_)))):=fun v (s_4,w1)=>(ixN 4 part).bind fun j=>(rec_ (aset w1 j (wr (p.Weight.Low+v))) (wr (part+1)) o0B o0T o0L s_4).bind fun (r0_5_1,s_8_1)=>bif (!r0_5_1) then (some (.brk (.brk (.brk (false,s_8_1))))) else (some (.next (s_8_1,(aset w1 j (wr (p.Weight.Low+v))))))
def g112a {S_:Type} (c_:(Nat→Int)→S_→Option (S_×Bool)):Nat→(Nat→Int)→Int→StandBook→(List (Nat→Int))→Stand_load→S_→Option (Bool×S_)
 | 0,_,_,_,_,_,_=>none
 | n_+1,w,part,o0B,o0T,o0L,s_=>bif (decide (part=(o0B.Parts.length:Int))) then ((g113).bind fun r0=>bif (false != (((w 0)==(r0 0))&&(((w 1)==(r0 1))&&(((w 2)==(r0 2))&&(((w 3)==(r0 3))&&true))))) then (some (true,s_)) else ((c_ w s_).bind fun (s_1,go)=>some (go,s_1))) else ((ixL o0B.Parts part).bind fun p=>bindC (bindC (bindC (forC (g112a_12 (g112a c_ n_) part o0B o0T o0L p) ((((wr ((wr (p.Weight.High - p.Weight.Low))+1)):Int) - 0).toNat) 0 (s_,w)) fun (s_4,w1)=>some (.next s_4):Option (Ctl (S_) (Ctl (S_) (Bool×S_)))) fun s_3=>some (.next s_3):Option (Ctl (S_) (Bool×S_))) fun s_2=>some (true,s_2))
def y22 (w:(Nat→Int)) (o0B:StandBook) (o0T:(List (Nat→Int))) (o0L:Stand_load):List (Nat×Blk):=[(3,.var 103 [jI (w 0),jI (w 1),jI (w 2),jI (w 3)]),(0,.var 96 (catV (cv25 o0B) [.d (.sl 4 (List.map e103 o0T)),jI o0L.weight,jI o0L.along,jI o0L.high,.d (.nilMap)])),(1,.var 177 [.yld]),(2,.var 178 [.clo 112 [] [.ptr 0 0,.ptr 1 0,.ptr 2 0]])]
def y23 (o0B:StandBook) (o0T:(List (Nat→Int))) (o0L:Stand_load):List (Nat×Blk):=[(0,.var 96 (catV (cv25 o0B) [.d (.sl 4 (List.map e103 o0T)),jI o0L.weight,jI o0L.along,jI o0L.high,.d (.nilMap)])),(1,.var 177 [.yld]),(2,.var 178 [.clo 112 [] [.ptr 0 0,.ptr 1 0,.ptr 2 0]])]
theorem k112a {S_:Type} (fr_:S_→Fr) (c_:(Nat→Int)→S_→Option (S_×Bool)) (hc_:∀ (a0:(Nat→Int)) s s2 b,c_ a0 s=some (s2,b)→YCall Tryd.prog Gs (fr_ s) [.agg [jI (a0 0),jI (a0 1),jI (a0 2),jI (a0 3)]] (.d (.bool b)) (fr_ s2)):∀ (n_:Nat) (w:(Nat→Int)) (part:Int) (o0B:StandBook) (o0T:(List (Nat→Int))) (o0L:Stand_load) (s_:S_) (r:Bool×S_) (h:g112a c_ n_ w part o0B o0T o0L s_=some r),SCall Tryd.prog Gs 112 [.agg [jI (w 0),jI (w 1),jI (w 2),jI (w 3)],jI part,.ptr 0 0,.ptr 1 0,.ptr 2 0] [(0,.var 96 (catV (cv25 o0B) [.d (.sl 4 (List.map e103 o0T)),jI o0L.weight,jI o0L.along,jI o0L.high,.d (.nilMap)])),(1,.var 177 [.yld]),(2,.var 178 [.clo 112 [] [.ptr 0 0,.ptr 1 0,.ptr 2 0]])] 3 (fr_ s_) (match r with | (r0_5,s_8)=>.d (.bool r0_5)) (match r with | (r0_5,s_8)=>[(0,.var 96 (catV (cv25 o0B) [.d (.sl 4 (List.map e103 o0T)),jI o0L.weight,jI o0L.along,jI o0L.high,.d (.nilMap)])),(1,.var 177 [.yld]),(2,.var 178 [.clo 112 [] [.ptr 0 0,.ptr 1 0,.ptr 2 0]])]) 3 (fr_ (match r with | (r0_5,s_8)=>s_8)):=by
 intro n_
 induction n_ with
 | zero=>intro w part o0B o0T o0L s_ r h;cases h
 | succ n_ ih=>
  intro w part o0B o0T o0L s_ r h
  rw [g112a] at h
  refine SCall.mkK Tryd.func112 c112 rfl rfl (by kernel_rfl) (fun Q_0 hR_0 hN_0=>?_)
  refine Sa ⟨[(1,jI part),pR 2 0,pR 3 1,pR 4 2,pR 5 3],(y22 w o0B o0T o0L),4,(fr_ s_),[],3⟩ ?_
  refine AW.seqK fun K_1 hK_1=>AW.srwK fun Q_2 hQ_2=>?_
  refine Au 4 ⟨[(1,jI part),pR 2 0,pR 3 1,pR 4 2,pR 5 3,(10,jI part),(13,.d (.sl 4 (List.map e36 o0B.Parts)))],(y22 w o0B o0T o0L),4,(fr_ s_),[],3⟩ ?_
  refine rL rfl ?_
  refine Au 1 ⟨[(1,jI part),pR 2 0,pR 3 1,pR 4 2,pR 5 3,(15,.d (.bool (decide (part=(o0B.Parts.length:Int)))))],(y22 w o0B o0T o0L),4,(fr_ s_),[],3⟩ ?_
  refine RW.nil (hQ_2 _ ?_)
  refine AW.cond rfl (fun hb_3=>?_) (fun hb_3=>?_)
  ·have h:=ifT hb_3 h
   refine AW.sdrwK fokW (fun Q_4 hQ_4=>?_)
   refine aX 1 ⟨[pR 3 1,pR 5 3,(16,.agg [jI (w 0),jI (w 1),jI (w 2),jI (w 3)])],(y22 w o0B o0T o0L),4,(fr_ s_),[],3⟩ ?_
   obtain ⟨r0,hx_5,h⟩:=bsome h
   refine r_call trivial rfl (k113 _ hx_5) rfl rfl ?_
   refine r_aeq trivial rfl rfl rfl rfl ft103 rfl rfl rfl ?_
   refine aX 1 ⟨[pR 3 1,pR 5 3,(19,.d (.bool (false != (((w 0)==(r0 0))&&(((w 1)==(r0 1))&&(((w 2)==(r0 2))&&(((w 3)==(r0 3))&&true)))))))],(y22 w o0B o0T o0L),4,(fr_ s_),[],3⟩ ?_
   refine r_split 19 rfl (fun hb_6=>?_) (fun hb_6=>?_)
   ·have h:=ifT hb_6 h
    refine aX 5 ⟨[(7,.d (.bool true))],(y22 w o0B o0T o0L),4,(fr_ s_),[],3⟩ ?_
    refine Fi ⟨[(7,.d (.bool true))],(y23 o0B o0T o0L),4,(fr_ s_),[],3⟩ ?_
    refine hQ_4 _ ?_
    obtain rfl:=Option.some.inj h
    exact rT hR_0 (.cons (.tmp rfl) .nil)
   ·have h:=ifF hb_6 h
    refine aX 2 ⟨[(19,.d (.bool false)),(20,.yld),(21,.agg [jI (w 0),jI (w 1),jI (w 2),jI (w 3)])],(y22 w o0B o0T o0L),4,(fr_ s_),[],3⟩ ?_
    obtain ⟨⟨s_1,go⟩,hx_7,h⟩:=bsome h
    refine r_yield (zr:=[]) rfl rfl rfl (hc_ w _ _ _ hx_7) trivial ⟨.refl _,trivial⟩ rfl rfl rfl rfl ?_
    refine aX 2 ⟨[(7,.d (.bool go))],(y22 w o0B o0T o0L),4,(fr_ s_1),[],3⟩ ?_
    refine Fi ⟨[(7,.d (.bool go))],(y23 o0B o0T o0L),4,(fr_ s_1),[],3⟩ ?_
    refine hQ_4 _ ?_
    obtain rfl:=Option.some.inj h
    exact rT hR_0 (.cons (.tmp rfl) .nil)
  ·have h:=ifF hb_3 h
   refine AW.skip (hK_1 _ ?_)
   refine AW.srwK (fun Q_8 hQ_8=>?_)
   refine Au 4 ⟨[(1,jI part),pR 4 2,pR 5 3,(26,.d (.sl 4 (List.map e36 o0B.Parts))),(27,jI part)],(y22 w o0B o0T o0L),4,(fr_ s_),[],3⟩ ?_
   obtain ⟨p,hv_9,h⟩:=bsome h
   refine RW.one fokW (r_iaD trivial rfl rfl (ixL_ok hv_9).1 (row:=e36 p) (mapget (ixL_ok hv_9).2) (r_end ?_))
   refine Au 4 ⟨[(1,jI part),pR 4 2,pR 5 3,pR 8 4],[(4,.var 33 [jI p.Weight.Low,jI p.Weight.High]),(3,.var 103 [jI (w 0),jI (w 1),jI (w 2),jI (w 3)]),(0,.var 96 (catV (cv25 o0B) [.d (.sl 4 (List.map e103 o0T)),jI o0L.weight,jI o0L.along,jI o0L.high,.d (.nilMap)])),(1,.var 177 [.yld]),(2,.var 178 [.clo 112 [] [.ptr 0 0,.ptr 1 0,.ptr 2 0]])],5,(fr_ s_),[],3⟩ ?_
   refine RW.nil (hQ_8 _ ?_)
   obtain ⟨c_10,hx_10,hk_10⟩:=bsomeC h
   refine AW.jnK (fun (s_2:S_)=>⟨[],(y23 o0B o0T o0L),5,(fr_ s_2),[],3⟩) (c:=c_10) (fun K_10 hK_10=>?_) (fun s_2 hj_10=>?_)
   ·have h:=hx_10
    refine Sa ⟨[(1,jI part),pR 4 2,pR 5 3,pR 8 4,(36,jI (wr ((wr (p.Weight.High - p.Weight.Low))+1))),(37,jI 0)],[(4,.var 33 [jI p.Weight.Low,jI p.Weight.High]),(3,.var 103 [jI (w 0),jI (w 1),jI (w 2),jI (w 3)]),(0,.var 96 (catV (cv25 o0B) [.d (.sl 4 (List.map e103 o0T)),jI o0L.weight,jI o0L.along,jI o0L.high,.d (.nilMap)])),(1,.var 177 [.yld]),(2,.var 178 [.clo 112 [] [.ptr 0 0,.ptr 1 0,.ptr 2 0]])],5,(fr_ s_),[],3⟩ ?_
    obtain ⟨c_11,hx_11,hk_11⟩:=bsomeC h
    refine AW.jqK (fun (s_3:S_)=>⟨[],(y23 o0B o0T o0L),5,(fr_ s_3),[],3⟩) (c:=c_11) (fun K_11 hK_11=>?_) (fun s_3 hj_11=>?_)
    ·have h:=hx_11
     refine AW.block ?_
     have hN_12:(wr ((wr (p.Weight.High - p.Weight.Low))+1))≤9223372036854775807:=(wr_range _).2
     obtain ⟨out_12,hx_12,hk_12⟩:=bsomeC h
     refine AW.lpCK (fun (v:Int) (⟨s_4,w1⟩:S_×(Nat→Int))=>⟨[(1,jI part),pR 4 2,pR 5 3,pR 8 4,(36,jI (wr ((wr (p.Weight.High - p.Weight.Low))+1))),(37,jI v)],[(4,.var 33 [jI p.Weight.Low,jI p.Weight.High]),(3,.var 103 [jI (w1 0),jI (w1 1),jI (w1 2),jI (w1 3)]),(0,.var 96 (catV (cv25 o0B) [.d (.sl 4 (List.map e103 o0T)),jI o0L.weight,jI o0L.along,jI o0L.high,.d (.nilMap)])),(1,.var 177 [.yld]),(2,.var 178 [.clo 112 [] [.ptr 0 0,.ptr 1 0,.ptr 2 0]])],5,(fr_ s_4),[],3⟩) (g112a_12 (g112a c_ n_) part o0B o0T o0L p) ((wr ((wr (p.Weight.High - p.Weight.Low))+1))) hx_12 (Can.kp (by kernel_rfl)) (fun v s_12 hi_12 hl_12 c_12 h hb_12 K_12 hK_12=>?_) (fun v s_12 hi_12 hl_12 hout=>?_)
     ·obtain ⟨s_4,w1⟩:=s_12
      unfold g112a_12 at h
      refine Sa ⟨[(1,jI part),pR 4 2,pR 5 3,pR 8 4,(36,jI (wr ((wr (p.Weight.High - p.Weight.Low))+1))),(37,jI v),(38,.d (.bool (decide (v<(wr ((wr (p.Weight.High - p.Weight.Low))+1))))))],[(4,.var 33 [jI p.Weight.Low,jI p.Weight.High]),(3,.var 103 [jI (w1 0),jI (w1 1),jI (w1 2),jI (w1 3)]),(0,.var 96 (catV (cv25 o0B) [.d (.sl 4 (List.map e103 o0T)),jI o0L.weight,jI o0L.along,jI o0L.high,.d (.nilMap)])),(1,.var 177 [.yld]),(2,.var 178 [.clo 112 [] [.ptr 0 0,.ptr 1 0,.ptr 2 0]])],5,(fr_ s_4),[],3⟩ ?_
      refine AW.seqK (fun K_13 hK_13=>?_)
      refine AW.cond rfl (fun hb_14=>?_) (fun hb_14=>False.elim (by have:=of_decide_eq_false hb_14;omega))
      refine AW.skip (hK_13 _ ?_)
      refine AW.seqK (fun K_15 hK_15=>?_)
      refine AW.block ?_
      refine Sa ⟨[(1,jI part),pR 4 2,pR 5 3,pR 8 4,(9,jI v),(36,jI (wr ((wr (p.Weight.High - p.Weight.Low))+1))),(37,jI v)],[(4,.var 33 [jI p.Weight.Low,jI p.Weight.High]),(3,.var 103 [jI (w1 0),jI (w1 1),jI (w1 2),jI (w1 3)]),(0,.var 96 (catV (cv25 o0B) [.d (.sl 4 (List.map e103 o0T)),jI o0L.weight,jI o0L.along,jI o0L.high,.d (.nilMap)])),(1,.var 177 [.yld]),(2,.var 178 [.clo 112 [] [.ptr 0 0,.ptr 1 0,.ptr 2 0]])],5,(fr_ s_4),[],3⟩ ?_
      refine AW.srwK (fun Q_16 hQ_16=>?_)
      refine Au 5 ⟨[(1,jI part),pR 4 2,pR 5 3,pR 8 4,(36,jI (wr ((wr (p.Weight.High - p.Weight.Low))+1))),(37,jI v),(40,jI part),(44,jI (wr (p.Weight.Low+v)))],[(4,.var 33 [jI p.Weight.Low,jI p.Weight.High]),(3,.var 103 [jI (w1 0),jI (w1 1),jI (w1 2),jI (w1 3)]),(0,.var 96 (catV (cv25 o0B) [.d (.sl 4 (List.map e103 o0T)),jI o0L.weight,jI o0L.along,jI o0L.high,.d (.nilMap)])),(1,.var 177 [.yld]),(2,.var 178 [.clo 112 [] [.ptr 0 0,.ptr 1 0,.ptr 2 0]])],5,(fr_ s_4),[],3⟩ ?_
      obtain ⟨j,hv_17,h⟩:=bsome h
      refine RW.one fokW (r_iaV trivial rfl rfl rfl (ixN_ok hv_17).1 (ixN_ok hv_17).2.1 (r_end ?_))
      refine RW.one fokW (r_stX trivial rfl rfl rfl rfl rfl (aslot hv_17 rfl) (cs':=[jI ((aset w1 j (wr (p.Weight.Low+v))) 0),jI ((aset w1 j (wr (p.Weight.Low+v))) 1),jI ((aset w1 j (wr (p.Weight.Low+v))) 2),jI ((aset w1 j (wr (p.Weight.Low+v))) 3)]) (ast (w:=w1) (c:=fun z=>jI z) hv_17) (r_end ?_))
      refine RW.nil (hQ_16 _ ?_)
      refine AW.srwK (fun Q_18 hQ_18=>?_)
      refine Au 4 ⟨[(1,jI part),pR 4 2,pR 5 3,pR 8 4,(36,jI (wr ((wr (p.Weight.High - p.Weight.Low))+1))),(37,jI v),(46,.clo 112 [] [.ptr 0 0,.ptr 1 0,.ptr 2 0]),(47,.agg [jI ((aset w1 j (wr (p.Weight.Low+v))) 0),jI ((aset w1 j (wr (p.Weight.Low+v))) 1),jI ((aset w1 j (wr (p.Weight.Low+v))) 2),jI ((aset w1 j (wr (p.Weight.Low+v))) 3)]),(49,jI (wr (part+1)))],[(3,.var 103 [jI ((aset w1 j (wr (p.Weight.Low+v))) 0),jI ((aset w1 j (wr (p.Weight.Low+v))) 1),jI ((aset w1 j (wr (p.Weight.Low+v))) 2),jI ((aset w1 j (wr (p.Weight.Low+v))) 3)]),(4,.var 33 [jI p.Weight.Low,jI p.Weight.High]),(0,.var 96 (catV (cv25 o0B) [.d (.sl 4 (List.map e103 o0T)),jI o0L.weight,jI o0L.along,jI o0L.high,.d (.nilMap)])),(1,.var 177 [.yld]),(2,.var 178 [.clo 112 [] [.ptr 0 0,.ptr 1 0,.ptr 2 0]])],5,(fr_ s_4),[],3⟩ ?_
      obtain ⟨⟨r0_5_1,s_8_1⟩,hx_19,h⟩:=bsome h
      refine RW.one fokW (r_callvS (zr:=[]) [0,1,2] trivial rfl (.clo _ _ _) (by kernel_rfl) rfl (ih (aset w1 j (wr (p.Weight.Low+v))) (wr (part+1)) o0B o0T o0L s_4 _ hx_19) ⟨rfl,rfl,rfl,trivial⟩ rfl rfl ⟨.refl _,.refl _,.refl _,.refl _,.refl _,trivial⟩ rfl rfl rfl (r_end ?_))
      refine Au 1 ⟨[(1,jI part),pR 4 2,pR 5 3,pR 8 4,(36,jI (wr ((wr (p.Weight.High - p.Weight.Low))+1))),(37,jI v),(51,.d (.bool (!r0_5_1)))],[(0,.var 96 (catV (cv25 o0B) [.d (.sl 4 (List.map e103 o0T)),jI o0L.weight,jI o0L.along,jI o0L.high,.d (.nilMap)])),(1,.var 177 [.yld]),(2,.var 178 [.clo 112 [] [.ptr 0 0,.ptr 1 0,.ptr 2 0]]),(3,.var 103 [jI ((aset w1 j (wr (p.Weight.Low+v))) 0),jI ((aset w1 j (wr (p.Weight.Low+v))) 1),jI ((aset w1 j (wr (p.Weight.Low+v))) 2),jI ((aset w1 j (wr (p.Weight.Low+v))) 3)]),(4,.var 33 [jI p.Weight.Low,jI p.Weight.High])],5,(fr_ s_8_1),[],3⟩ ?_
      refine RW.nil (hQ_18 _ ?_)
      refine AW.cond rfl (fun hb_20=>?_) (fun hb_20=>?_)
      ·have h:=ifT hb_20 h
       refine Sa ⟨[(7,.d (.bool false))],(y23 o0B o0T o0L),5,(fr_ s_8_1),[],3⟩ ?_
       obtain rfl:=Option.some.inj h
       have e_3:=hb_12 _ rfl
       subst e_3
       obtain rfl:=Aft.bk hk_12
       obtain rfl:=Aft.bk hk_11
       obtain rfl:=Aft.bk hk_10
       exact rT hR_0 (.cons (.tmp rfl) .nil)
      ·have h:=ifF hb_20 h
       refine AW.skip (hK_15 _ ?_)
       refine Ra ⟨[(1,jI part),pR 4 2,pR 5 3,pR 8 4,(36,jI (wr ((wr (p.Weight.High - p.Weight.Low))+1))),(37,jI (wr (v+1)))],[(0,.var 96 (catV (cv25 o0B) [.d (.sl 4 (List.map e103 o0T)),jI o0L.weight,jI o0L.along,jI o0L.high,.d (.nilMap)])),(1,.var 177 [.yld]),(2,.var 178 [.clo 112 [] [.ptr 0 0,.ptr 1 0,.ptr 2 0]]),(3,.var 103 [jI ((aset w1 j (wr (p.Weight.Low+v))) 0),jI ((aset w1 j (wr (p.Weight.Low+v))) 1),jI ((aset w1 j (wr (p.Weight.Low+v))) 2),jI ((aset w1 j (wr (p.Weight.Low+v))) 3)]),(4,.var 33 [jI p.Weight.Low,jI p.Weight.High])],5,(fr_ s_8_1),[],3⟩ ?_
       obtain rfl:=Option.some.inj h
       have ew:wr (v+1)=v+1:=inext (N:=(wr ((wr (p.Weight.High - p.Weight.Low))+1))) (by omega) (by omega) (by omega)
       rw [ew]
       exact hK_12 _ _ rfl (Can.kp (by kernel_rfl))
     ·obtain ⟨s_4,w1⟩:=s_12
      subst hout
      have h:=Aft.nx hk_12
      refine Sa ⟨[(1,jI part),pR 4 2,pR 5 3,pR 8 4,(36,jI (wr ((wr (p.Weight.High - p.Weight.Low))+1))),(37,jI v),(38,.d (.bool (decide (v<(wr ((wr (p.Weight.High - p.Weight.Low))+1))))))],[(4,.var 33 [jI p.Weight.Low,jI p.Weight.High]),(3,.var 103 [jI (w1 0),jI (w1 1),jI (w1 2),jI (w1 3)]),(0,.var 96 (catV (cv25 o0B) [.d (.sl 4 (List.map e103 o0T)),jI o0L.weight,jI o0L.along,jI o0L.high,.d (.nilMap)])),(1,.var 177 [.yld]),(2,.var 178 [.clo 112 [] [.ptr 0 0,.ptr 1 0,.ptr 2 0]])],5,(fr_ s_4),[],3⟩ ?_
      refine AW.seqK (fun K_21 hK_21=>?_)
      refine AW.cond rfl (fun hb_22=>False.elim (by have:=of_decide_eq_true hb_22;omega)) (fun hb_22=>?_)
      refine AW.exit ?_
      obtain rfl:=Option.some.inj h
      exact hK_11 _ _ rfl (Can.kp (by kernel_rfl))
    ·subst hj_11
     have h:=Aft.nx hk_11
     obtain rfl:=Option.some.inj h
     exact hK_10 _ _ rfl (Can.kp (by kernel_rfl))
   ·subst hj_10
    have h:=Aft.nx hk_10
    refine Sa ⟨[(7,.d (.bool true))],(y23 o0B o0T o0L),5,(fr_ s_2),[],3⟩ ?_
    obtain rfl:=Option.some.inj h
    exact rT hR_0 (.cons (.tmp rfl) .nil)
def g111a {S_:Type} (c_:(Nat→Int)→S_→Option (S_×Bool)) (o0B:StandBook) (o0T:(List (Nat→Int))) (o0L:Stand_load) (s_:S_):Option S_:=(g113).bind fun r0=>(g112a c_ 1000 r0 0 o0B o0T o0L s_).bind fun (r0_5,s_8)=>some s_8
def y24 (o0B:StandBook) (o0T:(List (Nat→Int))) (o0L:Stand_load):List (Nat×Blk):=[(2,.var 178 [.clo 112 [] [.ptr 0 0,.ptr 1 0,.ptr 2 0]]),(1,.var 177 [.yld]),(0,.var 96 (catV (cv25 o0B) [.d (.sl 4 (List.map e103 o0T)),jI o0L.weight,jI o0L.along,jI o0L.high,.d (.nilMap)]))]
theorem k111a {S_:Type} (fr_:S_→Fr) (c_:(Nat→Int)→S_→Option (S_×Bool)) (hc_:∀ (a0:(Nat→Int)) s s2 b,c_ a0 s=some (s2,b)→YCall Tryd.prog Gs (fr_ s) [.agg [jI (a0 0),jI (a0 1),jI (a0 2),jI (a0 3)]] (.d (.bool b)) (fr_ s2)) (o0B:StandBook) (o0T:(List (Nat→Int))) (o0L:Stand_load) (s_:S_) (r:S_) (h:g111a c_ o0B o0T o0L s_=some r):SCall Tryd.prog Gs 111 [.yld,.ptr 0 0] [(0,.var 96 (catV (cv25 o0B) [.d (.sl 4 (List.map e103 o0T)),jI o0L.weight,jI o0L.along,jI o0L.high,.d (.nilMap)]))] 1 (fr_ s_) (.tup []) [(0,.var 96 (catV (cv25 o0B) [.d (.sl 4 (List.map e103 o0T)),jI o0L.weight,jI o0L.along,jI o0L.high,.d (.nilMap)]))] 1 (fr_ r):=by
 unfold g111a at h
 refine SCall.mkK Tryd.func111 c111 rfl rfl (by kernel_rfl) (fun Q_0 hR_0 hN_0=>?_)
 refine Sa ⟨[pR 1 0,pR 2 1],[(1,.var 177 [.yld]),(0,.var 96 (catV (cv25 o0B) [.d (.sl 4 (List.map e103 o0T)),jI o0L.weight,jI o0L.along,jI o0L.high,.d (.nilMap)]))],2,(fr_ s_),[],1⟩ ?_
 refine Sa ⟨[pR 1 0,pR 2 1,pR 3 2],[(2,.var 178 [.d (.nilFn)]),(1,.var 177 [.yld]),(0,.var 96 (catV (cv25 o0B) [.d (.sl 4 (List.map e103 o0T)),jI o0L.weight,jI o0L.along,jI o0L.high,.d (.nilMap)]))],3,(fr_ s_),[],1⟩ ?_
 refine Sa ⟨[pR 3 2],(y24 o0B o0T o0L),3,(fr_ s_),[],1⟩ ?_
 refine AW.drw fokW ?_
 refine aX 1 ⟨[(5,.clo 112 [] [.ptr 0 0,.ptr 1 0,.ptr 2 0])],(y24 o0B o0T o0L),3,(fr_ s_),[],1⟩ ?_
 obtain ⟨r0,hx_2,h⟩:=bsome h
 refine r_call trivial rfl (k113 _ hx_2) rfl rfl ?_
 obtain ⟨⟨r0_5,s_8⟩,hx_3,h⟩:=bsome h
 refine r_callvS (zr:=[]) [0,1,2] trivial rfl (.clo _ _ _) (by kernel_rfl) rfl (k112a fr_ c_ hc_ 1000 r0 0 o0B o0T o0L s_ _ hx_3) ⟨rfl,rfl,rfl,trivial⟩ rfl rfl ⟨.refl _,.refl _,.refl _,.refl _,.refl _,trivial⟩ rfl rfl rfl ?_
 refine Fi ⟨[],[(0,.var 96 (catV (cv25 o0B) [.d (.sl 4 (List.map e103 o0T)),jI o0L.weight,jI o0L.along,jI o0L.high,.d (.nilMap)]))],3,(fr_ s_8),[],1⟩ ?_
 obtain rfl:=Option.some.inj h
 exact hN_0 _ (retX .nil (.refl _) rfl (by kernel_rfl) (by kernel_rfl))
def g108a_3 (w:(Nat→Int)):Int→StandPart→(Int×Int×Int)→Option (Int×Int×Int):=fun v p (weight,along,high)=>(ixN 4 v).bind fun j=>(ixN 4 v).bind fun j1=>(ixN 4 v).bind fun j2=>some ((wr (weight+(w j))),(wr (along+(wr ((w j1)*p.Along)))),(wr (high+(wr ((w j2)*p.High)))))
def g108a (bB:StandBook) (bT:(List (Nat→Int))) (bL:Stand_load) (w:(Nat→Int)) (c:Stand_child):Option Stand_load:=(eachS (g108a_3 w) bB.Parts 0 ((wr (bL.weight+c.weight)),(wr (bL.along+(wr (c.weight*(wr (bB.Along+c.lean)))))),(wr (bL.high+(wr (c.weight*bB.High)))))).bind fun (weight,along,high)=>some (Stand_load.mk weight along high)
def y25 (weight:Int) (along:Int) (high:Int) (w:(Nat→Int)):List (Nat×Blk):=[(4,.var 93 [jI weight,jI along,jI high]),(3,.var 93 [jI 0,jI 0,jI 0]),(1,.var 103 [jI (w 0),jI (w 1),jI (w 2),jI (w 3)])]
theorem k108a (bB:StandBook) (bT:(List (Nat→Int))) (bL:Stand_load) (w:(Nat→Int)) (c:Stand_child) (r:Stand_load) (h:g108a bB bT bL w c=some r):SCall Tryd.prog Gs 108 [.agg [jI bB.Kind,jI bB.Front,jI bB.Back,jI bB.Radius,.d (.sl 4 (List.map e36 bB.Parts)),jI bB.Along,jI bB.High,jI bB.Lean_,jI bB.Limit,.d (.sl 3 (List.map e29 bB.Trials)),.d (.sl 4 (List.map e103 bT)),jI bL.weight,jI bL.along,jI bL.high,.d (.nilMap)],.agg [jI (w 0),jI (w 1),jI (w 2),jI (w 3)],.agg [jI c.weight,jI c.lean]] [] 0 Fr.emp (.agg [jI r.weight,jI r.along,jI r.high]) [] 0 Fr.emp:=by
 unfold g108a at h
 refine SCall.mkK Tryd.func108 c108 rfl rfl (by kernel_rfl) (fun Q_0 hR_0 hN_0=>?_)
 refine Sa (sT [pR 3 0,pR 4 1,pR 5 2,pR 6 3] [(3,.var 93 [jI 0,jI 0,jI 0]),(2,.var 105 [jI c.weight,jI c.lean]),(1,.var 103 [jI (w 0),jI (w 1),jI (w 2),jI (w 3)]),(0,.var 96 (catV (cv25 bB) [.d (.sl 4 (List.map e103 bT)),jI bL.weight,jI bL.along,jI bL.high,.d (.nilMap)]))] 4 0) ?_
 refine Sa (sT [pR 3 0,pR 4 1,pR 5 2,pR 6 3,pR 7 4] [(4,.var 93 [jI bL.weight,jI bL.along,jI bL.high]),(3,.var 93 [jI 0,jI 0,jI 0]),(2,.var 105 [jI c.weight,jI c.lean]),(1,.var 103 [jI (w 0),jI (w 1),jI (w 2),jI (w 3)]),(0,.var 96 (catV (cv25 bB) [.d (.sl 4 (List.map e103 bT)),jI bL.weight,jI bL.along,jI bL.high,.d (.nilMap)]))] 5 0) ?_
 refine Sa (sT [pR 3 0,pR 4 1,pR 5 2,pR 6 3,pR 7 4] [(4,.var 93 [jI (wr (bL.weight+c.weight)),jI bL.along,jI bL.high]),(3,.var 93 [jI 0,jI 0,jI 0]),(2,.var 105 [jI c.weight,jI c.lean]),(1,.var 103 [jI (w 0),jI (w 1),jI (w 2),jI (w 3)]),(0,.var 96 (catV (cv25 bB) [.d (.sl 4 (List.map e103 bT)),jI bL.weight,jI bL.along,jI bL.high,.d (.nilMap)]))] 5 0) ?_
 refine Sa (sT [pR 3 0,pR 4 1,pR 5 2,pR 6 3,pR 7 4] [(4,.var 93 [jI (wr (bL.weight+c.weight)),jI (wr (bL.along+(wr (c.weight*(wr (bB.Along+c.lean)))))),jI bL.high]),(3,.var 93 [jI 0,jI 0,jI 0]),(2,.var 105 [jI c.weight,jI c.lean]),(1,.var 103 [jI (w 0),jI (w 1),jI (w 2),jI (w 3)]),(0,.var 96 (catV (cv25 bB) [.d (.sl 4 (List.map e103 bT)),jI bL.weight,jI bL.along,jI bL.high,.d (.nilMap)]))] 5 0) ?_
 refine Sa (sT [pR 3 0,pR 4 1,pR 6 3,pR 7 4] [(4,.var 93 [jI (wr (bL.weight+c.weight)),jI (wr (bL.along+(wr (c.weight*(wr (bB.Along+c.lean)))))),jI (wr (bL.high+(wr (c.weight*bB.High))))]),(3,.var 93 [jI 0,jI 0,jI 0]),(1,.var 103 [jI (w 0),jI (w 1),jI (w 2),jI (w 3)]),(0,.var 96 (catV (cv25 bB) [.d (.sl 4 (List.map e103 bT)),jI bL.weight,jI bL.along,jI bL.high,.d (.nilMap)]))] 5 0) ?_
 refine AW.seqK fun K_1 hK_1=>AW.srwK fun Q_2 hQ_2=>?_
 refine Au 3 (sT [pR 4 1,pR 6 3,pR 7 4,(43,.d (.sl 4 (List.map e36 bB.Parts)))] [(4,.var 93 [jI (wr (bL.weight+c.weight)),jI (wr (bL.along+(wr (c.weight*(wr (bB.Along+c.lean)))))),jI (wr (bL.high+(wr (c.weight*bB.High))))]),(3,.var 93 [jI 0,jI 0,jI 0]),(1,.var 103 [jI (w 0),jI (w 1),jI (w 2),jI (w 3)])] 5 0) ?_
 refine rL rfl ?_
 refine Au 1 (sT [pR 4 1,pR 6 3,pR 7 4,(43,.d (.sl 4 (List.map e36 bB.Parts))),(44,jI (bB.Parts.length:Int)),(45,jI 0)] [(4,.var 93 [jI (wr (bL.weight+c.weight)),jI (wr (bL.along+(wr (c.weight*(wr (bB.Along+c.lean)))))),jI (wr (bL.high+(wr (c.weight*bB.High))))]),(3,.var 93 [jI 0,jI 0,jI 0]),(1,.var 103 [jI (w 0),jI (w 1),jI (w 2),jI (w 3)])] 5 0) ?_
 refine RW.nil (hQ_2 _ ?_)
 refine AW.block ?_
 refine AW.sln (t:=43) rfl (fun hN_3=>?_)
 rw [List.length_map] at hN_3
 obtain ⟨out_3,hx_3,h⟩:=bsome h
 refine AW.evSK (fun (v:Int) (⟨weight,along,high⟩:Int×Int×Int)=>(sT [pR 4 1,pR 6 3,pR 7 4,(43,.d (.sl 4 (List.map e36 bB.Parts))),(44,jI (bB.Parts.length:Int)),(45,jI v)] (y25 weight along high w) 5 0)) (g108a_3 w) hx_3 (Can.kp (by kernel_rfl)) (fun v p s_3 hi_3 hl_3 hp_3 c_3 h K_3 hK_3=>?_) (fun v s_3 hi_3 hl_3 hout=>?_)
 ·obtain ⟨weight,along,high⟩:=s_3
  unfold g108a_3 at h
  refine Sa (sT [pR 4 1,pR 6 3,pR 7 4,(43,.d (.sl 4 (List.map e36 bB.Parts))),(44,jI (bB.Parts.length:Int)),(45,jI v),(46,.d (.bool (decide (v<(bB.Parts.length:Int)))))] (y25 weight along high w) 5 0) ?_
  refine AW.seqK (fun K_4 hK_4=>?_)
  refine AW.cond rfl (fun hb_5=>?_) (fun hb_5=>False.elim (by have:=of_decide_eq_false hb_5;omega))
  refine AW.skip (hK_4 _ ?_)
  refine AW.seqK (fun K_6 hK_6=>?_)
  refine AW.block ?_
  refine AW.srwK (fun Q_7 hQ_7=>?_)
  refine Au 1 (sT [pR 4 1,pR 6 3,pR 7 4,(43,.d (.sl 4 (List.map e36 bB.Parts))),(44,jI (bB.Parts.length:Int)),(45,jI v),(47,jI v)] (y25 weight along high w) 5 0) ?_
  refine RW.one fokW (r_iaD trivial rfl rfl hi_3 (row:=e36 p) (mapget hp_3) (r_end ?_))
  refine Au 4 (sT [pR 4 1,pR 6 3,pR 7 4,(8,jI v),pR 9 5,(43,.d (.sl 4 (List.map e36 bB.Parts))),(44,jI (bB.Parts.length:Int)),(45,jI v)] [(5,.var 36 (cv36 p)),(4,.var 93 [jI weight,jI along,jI high]),(3,.var 93 [jI 0,jI 0,jI 0]),(1,.var 103 [jI (w 0),jI (w 1),jI (w 2),jI (w 3)])] 6 0) ?_
  refine RW.nil (hQ_7 _ ?_)
  refine AW.sdrwK fokW (fun Q_8 hQ_8=>?_)
  refine aX 3 (sT [pR 4 1,pR 6 3,pR 7 4,(8,jI v),pR 9 5,(43,.d (.sl 4 (List.map e36 bB.Parts))),(44,jI (bB.Parts.length:Int)),(45,jI v),(51,jI weight),(52,jI v)] [(5,.var 36 (cv36 p)),(4,.var 93 [jI weight,jI along,jI high]),(3,.var 93 [jI 0,jI 0,jI 0]),(1,.var 103 [jI (w 0),jI (w 1),jI (w 2),jI (w 3)])] 6 0) ?_
  obtain ⟨j,hv_9,h⟩:=bsome h
  refine r_iaV trivial rfl rfl rfl (ixN_ok hv_9).1 (ixN_ok hv_9).2.1 ?_
  refine r_loadV trivial rfl rfl (u:=jI (w j)) (agt (f:=fun k=>jI (w k)) hv_9) ?_
  refine aX 3 (sT [pR 4 1,pR 6 3,pR 7 4,(8,jI v),pR 9 5,(43,.d (.sl 4 (List.map e36 bB.Parts))),(44,jI (bB.Parts.length:Int)),(45,jI v)] [(4,.var 93 [jI (wr (weight+(w j))),jI along,jI high]),(5,.var 36 (cv36 p)),(3,.var 93 [jI 0,jI 0,jI 0]),(1,.var 103 [jI (w 0),jI (w 1),jI (w 2),jI (w 3)])] 6 0) ?_
  refine Fi (sT [pR 4 1,pR 6 3,pR 7 4,(8,jI v),pR 9 5,(43,.d (.sl 4 (List.map e36 bB.Parts))),(44,jI (bB.Parts.length:Int)),(45,jI v)] [(4,.var 93 [jI (wr (weight+(w j))),jI along,jI high]),(5,.var 36 (cv36 p)),(3,.var 93 [jI 0,jI 0,jI 0]),(1,.var 103 [jI (w 0),jI (w 1),jI (w 2),jI (w 3)])] 6 0) ?_
  refine hQ_8 _ ?_
  refine AW.sdrwK fokW (fun Q_10 hQ_10=>?_)
  refine aX 3 (sT [pR 4 1,pR 6 3,pR 7 4,(8,jI v),pR 9 5,(43,.d (.sl 4 (List.map e36 bB.Parts))),(44,jI (bB.Parts.length:Int)),(45,jI v),(58,jI along),(59,jI v)] [(4,.var 93 [jI (wr (weight+(w j))),jI along,jI high]),(5,.var 36 (cv36 p)),(3,.var 93 [jI 0,jI 0,jI 0]),(1,.var 103 [jI (w 0),jI (w 1),jI (w 2),jI (w 3)])] 6 0) ?_
  obtain ⟨j1,hv_11,h⟩:=bsome h
  refine r_iaV trivial rfl rfl rfl (ixN_ok hv_11).1 (ixN_ok hv_11).2.1 ?_
  refine r_loadV trivial rfl rfl (u:=jI (w j1)) (agt (f:=fun k=>jI (w k)) hv_11) ?_
  refine aX 6 (sT [pR 4 1,pR 6 3,pR 7 4,(8,jI v),pR 9 5,(43,.d (.sl 4 (List.map e36 bB.Parts))),(44,jI (bB.Parts.length:Int)),(45,jI v)] [(4,.var 93 [jI (wr (weight+(w j))),jI (wr (along+(wr ((w j1)*p.Along)))),jI high]),(5,.var 36 (cv36 p)),(3,.var 93 [jI 0,jI 0,jI 0]),(1,.var 103 [jI (w 0),jI (w 1),jI (w 2),jI (w 3)])] 6 0) ?_
  refine Fi (sT [pR 4 1,pR 6 3,pR 7 4,(8,jI v),pR 9 5,(43,.d (.sl 4 (List.map e36 bB.Parts))),(44,jI (bB.Parts.length:Int)),(45,jI v)] [(4,.var 93 [jI (wr (weight+(w j))),jI (wr (along+(wr ((w j1)*p.Along)))),jI high]),(5,.var 36 (cv36 p)),(3,.var 93 [jI 0,jI 0,jI 0]),(1,.var 103 [jI (w 0),jI (w 1),jI (w 2),jI (w 3)])] 6 0) ?_
  refine hQ_10 _ ?_
  refine AW.drw fokW ?_
  refine aX 3 (sT [pR 4 1,pR 6 3,pR 7 4,pR 9 5,(43,.d (.sl 4 (List.map e36 bB.Parts))),(44,jI (bB.Parts.length:Int)),(45,jI v),(68,jI high),(69,jI v)] [(4,.var 93 [jI (wr (weight+(w j))),jI (wr (along+(wr ((w j1)*p.Along)))),jI high]),(5,.var 36 (cv36 p)),(3,.var 93 [jI 0,jI 0,jI 0]),(1,.var 103 [jI (w 0),jI (w 1),jI (w 2),jI (w 3)])] 6 0) ?_
  obtain ⟨j2,hv_13,h⟩:=bsome h
  refine r_iaV trivial rfl rfl rfl (ixN_ok hv_13).1 (ixN_ok hv_13).2.1 ?_
  refine r_loadV trivial rfl rfl (u:=jI (w j2)) (agt (f:=fun k=>jI (w k)) hv_13) ?_
  refine aX 6 (sT [pR 4 1,pR 6 3,pR 7 4,(43,.d (.sl 4 (List.map e36 bB.Parts))),(44,jI (bB.Parts.length:Int)),(45,jI v)] [(4,.var 93 [jI (wr (weight+(w j))),jI (wr (along+(wr ((w j1)*p.Along)))),jI (wr (high+(wr ((w j2)*p.High))))]),(5,.var 36 (cv36 p)),(3,.var 93 [jI 0,jI 0,jI 0]),(1,.var 103 [jI (w 0),jI (w 1),jI (w 2),jI (w 3)])] 6 0) ?_
  refine Fi (sT [pR 4 1,pR 6 3,pR 7 4,(43,.d (.sl 4 (List.map e36 bB.Parts))),(44,jI (bB.Parts.length:Int)),(45,jI v)] [(4,.var 93 [jI (wr (weight+(w j))),jI (wr (along+(wr ((w j1)*p.Along)))),jI (wr (high+(wr ((w j2)*p.High))))]),(3,.var 93 [jI 0,jI 0,jI 0]),(1,.var 103 [jI (w 0),jI (w 1),jI (w 2),jI (w 3)])] 6 0) ?_
  refine hK_6 _ ?_
  refine Ra (sT [pR 4 1,pR 6 3,pR 7 4,(43,.d (.sl 4 (List.map e36 bB.Parts))),(44,jI (bB.Parts.length:Int)),(45,jI (wr (v+1)))] [(4,.var 93 [jI (wr (weight+(w j))),jI (wr (along+(wr ((w j1)*p.Along)))),jI (wr (high+(wr ((w j2)*p.High))))]),(3,.var 93 [jI 0,jI 0,jI 0]),(1,.var 103 [jI (w 0),jI (w 1),jI (w 2),jI (w 3)])] 6 0) ?_
  obtain rfl:=Option.some.inj h
  have ew:wr (v+1)=v+1:=inext (N:=(bB.Parts.length:Int)) (by omega) (by omega) (by omega)
  rw [ew]
  exact hK_3 _ (Can.kp (by kernel_rfl))
 ·obtain ⟨weight,along,high⟩:=s_3
  subst hout
  refine Sa (sT [pR 4 1,pR 6 3,pR 7 4,(43,.d (.sl 4 (List.map e36 bB.Parts))),(44,jI (bB.Parts.length:Int)),(45,jI v),(46,.d (.bool (decide (v<(bB.Parts.length:Int)))))] (y25 weight along high w) 5 0) ?_
  refine AW.seqK (fun K_14 hK_14=>?_)
  refine AW.cond rfl (fun hb_15=>False.elim (by have:=of_decide_eq_true hb_15;omega)) (fun hb_15=>?_)
  refine AW.exit ?_
  refine hK_1 _ ?_
  refine Sa (sT [pR 6 3] [(3,.var 93 [jI weight,jI along,jI high])] 5 0) ?_
  obtain rfl:=Option.some.inj h
  exact rT hR_0 (.cons (.agg rfl rfl (Nat.le_of_ble_eq_true rfl)) .nil)
def g158a (bB:StandBook) (bT:(List (Nat→Int))) (bL:Stand_load) (l:Stand_load):Option Int:=(g160 (wr ((wr (bB.Back*l.weight))+l.along)) [(wr ((wr (bB.Front*l.weight)) - l.along))]).bind fun r0=>some r0
theorem k158a (bB:StandBook) (bT:(List (Nat→Int))) (bL:Stand_load) (l:Stand_load) (r:Int) (h:g158a bB bT bL l=some r):SCall Tryd.prog Gs 158 [.agg [jI bB.Kind,jI bB.Front,jI bB.Back,jI bB.Radius,.d (.sl 4 (List.map e36 bB.Parts)),jI bB.Along,jI bB.High,jI bB.Lean_,jI bB.Limit,.d (.sl 3 (List.map e29 bB.Trials)),.d (.sl 4 (List.map e103 bT)),jI bL.weight,jI bL.along,jI bL.high,.d (.nilMap)],.agg [jI l.weight,jI l.along,jI l.high]] [] 0 Fr.emp (jI r) [] 0 Fr.emp:=by
 unfold g158a at h
 refine SCall.mkK Tryd.func158 c158 rfl rfl (by kernel_rfl) (fun Q_0 hR_0 hN_0=>?_)
 refine Sa (sT [pR 2 0,pR 3 1] [(1,.var 93 [jI l.weight,jI l.along,jI l.high]),(0,.var 96 (catV (cv25 bB) [.d (.sl 4 (List.map e103 bT)),jI bL.weight,jI bL.along,jI bL.high,.d (.nilMap)]))] 2 0) ?_
 refine AW.srwK (fun Q_1 hQ_1=>?_)
 refine Au 19 (sT [(13,jI (wr ((wr (bB.Back*l.weight))+l.along))),(23,.own 2 (List.map e3 [(wr ((wr (bB.Front*l.weight)) - l.along))]).length)] [(2,.row 3 1 (List.map e3 [(wr ((wr (bB.Front*l.weight)) - l.along))]))] 3 0) ?_
 obtain ⟨r0,hx_2,h⟩:=bsome h
 refine RW.one fokW (r_callF (rs:=[(2,.row 3 1 (List.map e3 [(wr ((wr (bB.Front*l.weight)) - l.along))]))]) trivial rfl (k160 (wr ((wr (bB.Back*l.weight))+l.along)) [(wr ((wr (bB.Front*l.weight)) - l.along))] _ hx_2) ⟨rfl,trivial⟩ ⟨.refl _,(.own rfl rfl),trivial⟩ rfl rfl rfl (r_end ?_))
 refine Au 1 (sT [(4,jI r0)] [] 3 0) ?_
 refine RW.nil (hQ_1 _ ?_)
 obtain rfl:=Option.some.inj h
 exact rT hR_0 (.cons (.tmp rfl) .nil)
def g159a (bB:StandBook) (bT:(List (Nat→Int))) (bL:Stand_load) (l:Stand_load):Option Int:=(g160 (wr ((wr (bB.Back*(wr ((wr (bB.Radius*l.weight)) - l.high))))+(wr (bB.Radius*l.along)))) [(wr ((wr (bB.Front*(wr ((wr (bB.Radius*l.weight)) - l.high)))) - (wr (bB.Radius*l.along))))]).bind fun r0=>some r0
def y26 (l:Stand_load) (bB:StandBook) (bT:(List (Nat→Int))) (bL:Stand_load):List (Nat×Blk):=[(1,.var 93 [jI l.weight,jI l.along,jI l.high]),(0,.var 96 (catV (cv25 bB) [.d (.sl 4 (List.map e103 bT)),jI bL.weight,jI bL.along,jI bL.high,.d (.nilMap)]))]
theorem k159a (bB:StandBook) (bT:(List (Nat→Int))) (bL:Stand_load) (l:Stand_load) (r:Int) (h:g159a bB bT bL l=some r):SCall Tryd.prog Gs 159 [.agg [jI bB.Kind,jI bB.Front,jI bB.Back,jI bB.Radius,.d (.sl 4 (List.map e36 bB.Parts)),jI bB.Along,jI bB.High,jI bB.Lean_,jI bB.Limit,.d (.sl 3 (List.map e29 bB.Trials)),.d (.sl 4 (List.map e103 bT)),jI bL.weight,jI bL.along,jI bL.high,.d (.nilMap)],.agg [jI l.weight,jI l.along,jI l.high]] [] 0 Fr.emp (jI r) [] 0 Fr.emp:=by
 unfold g159a at h
 refine SCall.mkK Tryd.func159 c159 rfl rfl (by kernel_rfl) (fun Q_0 hR_0 hN_0=>?_)
 refine Sa (sT [pR 2 0,pR 3 1] (y26 l bB bT bL) 2 0) ?_
 refine Sa (sT [pR 2 0,pR 3 1,(5,jI (wr ((wr (bB.Radius*l.weight)) - l.high)))] (y26 l bB bT bL) 2 0) ?_
 refine AW.srwK (fun Q_1 hQ_1=>?_)
 refine Au 25 (sT [(26,jI (wr ((wr (bB.Back*(wr ((wr (bB.Radius*l.weight)) - l.high))))+(wr (bB.Radius*l.along))))),(39,.own 2 (List.map e3 [(wr ((wr (bB.Front*(wr ((wr (bB.Radius*l.weight)) - l.high)))) - (wr (bB.Radius*l.along))))]).length)] [(2,.row 3 1 (List.map e3 [(wr ((wr (bB.Front*(wr ((wr (bB.Radius*l.weight)) - l.high)))) - (wr (bB.Radius*l.along))))]))] 3 0) ?_
 obtain ⟨r0,hx_2,h⟩:=bsome h
 refine RW.one fokW (r_callF (rs:=[(2,.row 3 1 (List.map e3 [(wr ((wr (bB.Front*(wr ((wr (bB.Radius*l.weight)) - l.high)))) - (wr (bB.Radius*l.along))))]))]) trivial rfl (k160 (wr ((wr (bB.Back*(wr ((wr (bB.Radius*l.weight)) - l.high))))+(wr (bB.Radius*l.along)))) [(wr ((wr (bB.Front*(wr ((wr (bB.Radius*l.weight)) - l.high)))) - (wr (bB.Radius*l.along))))] _ hx_2) ⟨rfl,trivial⟩ ⟨.refl _,(.own rfl rfl),trivial⟩ rfl rfl rfl (r_end ?_))
 refine Au 1 (sT [(4,jI r0)] [] 3 0) ?_
 refine RW.nil (hQ_1 _ ?_)
 obtain rfl:=Option.some.inj h
 exact rT hR_0 (.cons (.tmp rfl) .nil)
def g56a (bB:StandBook) (bT:(List (Nat→Int))) (bL:Stand_load) (w:(Nat→Int)) (c:Stand_child):Option Bool:=(ixN 2 bB.Kind).bind fun j=>match j with | 0=>(g108a bB bT bL w c).bind fun r0=>(g158a bB bT bL r0).bind fun r0_1=>some (decide (r0_1<0)) | 1=>(g108a bB bT bL w c).bind fun r0_2=>(g159a bB bT bL r0_2).bind fun r0_1_1=>some (decide (r0_1_1<0)) | _=>none
def y27 (c:Stand_child) (w:(Nat→Int)) (bB:StandBook) (bT:(List (Nat→Int))) (bL:Stand_load):List (Nat×Blk):=[(2,.var 105 [jI c.weight,jI c.lean]),(1,.var 103 [jI (w 0),jI (w 1),jI (w 2),jI (w 3)]),(0,.var 96 (catV (cv25 bB) [.d (.sl 4 (List.map e103 bT)),jI bL.weight,jI bL.along,jI bL.high,.d (.nilMap)]))]
theorem k56a (bB:StandBook) (bT:(List (Nat→Int))) (bL:Stand_load) (w:(Nat→Int)) (c:Stand_child) (r:Bool) (h:g56a bB bT bL w c=some r):SCall Tryd.prog Gs 56 [.agg [jI bB.Kind,jI bB.Front,jI bB.Back,jI bB.Radius,.d (.sl 4 (List.map e36 bB.Parts)),jI bB.Along,jI bB.High,jI bB.Lean_,jI bB.Limit,.d (.sl 3 (List.map e29 bB.Trials)),.d (.sl 4 (List.map e103 bT)),jI bL.weight,jI bL.along,jI bL.high,.d (.nilMap)],.agg [jI (w 0),jI (w 1),jI (w 2),jI (w 3)],.agg [jI c.weight,jI c.lean]] [] 0 Fr.emp (.d (.bool r)) [] 0 Fr.emp:=by
 unfold g56a at h
 refine SCall.mkK Tryd.func56 c56 rfl rfl (by kernel_rfl) (fun Q_0 hR_0 hN_0=>?_)
 refine Sa (sT [pR 3 0,pR 4 1,pR 5 2] (y27 c w bB bT bL) 3 0) ?_
 refine AW.sdrwK fokW (fun Q_1 hQ_1=>?_)
 refine aX 3 (sT [pR 3 0,pR 4 1,pR 5 2,(9,jI bB.Kind)] (y27 c w bB bT bL) 3 0) ?_
 obtain ⟨j,hv_2,h⟩:=bsome h
 rcases j with _ | _ | j
 ·refine r_iaF trivial rfl rfl (ixN_ok hv_2).1 (ixN_ok hv_2).2.1 ?_
  refine r_loadF trivial rfl (u:=.fn 158) (by rw [(ixN_ok hv_2).2.2];rfl) ?_
  refine aX 4 (sT [(11,.d (.fn 158)),(12,.agg [jI bB.Kind,jI bB.Front,jI bB.Back,jI bB.Radius,.d (.sl 4 (List.map e36 bB.Parts)),jI bB.Along,jI bB.High,jI bB.Lean_,jI bB.Limit,.d (.sl 3 (List.map e29 bB.Trials)),.d (.sl 4 (List.map e103 bT)),jI bL.weight,jI bL.along,jI bL.high,.d (.nilMap)]),(13,.agg [jI bB.Kind,jI bB.Front,jI bB.Back,jI bB.Radius,.d (.sl 4 (List.map e36 bB.Parts)),jI bB.Along,jI bB.High,jI bB.Lean_,jI bB.Limit,.d (.sl 3 (List.map e29 bB.Trials)),.d (.sl 4 (List.map e103 bT)),jI bL.weight,jI bL.along,jI bL.high,.d (.nilMap)]),(14,.agg [jI (w 0),jI (w 1),jI (w 2),jI (w 3)]),(15,.agg [jI c.weight,jI c.lean])] (y27 c w bB bT bL) 3 0) ?_
  obtain ⟨r0,hx_3,h⟩:=bsome h
  refine r_call trivial rfl (k108a bB bT bL w c _ hx_3) rfl rfl ?_
  obtain ⟨r0_1,hx_4,h⟩:=bsome h
  refine r_callvZ (zr:=[]) trivial rfl (.fn _) (by kernel_rfl) rfl (k158a bB bT bL r0 _ hx_4) trivial ⟨.refl _,.refl _,trivial⟩ rfl rfl rfl rfl ?_
  refine aX 2 (sT [(6,.d (.bool (decide (r0_1<0))))] (y27 c w bB bT bL) 3 0) ?_
  refine Fi (sT [(6,.d (.bool (decide (r0_1<0))))] [] 3 0) ?_
  refine hQ_1 _ ?_
  obtain rfl:=Option.some.inj h
  exact rT hR_0 (.cons (.tmp rfl) .nil)
 ·refine r_iaF trivial rfl rfl (ixN_ok hv_2).1 (ixN_ok hv_2).2.1 ?_
  refine r_loadF trivial rfl (u:=.fn 159) (by rw [(ixN_ok hv_2).2.2];rfl) ?_
  refine aX 4 (sT [(11,.d (.fn 159)),(12,.agg [jI bB.Kind,jI bB.Front,jI bB.Back,jI bB.Radius,.d (.sl 4 (List.map e36 bB.Parts)),jI bB.Along,jI bB.High,jI bB.Lean_,jI bB.Limit,.d (.sl 3 (List.map e29 bB.Trials)),.d (.sl 4 (List.map e103 bT)),jI bL.weight,jI bL.along,jI bL.high,.d (.nilMap)]),(13,.agg [jI bB.Kind,jI bB.Front,jI bB.Back,jI bB.Radius,.d (.sl 4 (List.map e36 bB.Parts)),jI bB.Along,jI bB.High,jI bB.Lean_,jI bB.Limit,.d (.sl 3 (List.map e29 bB.Trials)),.d (.sl 4 (List.map e103 bT)),jI bL.weight,jI bL.along,jI bL.high,.d (.nilMap)]),(14,.agg [jI (w 0),jI (w 1),jI (w 2),jI (w 3)]),(15,.agg [jI c.weight,jI c.lean])] (y27 c w bB bT bL) 3 0) ?_
  obtain ⟨r0_2,hx_5,h⟩:=bsome h
  refine r_call trivial rfl (k108a bB bT bL w c _ hx_5) rfl rfl ?_
  obtain ⟨r0_1_1,hx_6,h⟩:=bsome h
  refine r_callvZ (zr:=[]) trivial rfl (.fn _) (by kernel_rfl) rfl (k159a bB bT bL r0_2 _ hx_6) trivial ⟨.refl _,.refl _,trivial⟩ rfl rfl rfl rfl ?_
  refine aX 2 (sT [(6,.d (.bool (decide (r0_1_1<0))))] (y27 c w bB bT bL) 3 0) ?_
  refine Fi (sT [(6,.d (.bool (decide (r0_1_1<0))))] [] 3 0) ?_
  refine hQ_1 _ ?_
  obtain rfl:=Option.some.inj h
  exact rT hR_0 (.cons (.tmp rfl) .nil)
 ·cases h
def g64a_3 (bB:StandBook) (bT:(List (Nat→Int))) (bL:Stand_load) (w:(Nat→Int)) (but:(List Int)):Int→StandTrial→Unit→Option (Ctl (Unit) (Bool)):=fun v p _=>(g106 but v).bind fun r0=>bif (!r0) then ((g56a bB bT bL w (Stand_child.mk p.Weight p.Lean_)).bind fun r0_4=>bif (true != (r0_4==p.Tipped)) then (some (.brk false)) else (some (.next ()))) else (some (.next ()))
def g64a (bB:StandBook) (bT:(List (Nat→Int))) (bL:Stand_load) (w:(Nat→Int)) (but:(List Int)):Option Bool:=bindC (eachC (g64a_3 bB bT bL w but) bB.Trials 0 ()) fun _=>some true
def y28 (w:(Nat→Int)) (bB:StandBook) (bT:(List (Nat→Int))) (bL:Stand_load):List (Nat×Blk):=[(1,.var 103 [jI (w 0),jI (w 1),jI (w 2),jI (w 3)]),(0,.var 96 (catV (cv25 bB) [.d (.sl 4 (List.map e103 bT)),jI bL.weight,jI bL.along,jI bL.high,.d (.nilMap)]))]
theorem k64a (bB:StandBook) (bT:(List (Nat→Int))) (bL:Stand_load) (w:(Nat→Int)) (but:(List Int)) (r:Bool) (h:g64a bB bT bL w but=some r):SCall Tryd.prog Gs 64 [.agg [jI bB.Kind,jI bB.Front,jI bB.Back,jI bB.Radius,.d (.sl 4 (List.map e36 bB.Parts)),jI bB.Along,jI bB.High,jI bB.Lean_,jI bB.Limit,.d (.sl 3 (List.map e29 bB.Trials)),.d (.sl 4 (List.map e103 bT)),jI bL.weight,jI bL.along,jI bL.high,.d (.nilMap)],.agg [jI (w 0),jI (w 1),jI (w 2),jI (w 3)],.d (.sl 1 (List.map e3 but))] [] 0 Fr.emp (.d (.bool r)) [] 0 Fr.emp:=by
 unfold g64a at h
 refine SCall.mkK Tryd.func64 c64 rfl rfl (by kernel_rfl) (fun Q_0 hR_0 hN_0=>?_)
 refine Sa (sT [(2,.d (.sl 1 (List.map e3 but))),pR 3 0,pR 4 1] (y28 w bB bT bL) 2 0) ?_
 refine AW.seqK fun K_1 hK_1=>AW.srwK fun Q_2 hQ_2=>?_
 refine Au 3 (sT [(2,.d (.sl 1 (List.map e3 but))),pR 3 0,pR 4 1,(11,.d (.sl 3 (List.map e29 bB.Trials)))] (y28 w bB bT bL) 2 0) ?_
 refine rL rfl ?_
 refine Au 1 (sT [(2,.d (.sl 1 (List.map e3 but))),pR 3 0,pR 4 1,(11,.d (.sl 3 (List.map e29 bB.Trials))),(12,jI (bB.Trials.length:Int)),(13,jI 0)] (y28 w bB bT bL) 2 0) ?_
 refine RW.nil (hQ_2 _ ?_)
 refine AW.block ?_
 refine AW.sln (t:=11) rfl (fun hN_3=>?_)
 rw [List.length_map] at hN_3
 obtain ⟨out_3,hx_3,hk_3⟩:=bsomeC h
 refine AW.evCK (fun (v:Int) (_:Unit)=>(sT [(2,.d (.sl 1 (List.map e3 but))),pR 3 0,pR 4 1,(11,.d (.sl 3 (List.map e29 bB.Trials))),(12,jI (bB.Trials.length:Int)),(13,jI v)] (y28 w bB bT bL) 2 0)) (g64a_3 bB bT bL w but) hx_3 (Can.kp (by kernel_rfl)) (fun v p s_3 hi_3 hl_3 hp_3 c_3 h hb_3 K_3 hK_3=>?_) (fun v s_3 hi_3 hl_3 hout=>?_)
 ·unfold g64a_3 at h
  refine Sa (sT [(2,.d (.sl 1 (List.map e3 but))),pR 3 0,pR 4 1,(11,.d (.sl 3 (List.map e29 bB.Trials))),(12,jI (bB.Trials.length:Int)),(13,jI v),(14,.d (.bool (decide (v<(bB.Trials.length:Int)))))] (y28 w bB bT bL) 2 0) ?_
  refine AW.seqK (fun K_4 hK_4=>?_)
  refine AW.cond rfl (fun hb_5=>?_) (fun hb_5=>False.elim (by have:=of_decide_eq_false hb_5;omega))
  refine AW.skip (hK_4 _ ?_)
  refine AW.seqK (fun K_6 hK_6=>?_)
  refine AW.block ?_
  refine AW.srwK (fun Q_7 hQ_7=>?_)
  refine Au 1 (sT [(2,.d (.sl 1 (List.map e3 but))),pR 3 0,pR 4 1,(11,.d (.sl 3 (List.map e29 bB.Trials))),(12,jI (bB.Trials.length:Int)),(13,jI v),(15,jI v)] (y28 w bB bT bL) 2 0) ?_
  refine RW.one fokW (r_iaD trivial rfl rfl hi_3 (row:=e29 p) (mapget hp_3) (r_end ?_))
  refine Au 4 (sT [(2,.d (.sl 1 (List.map e3 but))),pR 3 0,pR 4 1,(7,jI v),pR 8 2,(11,.d (.sl 3 (List.map e29 bB.Trials))),(12,jI (bB.Trials.length:Int)),(13,jI v)] [(2,.var 29 [jI p.Weight,jI p.Lean_,.d (.bool p.Tipped)]),(1,.var 103 [jI (w 0),jI (w 1),jI (w 2),jI (w 3)]),(0,.var 96 (catV (cv25 bB) [.d (.sl 4 (List.map e103 bT)),jI bL.weight,jI bL.along,jI bL.high,.d (.nilMap)]))] 3 0) ?_
  refine RW.nil (hQ_7 _ ?_)
  refine AW.sdrwK fokW (fun Q_8 hQ_8=>?_)
  refine aX 2 (sT [(2,.d (.sl 1 (List.map e3 but))),pR 3 0,pR 4 1,pR 8 2,(11,.d (.sl 3 (List.map e29 bB.Trials))),(12,jI (bB.Trials.length:Int)),(13,jI v),(18,.d (.sl 1 (List.map e3 but))),(19,jI v)] [(2,.var 29 [jI p.Weight,jI p.Lean_,.d (.bool p.Tipped)]),(1,.var 103 [jI (w 0),jI (w 1),jI (w 2),jI (w 3)]),(0,.var 96 (catV (cv25 bB) [.d (.sl 4 (List.map e103 bT)),jI bL.weight,jI bL.along,jI bL.high,.d (.nilMap)]))] 3 0) ?_
  obtain ⟨r0,hx_9,h⟩:=bsome h
  refine r_call trivial rfl (k106 but v _ hx_9) rfl rfl ?_
  refine aX 2 (sT [(2,.d (.sl 1 (List.map e3 but))),pR 3 0,pR 4 1,pR 8 2,(11,.d (.sl 3 (List.map e29 bB.Trials))),(12,jI (bB.Trials.length:Int)),(13,jI v),(22,.d (.bool (!r0)))] [(2,.var 29 [jI p.Weight,jI p.Lean_,.d (.bool p.Tipped)]),(1,.var 103 [jI (w 0),jI (w 1),jI (w 2),jI (w 3)]),(0,.var 96 (catV (cv25 bB) [.d (.sl 4 (List.map e103 bT)),jI bL.weight,jI bL.along,jI bL.high,.d (.nilMap)]))] 3 0) ?_
  refine r_split 22 rfl (fun hb_10=>?_) (fun hb_10=>?_)
  ·have h:=ifT hb_10 h
   refine aX 7 (sT [(2,.d (.sl 1 (List.map e3 but))),pR 3 0,pR 4 1,pR 8 2,(11,.d (.sl 3 (List.map e29 bB.Trials))),(12,jI (bB.Trials.length:Int)),(13,jI v),(22,.d (.bool true)),(23,.agg [jI bB.Kind,jI bB.Front,jI bB.Back,jI bB.Radius,.d (.sl 4 (List.map e36 bB.Parts)),jI bB.Along,jI bB.High,jI bB.Lean_,jI bB.Limit,.d (.sl 3 (List.map e29 bB.Trials)),.d (.sl 4 (List.map e103 bT)),jI bL.weight,jI bL.along,jI bL.high,.d (.nilMap)]),(24,.agg [jI (w 0),jI (w 1),jI (w 2),jI (w 3)]),(29,.agg [jI p.Weight,jI p.Lean_])] [(2,.var 29 [jI p.Weight,jI p.Lean_,.d (.bool p.Tipped)]),(1,.var 103 [jI (w 0),jI (w 1),jI (w 2),jI (w 3)]),(0,.var 96 (catV (cv25 bB) [.d (.sl 4 (List.map e103 bT)),jI bL.weight,jI bL.along,jI bL.high,.d (.nilMap)]))] 3 0) ?_
   obtain ⟨r0_4,hx_11,h⟩:=bsome h
   refine r_call rfl rfl (k56a bB bT bL w (Stand_child.mk p.Weight p.Lean_) _ hx_11) rfl rfl ?_
   refine aX 4 (sT [(2,.d (.sl 1 (List.map e3 but))),pR 3 0,pR 4 1,(11,.d (.sl 3 (List.map e29 bB.Trials))),(12,jI (bB.Trials.length:Int)),(13,jI v),(34,.d (.bool (true != (r0_4==p.Tipped))))] [(2,.var 29 [jI p.Weight,jI p.Lean_,.d (.bool p.Tipped)]),(1,.var 103 [jI (w 0),jI (w 1),jI (w 2),jI (w 3)]),(0,.var 96 (catV (cv25 bB) [.d (.sl 4 (List.map e103 bT)),jI bL.weight,jI bL.along,jI bL.high,.d (.nilMap)]))] 3 0) ?_
   refine Fi (sT [(2,.d (.sl 1 (List.map e3 but))),pR 3 0,pR 4 1,(11,.d (.sl 3 (List.map e29 bB.Trials))),(12,jI (bB.Trials.length:Int)),(13,jI v),(34,.d (.bool (true != (r0_4==p.Tipped))))] (y28 w bB bT bL) 3 0) ?_
   refine hQ_8 _ ?_
   refine AW.cond rfl (fun hb_12=>?_) (fun hb_12=>?_)
   ·have h:=ifT hb_12 h
    refine Sa (sT [(6,.d (.bool false))] [] 3 0) ?_
    obtain rfl:=Option.some.inj h
    have e_1:=hb_3 _ rfl
    subst e_1
    obtain rfl:=Aft.bk hk_3
    exact rT hR_0 (.cons (.tmp rfl) .nil)
   ·have h:=ifF hb_12 h
    refine AW.skip (hK_6 _ ?_)
    refine Ra (sT [(2,.d (.sl 1 (List.map e3 but))),pR 3 0,pR 4 1,(11,.d (.sl 3 (List.map e29 bB.Trials))),(12,jI (bB.Trials.length:Int)),(13,jI (wr (v+1)))] (y28 w bB bT bL) 3 0) ?_
    obtain rfl:=Option.some.inj h
    have ew:wr (v+1)=v+1:=inext (N:=(bB.Trials.length:Int)) (by omega) (by omega) (by omega)
    rw [ew]
    exact hK_3 _ _ rfl (Can.kp (by kernel_rfl))
  ·have h:=ifF hb_10 h
   refine aX 12 (sT [(2,.d (.sl 1 (List.map e3 but))),pR 3 0,pR 4 1,(11,.d (.sl 3 (List.map e29 bB.Trials))),(12,jI (bB.Trials.length:Int)),(13,jI v),(34,.d (.bool false))] [(2,.var 29 [jI p.Weight,jI p.Lean_,.d (.bool p.Tipped)]),(1,.var 103 [jI (w 0),jI (w 1),jI (w 2),jI (w 3)]),(0,.var 96 (catV (cv25 bB) [.d (.sl 4 (List.map e103 bT)),jI bL.weight,jI bL.along,jI bL.high,.d (.nilMap)]))] 3 0) ?_
   refine Fi (sT [(2,.d (.sl 1 (List.map e3 but))),pR 3 0,pR 4 1,(11,.d (.sl 3 (List.map e29 bB.Trials))),(12,jI (bB.Trials.length:Int)),(13,jI v),(34,.d (.bool false))] (y28 w bB bT bL) 3 0) ?_
   refine hQ_8 _ ?_
   refine AW.condF rfl ?_
   refine AW.skip (hK_6 _ ?_)
   refine Ra (sT [(2,.d (.sl 1 (List.map e3 but))),pR 3 0,pR 4 1,(11,.d (.sl 3 (List.map e29 bB.Trials))),(12,jI (bB.Trials.length:Int)),(13,jI (wr (v+1)))] (y28 w bB bT bL) 3 0) ?_
   obtain rfl:=Option.some.inj h
   have ew:wr (v+1)=v+1:=inext (N:=(bB.Trials.length:Int)) (by omega) (by omega) (by omega)
   rw [ew]
   exact hK_3 _ _ rfl (Can.kp (by kernel_rfl))
 ·subst hout
  have h:=Aft.nx hk_3
  refine Sa (sT [(2,.d (.sl 1 (List.map e3 but))),pR 3 0,pR 4 1,(11,.d (.sl 3 (List.map e29 bB.Trials))),(12,jI (bB.Trials.length:Int)),(13,jI v),(14,.d (.bool (decide (v<(bB.Trials.length:Int)))))] (y28 w bB bT bL) 2 0) ?_
  refine AW.seqK (fun K_13 hK_13=>?_)
  refine AW.cond rfl (fun hb_14=>False.elim (by have:=of_decide_eq_true hb_14;omega)) (fun hb_14=>?_)
  refine AW.exit ?_
  refine hK_1 _ ?_
  refine Sa (sT [(6,.d (.bool true))] [] 2 0) ?_
  obtain rfl:=Option.some.inj h
  exact rT hR_0 (.cons (.tmp rfl) .nil)
end Go.Proofs.Tk
namespace Go.Proofs.Tk
open Go Go.Abs Go.Proofs
def g62_r7 (some_:(List Int)) (o0B:StandBook) (o0T:(List (Nat→Int))) (o0L:Stand_load):((Nat→Int))→(Unit)→Option (Ctl (Unit) (Unit)):=fun a _=>(g64a o0B o0T o0L a some_).bind fun r0_2=>bif (!r0_2) then (some (.next ())) else (some (.brk ()))
def g62_18 (rec_:(List Int)→Int→StandBook→(List (Nat→Int))→Stand_load→StandBook→Option ((List Int)×Bool)) (some_:(List Int)) (many:Int) (o0B:StandBook) (o0T:(List (Nat→Int))) (o0L:Stand_load) (o1:StandBook):Int→Unit→Option (Ctl (Unit) (Ctl (Unit) (Ctl (Unit) ((List Int)×Bool)))):=fun n _=>(slcL some_ 0 (some_.length:Int)).bind fun l=>(appL 8 l [n]).bind fun l1=>(rec_ l1 many o0B o0T o0L o1).bind fun (r0_5_1,r1_4_1)=>bif r1_4_1 then (some (.brk (.brk (.brk (r0_5_1,true))))) else (some (.next ()))
def g62:Nat→(List Int)→Int→StandBook→(List (Nat→Int))→Stand_load→StandBook→Option ((List Int)×Bool)
 | 0,_,_,_,_,_,_=>none
 | n_+1,some_,many,o0B,o0T,o0L,o1=>bif (decide ((some_.length:Int)=many)) then ((g63a o0B o0T o0L).bind fun (o0B1,o0T1,o0L1)=>(g111a (fun a s=>rndC (g62_r7 some_ o0B o0T o0L) a s) o0B1 o0T1 o0L1 (.next ())).bind fun out_7=>match out_7 with | .next _=>some ([],false) | .brk _=>some (some_,true)) else ((bif (decide (0<(some_.length:Int))) then ((ixL some_ (wr ((some_.length:Int) - 1))).bind fun p=>some (wr (p+1))) else (some 0)).bind fun from_=>bindC (bindC ((must (decide (-9223372036854775808≤from_))).bind fun _=>bindC (forC (g62_18 (g62 n_) some_ many o0B o0T o0L o1) ((((o1.Trials.length:Int):Int) - from_).toNat) from_ ()) fun _=>some (.next ()):Option (Ctl (Unit) (Ctl (Unit) ((List Int)×Bool)))) fun _=>some (.next ()):Option (Ctl (Unit) ((List Int)×Bool))) fun _=>some ([],false))
def y29 (some_:(List Int)) (o0B:StandBook) (o0T:(List (Nat→Int))) (o0L:Stand_load) (o1:StandBook):List (Nat×Blk):=[(5,.var 4 [.d (.bool false)]),(4,.var 51 [.d (.nilSl)]),(3,.var 51 [.d (.sl 1 (List.map e3 some_))]),(0,.var 96 (catV (cv25 o0B) [.d (.sl 4 (List.map e103 o0T)),jI o0L.weight,jI o0L.along,jI o0L.high,.d (.nilMap)])),(1,.var 25 (cv25 o1)),(2,.var 110 [.clo 62 [] [.ptr 0 0,.ptr 1 0,.ptr 2 0]])]
def y30 (some_:(List Int)) (o0B:StandBook) (o0T:(List (Nat→Int))) (o0L:Stand_load) (o1:StandBook):List (Nat×Blk):=[(7,.dm),(5,.var 4 [.d (.bool false)]),(4,.var 51 [.d (.nilSl)]),(3,.var 51 [.d (.sl 1 (List.map e3 some_))]),(0,.var 96 (catV (cv25 o0B) [.d (.sl 4 (List.map e103 o0T)),jI o0L.weight,jI o0L.along,jI o0L.high,.d (.nilMap)])),(1,.var 25 (cv25 o1)),(2,.var 110 [.clo 62 [] [.ptr 0 0,.ptr 1 0,.ptr 2 0]])]
def y31 (o0B:StandBook) (o0T:(List (Nat→Int))) (o0L:Stand_load) (o1:StandBook):List (Nat×Blk):=[(5,.var 4 [.d (.bool false)]),(4,.var 51 [.d (.nilSl)]),(0,.var 96 (catV (cv25 o0B) [.d (.sl 4 (List.map e103 o0T)),jI o0L.weight,jI o0L.along,jI o0L.high,.d (.nilMap)])),(1,.var 25 (cv25 o1)),(2,.var 110 [.clo 62 [] [.ptr 0 0,.ptr 1 0,.ptr 2 0]])]
def y32 (o0B:StandBook) (o0T:(List (Nat→Int))) (o0L:Stand_load) (o1:StandBook) (some_:(List Int)):List (Nat×Blk):=[(0,.var 96 (catV (cv25 o0B) [.d (.sl 4 (List.map e103 o0T)),jI o0L.weight,jI o0L.along,jI o0L.high,.d (.nilMap)])),(1,.var 25 (cv25 o1)),(2,.var 110 [.clo 62 [] [.ptr 0 0,.ptr 1 0,.ptr 2 0]]),(5,.var 4 [.d (.bool false)]),(4,.var 51 [.d (.nilSl)]),(3,.var 51 [.d (.sl 1 (List.map e3 some_))])]
theorem k62:∀ (n_:Nat) (some_:(List Int)) (many:Int) (o0B:StandBook) (o0T:(List (Nat→Int))) (o0L:Stand_load) (o1:StandBook) (r:(List Int)×Bool) (h:g62 n_ some_ many o0B o0T o0L o1=some r),SCall Tryd.prog Gs 62 [.d (.sl 1 (List.map e3 some_)),jI many,.ptr 0 0,.ptr 1 0,.ptr 2 0] [(0,.var 96 (catV (cv25 o0B) [.d (.sl 4 (List.map e103 o0T)),jI o0L.weight,jI o0L.along,jI o0L.high,.d (.nilMap)])),(1,.var 25 (cv25 o1)),(2,.var 110 [.clo 62 [] [.ptr 0 0,.ptr 1 0,.ptr 2 0]])] 3 Fr.emp (match r with | (r0_5,r1_4)=>.tup [.d (.sl 1 (List.map e3 r0_5)),.d (.bool r1_4)]) (match r with | (r0_5,r1_4)=>[(0,.var 96 (catV (cv25 o0B) [.d (.sl 4 (List.map e103 o0T)),jI o0L.weight,jI o0L.along,jI o0L.high,.d (.nilMap)])),(1,.var 25 (cv25 o1)),(2,.var 110 [.clo 62 [] [.ptr 0 0,.ptr 1 0,.ptr 2 0]])]) 3 Fr.emp:=by
 intro n_
 induction n_ with
 | zero=>intro some_ many o0B o0T o0L o1 r h;cases h
 | succ n_ ih=>
  intro some_ many o0B o0T o0L o1 r h
  rw [g62] at h
  refine SCall.mkK Tryd.func62 c62 rfl rfl (by kernel_rfl) (fun Q_0 hR_0 hN_0=>?_)
  refine Sa (sT [(1,jI many),pR 2 0,pR 3 1,pR 4 2,pR 5 3,pR 7 4,pR 8 5] (y29 some_ o0B o0T o0L o1) 6 3) ?_
  refine AW.srwK (fun Q_1 hQ_1=>?_)
  refine Au 1 (sT [(1,jI many),pR 2 0,pR 3 1,pR 4 2,pR 5 3,pR 7 4,pR 8 5,(15,.d (.sl 1 (List.map e3 some_)))] (y29 some_ o0B o0T o0L o1) 6 3) ?_
  refine rL rfl ?_
  refine Au 1 (sT [(1,jI many),pR 2 0,pR 3 1,pR 4 2,pR 5 3,pR 7 4,pR 8 5,(9,jI (some_.length:Int))] (y29 some_ o0B o0T o0L o1) 6 3) ?_
  refine RW.nil (hQ_1 _ ?_)
  refine AW.seqK (fun K_2 hK_2=>?_)
  refine Sa (sT [(1,jI many),pR 2 0,pR 3 1,pR 4 2,pR 5 3,pR 7 4,pR 8 5,(9,jI (some_.length:Int)),(19,.d (.bool (decide ((some_.length:Int)=many))))] (y29 some_ o0B o0T o0L o1) 6 3) ?_
  refine AW.cond rfl (fun hb_3=>?_) (fun hb_3=>?_)
  ·have h:=ifT hb_3 h
   refine AW.scope ?_
   refine AW.seq (AW.skip ?_)
   refine AW.seqK fun K_4 hK_4=>AW.srwK fun Q_5 hQ_5=>?_
   refine Au 1 (sT [pR 2 0,pR 5 3,pR 7 4,pR 8 5,(20,.agg [jI o0B.Kind,jI o0B.Front,jI o0B.Back,jI o0B.Radius,.d (.sl 4 (List.map e36 o0B.Parts)),jI o0B.Along,jI o0B.High,jI o0B.Lean_,jI o0B.Limit,.d (.sl 3 (List.map e29 o0B.Trials)),.d (.sl 4 (List.map e103 o0T)),jI o0L.weight,jI o0L.along,jI o0L.high,.d (.nilMap)])] (y29 some_ o0B o0T o0L o1) 6 3) ?_
   obtain ⟨⟨o0B1,o0T1,o0L1⟩,hx_6,h⟩:=bsome h
   refine RW.one fokW (r_callS (zr:=[]) [] trivial rfl (k63a o0B o0T o0L _ hx_6) trivial rfl rfl ⟨.refl _,trivial⟩ rfl rfl rfl (r_end ?_))
   refine RW.nil (hQ_5 _ ?_)
   refine AW.block ?_
   obtain ⟨out_7,hx_7,h⟩:=bsome h
   refine AW.rfX (fun (_:Unit)=>[(7,.dm),(5,.var 4 [.d (.bool false)]),(4,.var 51 [.d (.nilSl)]),(3,.var 51 [.d (.sl 1 (List.map e3 some_))]),(0,.var 96 (catV (cv25 o0B) [.d (.sl 4 (List.map e103 o0T)),jI o0L.weight,jI o0L.along,jI o0L.high,.d (.nilMap)])),(1,.var 25 (cv25 o1)),(2,.var 110 [.clo 62 [] [.ptr 0 0,.ptr 1 0,.ptr 2 0]])]) (fun (_:Unit)=>[(7,.dm),(5,.var 4 [.d (.bool true)]),(4,.var 51 [.d (.sl 1 (List.map e3 some_))]),(3,.var 51 [.d (.sl 1 (List.map e3 some_))]),(0,.var 96 (catV (cv25 o0B) [.d (.sl 4 (List.map e103 o0T)),jI o0L.weight,jI o0L.along,jI o0L.high,.d (.nilMap)])),(1,.var 25 (cv25 o1)),(2,.var 110 [.clo 62 [] [.ptr 0 0,.ptr 1 0,.ptr 2 0]])]) (fun _=>some .ret) (g62_r7 some_ o0B o0T o0L) (fun (a:(Nat→Int))=>[.agg [jI (a 0),jI (a 1),jI (a 2),jI (a 3)]]) (s0:=()) (out:=out_7) [pR 2 0,pR 5 3,pR 7 4,pR 8 5] [(5,.var 4 [.d (.bool false)]),(4,.var 51 [.d (.nilSl)]),(3,.var 51 [.d (.sl 1 (List.map e3 some_))]),(0,.var 96 (catV (cv25 o0B) [.d (.sl 4 (List.map e103 o0T)),jI o0L.weight,jI o0L.along,jI o0L.high,.d (.nilMap)])),(1,.var 25 (cv25 o1)),(2,.var 110 [.clo 62 [] [.ptr 0 0,.ptr 1 0,.ptr 2 0]])] [6] rfl (.clo _ _ _) (by kernel_rfl) (by kernel_rfl) (fun fr_ hY_7=>k111a fr_ _ (fun a s s2 b h=>hY_7 a s s2 b h) o0B1 o0T1 o0L1 (.next ()) _ hx_7) (by kernel_rfl) ⟨rfl,trivial⟩ rfl ⟨rfl,rfl⟩ rfl rfl (fun _=>rfl) (fun _=>rfl) (fun a_7 s_7 c_7 h l_7=>?_) (fun _=>rfl) ?_
   ·have ⟨a,e_7⟩:∃ x,x=a_7:=⟨_,rfl⟩
    subst e_7
    unfold g62_r7 at h
    refine AW.ra (fokR l_7) [] (sT [pR 2 0,pR 5 3,pR 7 4,pR 8 5,pR 10 8] [(8,.var 103 [jI (a 0),jI (a 1),jI (a 2),jI (a 3)]),(7,.dm),(5,.var 4 [.d (.bool false)]),(4,.var 51 [.d (.nilSl)]),(3,.var 51 [.d (.sl 1 (List.map e3 some_))]),(0,.var 96 (catV (cv25 o0B) [.d (.sl 4 (List.map e103 o0T)),jI o0L.weight,jI o0L.along,jI o0L.high,.d (.nilMap)])),(1,.var 25 (cv25 o1)),(2,.var 110 [.clo 62 [] [.ptr 0 0,.ptr 1 0,.ptr 2 0]])] 9 8) (by kernel_rfl) ?_
    refine AW.block ?_
    refine AW.seqK fun K_8 hK_8=>AW.srwK fun Q_9 hQ_9=>?_
    refine RW.au (fokR l_7) 3 [] (sT [pR 5 3,pR 7 4,pR 8 5,(23,.agg [jI o0B.Kind,jI o0B.Front,jI o0B.Back,jI o0B.Radius,.d (.sl 4 (List.map e36 o0B.Parts)),jI o0B.Along,jI o0B.High,jI o0B.Lean_,jI o0B.Limit,.d (.sl 3 (List.map e29 o0B.Trials)),.d (.sl 4 (List.map e103 o0T)),jI o0L.weight,jI o0L.along,jI o0L.high,.d (.nilMap)]),(24,.agg [jI (a 0),jI (a 1),jI (a 2),jI (a 3)]),(25,.d (.sl 1 (List.map e3 some_)))] (y30 some_ o0B o0T o0L o1) 9 8) (by kernel_rfl) ?_
    obtain ⟨r0_2,hx_10,h⟩:=bsome h
    refine RW.one (fokR l_7) (r_call trivial rfl (k64a o0B o0T o0L a some_ _ hx_10) rfl rfl (r_end ?_))
    refine RW.au (fokR l_7) 1 [] (sT [pR 5 3,pR 7 4,pR 8 5,(27,.d (.bool (!r0_2)))] (y30 some_ o0B o0T o0L o1) 9 8) (by kernel_rfl) ?_
    refine RW.nil (hQ_9 _ ?_)
    refine AW.cond rfl (fun hb_11=>?_) (fun hb_11=>?_)
    ·have h:=ifT hb_11 h
     refine AW.exit ?_
     obtain rfl:=Option.some.inj h
     exact ⟨(sT [] (y30 some_ o0B o0T o0L o1) 8 8),Can.kp (by kernel_rfl),rdX trivial rfl (by kernel_rfl) (by kernel_rfl)⟩
    ·have h:=ifF hb_11 h
     refine AW.skip (hK_8 _ ?_)
     refine AW.sa (fokR l_7) [] (sT [pR 7 4,pR 8 5] [(5,.var 4 [.d (.bool true)]),(4,.var 51 [.d (.sl 1 (List.map e3 some_))]),(7,.dm),(3,.var 51 [.d (.sl 1 (List.map e3 some_))]),(0,.var 96 (catV (cv25 o0B) [.d (.sl 4 (List.map e103 o0T)),jI o0L.weight,jI o0L.along,jI o0L.high,.d (.nilMap)])),(1,.var 25 (cv25 o1)),(2,.var 110 [.clo 62 [] [.ptr 0 0,.ptr 1 0,.ptr 2 0]])] 9 8) (by kernel_rfl) ?_
     refine AW.ret ?_
     obtain rfl:=Option.some.inj h
     exact ⟨(sT [] [(7,.dm),(5,.var 4 [.d (.bool true)]),(4,.var 51 [.d (.sl 1 (List.map e3 some_))]),(3,.var 51 [.d (.sl 1 (List.map e3 some_))]),(0,.var 96 (catV (cv25 o0B) [.d (.sl 4 (List.map e103 o0T)),jI o0L.weight,jI o0L.along,jI o0L.high,.d (.nilMap)])),(1,.var 25 (cv25 o1)),(2,.var 110 [.clo 62 [] [.ptr 0 0,.ptr 1 0,.ptr 2 0]])] 8 8),Can.kp (by kernel_rfl),rdX trivial rfl (by kernel_rfl) (by kernel_rfl)⟩
   ·rcases out_7 with _ | _
    ·refine hK_4 _ ?_
     refine Sa ⟨[pR 7 4,pR 8 5],[(5,.var 4 [.d (.bool false)]),(4,.var 51 [.d (.nilSl)]),(7,.dm),(0,.var 96 (catV (cv25 o0B) [.d (.sl 4 (List.map e103 o0T)),jI o0L.weight,jI o0L.along,jI o0L.high,.d (.nilMap)])),(1,.var 25 (cv25 o1)),(2,.var 110 [.clo 62 [] [.ptr 0 0,.ptr 1 0,.ptr 2 0]])],8,Fr.emp,[7],3⟩ ?_
     obtain rfl:=Option.some.inj h
     exact AW.ret (hR_0 _ (retX (.cons (.one rfl rfl rfl) (.cons (.one rfl rfl rfl) .nil)) (Frz.tup_of ⟨.nil 1,.refl _,trivial⟩) rfl (by kernel_rfl) (by kernel_rfl)))
    ·obtain rfl:=Option.some.inj h
     exact hR_0 _ (retX (.cons (.one rfl rfl rfl) (.cons (.one rfl rfl rfl) .nil)) (.refl _) rfl (by kernel_rfl) (by kernel_rfl))
  ·have h:=ifF hb_3 h
   refine AW.skip (hK_2 _ ?_)
   refine Sa (sT [(1,jI many),pR 3 1,pR 4 2,pR 5 3,pR 7 4,pR 8 5,(9,jI (some_.length:Int)),(11,jI 0)] (y29 some_ o0B o0T o0L o1) 6 3) ?_
   obtain ⟨from_,hx_12,h⟩:=bsome h
   refine AW.jnSK (fun (from_:Int)=>(sT [(1,jI many),pR 3 1,pR 4 2,pR 5 3,pR 7 4,pR 8 5,(9,jI (some_.length:Int)),(11,jI from_)] (y29 some_ o0B o0T o0L o1) 6 3)) (c:=from_) (fun K_12 hK_12=>?_) ?_
   ·have h:=hx_12
    refine Sa (sT [(1,jI many),pR 3 1,pR 4 2,pR 5 3,pR 7 4,pR 8 5,(9,jI (some_.length:Int)),(11,jI 0),(30,.d (.bool (decide (0<(some_.length:Int)))))] (y29 some_ o0B o0T o0L o1) 6 3) ?_
    refine AW.cond rfl (fun hb_13=>?_) (fun hb_13=>?_)
    ·have h:=ifT hb_13 h
     refine AW.rw ?_
     refine Au 3 (sT [(1,jI many),pR 3 1,pR 4 2,pR 5 3,pR 7 4,pR 8 5,(9,jI (some_.length:Int)),(31,.d (.sl 1 (List.map e3 some_))),(33,jI (wr ((some_.length:Int) - 1)))] (y29 some_ o0B o0T o0L o1) 6 3) ?_
     obtain ⟨p,hv_15,h⟩:=bsome h
     refine RW.one fokW (r_iaD trivial rfl rfl (ixL_ok hv_15).1 (row:=e3 p) (mapget (ixL_ok hv_15).2) (r_end ?_))
     refine Au 3 (sT [(1,jI many),pR 3 1,pR 4 2,pR 5 3,pR 7 4,pR 8 5,(9,jI (some_.length:Int)),(11,jI (wr (p+1)))] (y29 some_ o0B o0T o0L o1) 6 3) ?_
     refine RW.nil ?_
     obtain rfl:=Option.some.inj h
     exact hK_12 _ (Can.kp (by kernel_rfl))
    ·have h:=ifF hb_13 h
     refine AW.skip ?_
     obtain rfl:=Option.some.inj h
     exact hK_12 _ (Can.kp (by kernel_rfl))
   ·obtain ⟨c_16,hx_16,hk_16⟩:=bsomeC h
    refine AW.jnK (fun (_:Unit)=>(sT [pR 7 4,pR 8 5] (y31 o0B o0T o0L o1) 6 3)) (c:=c_16) (fun K_16 hK_16=>?_) (fun j_16 hj_16=>?_)
    ·have h:=hx_16
     refine Sa (sT [(1,jI many),pR 3 1,pR 4 2,pR 5 3,pR 7 4,pR 8 5,(9,jI (some_.length:Int)),(12,jI from_)] (y29 some_ o0B o0T o0L o1) 6 3) ?_
     obtain ⟨c_17,hx_17,hk_17⟩:=bsomeC h
     refine AW.jqK (fun (_:Unit)=>(sT [pR 7 4,pR 8 5] (y31 o0B o0T o0L o1) 6 3)) (c:=c_17) (fun K_17 hK_17=>?_) (fun j_17 hj_17=>?_)
     ·have h:=hx_17
      refine AW.block ?_
      refine AW.slh (r:=1) (off:=9) rfl rfl (fun hN_18=>?_)
      rw [List.length_map] at hN_18
      obtain ⟨_,h0_18,h⟩:=bsome h
      have h0_18:=of_decide_eq_true (must_ok h0_18)
      obtain ⟨out_18,hx_18,hk_18⟩:=bsomeC h
      refine AW.lpCK (fun (n:Int) (_:Unit)=>(sT [(1,jI many),pR 3 1,pR 4 2,pR 5 3,pR 7 4,pR 8 5,(9,jI (some_.length:Int)),(12,jI n)] (y29 some_ o0B o0T o0L o1) 6 3)) (g62_18 (g62 n_) some_ many o0B o0T o0L o1) ((o1.Trials.length:Int)) hx_18 (Can.kp (by kernel_rfl)) (fun n s_18 hi_18 hl_18 c_18 h hb_18 K_18 hK_18=>?_) (fun n s_18 hi_18 hl_18 hout=>?_)
      ·unfold g62_18 at h
       refine AW.seqK fun K_19 hK_19=>AW.srwK fun Q_20 hQ_20=>?_
       refine Au 3 (sT [(1,jI many),pR 3 1,pR 4 2,pR 5 3,pR 7 4,pR 8 5,(9,jI (some_.length:Int)),(12,jI n),(38,jI n),(40,.d (.sl 3 (List.map e29 o1.Trials)))] (y29 some_ o0B o0T o0L o1) 6 3) ?_
       refine rL rfl ?_
       refine Au 1 (sT [(1,jI many),pR 3 1,pR 4 2,pR 5 3,pR 7 4,pR 8 5,(9,jI (some_.length:Int)),(12,jI n),(42,.d (.bool (decide (n<(o1.Trials.length:Int)))))] (y29 some_ o0B o0T o0L o1) 6 3) ?_
       refine RW.nil (hQ_20 _ ?_)
       refine AW.cond rfl (fun hb_21=>?_) (fun hb_21=>False.elim (by have:=of_decide_eq_false hb_21;omega))
       refine AW.skip (hK_19 _ ?_)
       refine AW.seqK (fun K_22 hK_22=>?_)
       refine AW.block ?_
       refine AW.sdrwK fokW (fun Q_23 hQ_23=>?_)
       refine aX 4 (sT [(1,jI many),pR 3 1,pR 4 2,pR 5 3,pR 7 4,pR 8 5,(9,jI (some_.length:Int)),(12,jI n),(46,.clo 62 [] [.ptr 0 0,.ptr 1 0,.ptr 2 0]),(47,.d (.sl 1 (List.map e3 some_))),(48,jI (some_.length:Int)),(49,jI (some_.length:Int))] (y29 some_ o0B o0T o0L o1) 6 3) ?_
       obtain ⟨l,hv_24,h⟩:=bsome h
       refine r_slN trivial rfl rfl rfl DSl.d (slcL_ok hv_24).2.1 (by rw [List.length_map];exact (slcL_ok hv_24).2.2.1) rfl (slz hv_24 e3) ?_
       refine aX 2 (sT [(1,jI many),pR 3 1,pR 4 2,pR 5 3,pR 7 4,pR 8 5,(9,jI (some_.length:Int)),(12,jI n),(46,.clo 62 [] [.ptr 0 0,.ptr 1 0,.ptr 2 0]),(50,.fsl 1 (List.map e3 l)),(52,.own 6 (List.map e3 [n]).length)] [(6,.row 3 1 (List.map e3 [n])),(5,.var 4 [.d (.bool false)]),(4,.var 51 [.d (.nilSl)]),(3,.var 51 [.d (.sl 1 (List.map e3 some_))]),(0,.var 96 (catV (cv25 o0B) [.d (.sl 4 (List.map e103 o0T)),jI o0L.weight,jI o0L.along,jI o0L.high,.d (.nilMap)])),(1,.var 25 (cv25 o1)),(2,.var 110 [.clo 62 [] [.ptr 0 0,.ptr 1 0,.ptr 2 0]])] 7 3) ?_
       obtain ⟨l1,hv_25,h⟩:=bsome h
       refine r_apF trivial rfl rfl rfl rfl (by simp) (zs:=List.map e3 l1) (apz hv_25 e3) (apr hv_25 e3) ?_
       refine aX 1 (sT [(1,jI many),pR 3 1,pR 4 2,pR 5 3,pR 7 4,pR 8 5,(9,jI (some_.length:Int)),(12,jI n),(46,.clo 62 [] [.ptr 0 0,.ptr 1 0,.ptr 2 0]),(53,.own 7 (List.map e3 l1).length),(54,jI many)] [(7,.row 3 1 (List.map e3 l1)),(6,.row 3 1 (List.map e3 [n])),(5,.var 4 [.d (.bool false)]),(4,.var 51 [.d (.nilSl)]),(3,.var 51 [.d (.sl 1 (List.map e3 some_))]),(0,.var 96 (catV (cv25 o0B) [.d (.sl 4 (List.map e103 o0T)),jI o0L.weight,jI o0L.along,jI o0L.high,.d (.nilMap)])),(1,.var 25 (cv25 o1)),(2,.var 110 [.clo 62 [] [.ptr 0 0,.ptr 1 0,.ptr 2 0]])] 8 3) ?_
       obtain ⟨⟨r0_5_1,r1_4_1⟩,hx_26,h⟩:=bsome h
       refine r_callvE (zr:=[(7,.row 3 1 (List.map e3 l1))]) [0,1,2] trivial rfl (.clo _ _ _) (by kernel_rfl) rfl (ih l1 many o0B o0T o0L o1 _ hx_26) ⟨rfl,rfl,rfl,rfl,trivial⟩ rfl rfl ⟨(.own rfl rfl),.refl _,.refl _,.refl _,.refl _,trivial⟩ rfl rfl rfl ?_
       refine aX 5 (sT [(1,jI many),pR 3 1,pR 4 2,pR 5 3,pR 7 4,pR 8 5,(9,jI (some_.length:Int)),(12,jI n),(13,.d (.sl 1 (List.map e3 r0_5_1))),(14,.d (.bool r1_4_1))] [(0,.var 96 (catV (cv25 o0B) [.d (.sl 4 (List.map e103 o0T)),jI o0L.weight,jI o0L.along,jI o0L.high,.d (.nilMap)])),(1,.var 25 (cv25 o1)),(2,.var 110 [.clo 62 [] [.ptr 0 0,.ptr 1 0,.ptr 2 0]]),(7,.dead),(6,.row 3 1 (List.map e3 [n])),(5,.var 4 [.d (.bool false)]),(4,.var 51 [.d (.nilSl)]),(3,.var 51 [.d (.sl 1 (List.map e3 some_))])] 8 3) ?_
       refine Fi (sT [(1,jI many),pR 3 1,pR 4 2,pR 5 3,pR 7 4,pR 8 5,(9,jI (some_.length:Int)),(12,jI n),(13,.d (.sl 1 (List.map e3 r0_5_1))),(14,.d (.bool r1_4_1))] (y32 o0B o0T o0L o1 some_) 8 3) ?_
       refine hQ_23 _ ?_
       refine Sa (sT [(1,jI many),pR 3 1,pR 4 2,pR 5 3,pR 7 4,pR 8 5,(9,jI (some_.length:Int)),(12,jI n),(13,.d (.sl 1 (List.map e3 r0_5_1))),(58,.d (.bool r1_4_1))] (y32 o0B o0T o0L o1 some_) 8 3) ?_
       refine AW.cond rfl (fun hb_27=>?_) (fun hb_27=>?_)
       ·have h:=ifT hb_27 h
        refine Sa (sT [pR 7 4,pR 8 5] [(5,.var 4 [.d (.bool true)]),(4,.var 51 [.d (.sl 1 (List.map e3 r0_5_1))]),(0,.var 96 (catV (cv25 o0B) [.d (.sl 4 (List.map e103 o0T)),jI o0L.weight,jI o0L.along,jI o0L.high,.d (.nilMap)])),(1,.var 25 (cv25 o1)),(2,.var 110 [.clo 62 [] [.ptr 0 0,.ptr 1 0,.ptr 2 0]])] 8 3) ?_
        obtain rfl:=Option.some.inj h
        have e_3:=hb_18 _ rfl
        subst e_3
        obtain rfl:=Aft.bk hk_18
        obtain rfl:=Aft.bk hk_17
        obtain rfl:=Aft.bk hk_16
        exact rT hR_0 (.cons (.one rfl rfl rfl) (.cons (.one rfl rfl rfl) .nil))
       ·have h:=ifF hb_27 h
        refine AW.skip (hK_22 _ ?_)
        refine Ra (sT [(1,jI many),pR 3 1,pR 4 2,pR 5 3,pR 7 4,pR 8 5,(9,jI (some_.length:Int)),(12,jI (wr (n+1)))] (y32 o0B o0T o0L o1 some_) 8 3) ?_
        obtain rfl:=Option.some.inj h
        have ew:wr (n+1)=n+1:=inext (N:=(o1.Trials.length:Int)) (by omega) (by omega) (by omega)
        rw [ew]
        exact hK_18 _ _ rfl (Can.kp (by kernel_rfl))
      ·subst hout
       have h:=Aft.nx hk_18
       refine AW.seqK fun K_28 hK_28=>AW.srwK fun Q_29 hQ_29=>?_
       refine Au 3 (sT [(1,jI many),pR 3 1,pR 4 2,pR 5 3,pR 7 4,pR 8 5,(9,jI (some_.length:Int)),(12,jI n),(38,jI n),(40,.d (.sl 3 (List.map e29 o1.Trials)))] (y29 some_ o0B o0T o0L o1) 6 3) ?_
       refine rL rfl ?_
       refine Au 1 (sT [(1,jI many),pR 3 1,pR 4 2,pR 5 3,pR 7 4,pR 8 5,(9,jI (some_.length:Int)),(12,jI n),(42,.d (.bool (decide (n<(o1.Trials.length:Int)))))] (y29 some_ o0B o0T o0L o1) 6 3) ?_
       refine RW.nil (hQ_29 _ ?_)
       refine AW.cond rfl (fun hb_30=>False.elim (by have:=of_decide_eq_true hb_30;omega)) (fun hb_30=>?_)
       refine AW.exit ?_
       obtain rfl:=Option.some.inj h
       exact hK_17 _ _ rfl (Can.kp (by kernel_rfl))
     ·subst hj_17
      have h:=Aft.nx hk_17
      obtain rfl:=Option.some.inj h
      exact hK_16 _ _ rfl (Can.kp (by kernel_rfl))
    ·subst hj_16
     have h:=Aft.nx hk_16
     refine Sa (sT [pR 7 4,pR 8 5] (y31 o0B o0T o0L o1) 6 3) ?_
     obtain rfl:=Option.some.inj h
     exact AW.ret (hR_0 _ (retX (.cons (.one rfl rfl rfl) (.cons (.one rfl rfl rfl) .nil)) (Frz.tup_of ⟨.nil 1,.refl _,trivial⟩) rfl (by kernel_rfl) (by kernel_rfl)))
def g19_7 (x:StandBook):Int→((List (Nat→Int))×Int×Int×Int)→Option (Ctl ((List (Nat→Int))×Int×Int×Int) ((List Int)×Int)):=fun v (truths,weight,along,high)=>(g62 1000 ([]:(List Int)) v x truths (Stand_load.mk weight along high) x).bind fun (r0_5,r1_4)=>bif r1_4 then ((slcL r0_5 0 (r0_5.length:Int)).bind fun l=>some (.brk (l,0))) else (some (.next (truths,(Stand_load.mk weight along high).weight,(Stand_load.mk weight along high).along,(Stand_load.mk weight along high).high)))
def g19 (x:StandBook):Option ((List Int)×Int):=(g20 x).bind fun A1=>bif (decide (A1≠0)) then (some ([],A1)) else (bindC (forC (g19_7 x) ((((wr ((x.Trials.length:Int)+1)):Int) - 0).toNat) 0 (([],0,0,0):(List (Nat→Int))×Int×Int×Int)) fun (truths,weight,along,high)=>some ([],0))
def y33 (x:StandBook):List (Nat×Blk):=[(2,.var 110 [.clo 62 [] [.ptr 1 0,.ptr 0 0,.ptr 2 0]]),(1,.var 96 (catV (cv25 x) [.d (.nilSl),jI 0,jI 0,jI 0,.d (.nilMap)])),(0,.var 25 (cv25 x))]
def y34 (x:StandBook) (truths:List ((Nat→Int))) (weight:Int) (along:Int) (high:Int):List (Nat×Blk):=[(2,.var 110 [.clo 62 [] [.ptr 1 0,.ptr 0 0,.ptr 2 0]]),(1,.var 96 (catV (cv25 x) [.d (.sl 4 (List.map e103 truths)),jI weight,jI along,jI high,.d (.nilMap)])),(0,.var 25 (cv25 x))]
theorem k19 (x:StandBook) (r:(List Int)×Int) (h:g19 x=some r):SCall Tryd.prog Gs 19 [.agg [jI x.Kind,jI x.Front,jI x.Back,jI x.Radius,.d (.sl 4 (List.map e36 x.Parts)),jI x.Along,jI x.High,jI x.Lean_,jI x.Limit,.d (.sl 3 (List.map e29 x.Trials))]] [] 0 Fr.emp (match r with | (r0_2,r1_2)=>.tup [.d (.sl 1 (List.map e3 r0_2)),jI r1_2]) [] 0 Fr.emp:=by
 unfold g19 at h
 refine SCall.mkK Tryd.func19 c19 rfl rfl (by kernel_rfl) (fun Q_0 hR_0 hN_0=>?_)
 refine Sa (sT [pR 1 0] [(0,.var 25 (cv25 x))] 1 0) ?_
 refine AW.seqK fun K_1 hK_1=>AW.srwK fun Q_2 hQ_2=>?_
 refine Au 1 (sT [pR 1 0,(10,.agg [jI x.Kind,jI x.Front,jI x.Back,jI x.Radius,.d (.sl 4 (List.map e36 x.Parts)),jI x.Along,jI x.High,jI x.Lean_,jI x.Limit,.d (.sl 3 (List.map e29 x.Trials))])] [(0,.var 25 (cv25 x))] 1 0) ?_
 obtain ⟨A1,hx_3,h⟩:=bsome h
 refine rC (k20 x _ hx_3) ?_
 refine Au 1 (sT [pR 1 0,(4,jI A1)] [(0,.var 25 (cv25 x))] 1 0) ?_
 refine RW.nil (hQ_2 _ ?_)
 refine Sa (sT [pR 1 0,(4,jI A1),(13,.d (.bool (decide (A1≠0))))] [(0,.var 25 (cv25 x))] 1 0) ?_
 refine AW.cond rfl (fun hb_4=>?_) (fun hb_4=>?_)
 ·have h:=ifT hb_4 h
  refine Sa (sT [(2,.d (.nilSl)),(3,jI A1)] [] 1 0) ?_
  obtain rfl:=Option.some.inj h
  exact AW.ret (hR_0 _ (retX (.cons (.tmp rfl) (.cons (.tmp rfl) .nil)) (Frz.tup_of ⟨.nil 1,.refl _,trivial⟩) rfl (by kernel_rfl) (by kernel_rfl)))
 ·have h:=ifF hb_4 h
  refine AW.skip (hK_1 _ ?_)
  refine Sa (sT [pR 1 0,pR 5 1] [(1,.var 96 (catV (cv25 x) [.d (.nilSl),jI 0,jI 0,jI 0,.d (.nilMap)])),(0,.var 25 (cv25 x))] 2 0) ?_
  refine Sa (sT [pR 1 0,pR 5 1,pR 6 2] [(2,.var 110 [.d (.nilFn)]),(1,.var 96 (catV (cv25 x) [.d (.nilSl),jI 0,jI 0,jI 0,.d (.nilMap)])),(0,.var 25 (cv25 x))] 3 0) ?_
  refine Sa (sT [pR 1 0,pR 6 2] (y33 x) 3 0) ?_
  refine AW.seqK fun K_5 hK_5=>AW.srwK fun Q_6 hQ_6=>?_
  refine Au 2 (sT [pR 6 2,(19,.d (.sl 3 (List.map e29 x.Trials)))] (y33 x) 3 0) ?_
  refine rL rfl ?_
  refine Au 2 (sT [pR 6 2,(21,jI (wr ((x.Trials.length:Int)+1))),(22,jI 0)] (y33 x) 3 0) ?_
  refine RW.nil (hQ_6 _ ?_)
  refine AW.block ?_
  have hN_7:(wr ((x.Trials.length:Int)+1))≤9223372036854775807:=(wr_range _).2
  obtain ⟨out_7,hx_7,hk_7⟩:=bsomeC h
  refine AW.lpCK (fun (v:Int) (⟨truths,weight,along,high⟩:(List (Nat→Int))×Int×Int×Int)=>(sT [pR 6 2,(21,jI (wr ((x.Trials.length:Int)+1))),(22,jI v)] (y34 x truths weight along high) 3 0)) (g19_7 x) ((wr ((x.Trials.length:Int)+1))) hx_7 (Can.trans (Can.wkH 1 10 4 rfl rfl) (Can.kp (by kernel_rfl))) (fun v s_7 hi_7 hl_7 c_7 h hb_7 K_7 hK_7=>?_) (fun v s_7 hi_7 hl_7 hout=>?_)
  ·obtain ⟨truths,weight,along,high⟩:=s_7
   unfold g19_7 at h
   refine Sa (sT [pR 6 2,(21,jI (wr ((x.Trials.length:Int)+1))),(22,jI v),(23,.d (.bool (decide (v<(wr ((x.Trials.length:Int)+1))))))] (y34 x truths weight along high) 3 0) ?_
   refine AW.seqK (fun K_8 hK_8=>?_)
   refine AW.cond rfl (fun hb_9=>?_) (fun hb_9=>False.elim (by have:=of_decide_eq_false hb_9;omega))
   refine AW.skip (hK_8 _ ?_)
   refine AW.seqK (fun K_10 hK_10=>?_)
   refine AW.block ?_
   refine Sa (sT [pR 6 2,(7,jI v),(21,jI (wr ((x.Trials.length:Int)+1))),(22,jI v)] (y34 x truths weight along high) 3 0) ?_
   refine AW.srwK (fun Q_11 hQ_11=>?_)
   refine Au 2 (sT [pR 6 2,(21,jI (wr ((x.Trials.length:Int)+1))),(22,jI v),(26,.clo 62 [] [.ptr 1 0,.ptr 0 0,.ptr 2 0]),(27,jI v)] (y34 x truths weight along high) 3 0) ?_
   obtain ⟨⟨r0_5,r1_4⟩,hx_12,h⟩:=bsome h
   refine RW.one fokW (r_callvE (zr:=[]) [1,0,2] trivial rfl (.clo _ _ _) (by kernel_rfl) rfl (k62 1000 ([]:(List Int)) v x truths (Stand_load.mk weight along high) x _ hx_12) ⟨rfl,rfl,rfl,trivial⟩ rfl rfl ⟨(.nil 1),.refl _,.refl _,.refl _,.refl _,trivial⟩ rfl rfl rfl (r_end ?_))
   refine Au 5 (sT [pR 6 2,(8,.d (.sl 1 (List.map e3 r0_5))),(9,.d (.bool r1_4)),(21,jI (wr ((x.Trials.length:Int)+1))),(22,jI v)] [(1,.var 96 (catV (cv25 x) [.d (.sl 4 (List.map e103 truths)),jI ((Stand_load.mk weight along high).weight),jI ((Stand_load.mk weight along high).along),jI ((Stand_load.mk weight along high).high),.d (.nilMap)])),(0,.var 25 (cv25 x)),(2,.var 110 [.clo 62 [] [.ptr 1 0,.ptr 0 0,.ptr 2 0]])] 3 0) ?_
   refine RW.nil (hQ_11 _ ?_)
   refine Sa (sT [pR 6 2,(8,.d (.sl 1 (List.map e3 r0_5))),(21,jI (wr ((x.Trials.length:Int)+1))),(22,jI v),(31,.d (.bool r1_4))] [(1,.var 96 (catV (cv25 x) [.d (.sl 4 (List.map e103 truths)),jI ((Stand_load.mk weight along high).weight),jI ((Stand_load.mk weight along high).along),jI ((Stand_load.mk weight along high).high),.d (.nilMap)])),(0,.var 25 (cv25 x)),(2,.var 110 [.clo 62 [] [.ptr 1 0,.ptr 0 0,.ptr 2 0]])] 3 0) ?_
   refine AW.cond rfl (fun hb_13=>?_) (fun hb_13=>?_)
   ·have h:=ifT hb_13 h
    refine AW.srwK (fun Q_14 hQ_14=>?_)
    refine Au 2 (sT [(8,.d (.sl 1 (List.map e3 r0_5))),(32,.d (.sl 1 (List.map e3 r0_5))),(33,.d (.sl 1 (List.map e3 r0_5)))] [] 3 0) ?_
    refine rL rfl ?_
    refine Au 1 (sT [(32,.d (.sl 1 (List.map e3 r0_5))),(34,jI (r0_5.length:Int)),(35,.d (.sl 1 (List.map e3 r0_5)))] [] 3 0) ?_
    refine rL rfl ?_
    obtain ⟨l,hv_15,h⟩:=bsome h
    refine RW.one fokW (r_slN trivial rfl rfl rfl DSl.d (slcL_ok hv_15).2.1 (by rw [List.length_map];exact (slcL_ok hv_15).2.2.1) rfl (slz hv_15 e3) (r_end ?_))
    refine Au 2 (sT [(2,.fsl 1 (List.map e3 l)),(3,jI 0)] [] 3 0) ?_
    refine RW.nil (hQ_14 _ ?_)
    obtain rfl:=Option.some.inj h
    have e_1:=hb_7 _ rfl
    subst e_1
    obtain rfl:=Aft.bk hk_7
    exact AW.ret (hR_0 _ (retX (.cons (.tmp rfl) (.cons (.tmp rfl) .nil)) (Frz.tup_of ⟨.fsl _ _,.refl _,trivial⟩) rfl (by kernel_rfl) (by kernel_rfl)))
   ·have h:=ifF hb_13 h
    refine AW.skip (hK_10 _ ?_)
    refine Ra (sT [pR 6 2,(21,jI (wr ((x.Trials.length:Int)+1))),(22,jI (wr (v+1)))] [(1,.var 96 (catV (cv25 x) [.d (.sl 4 (List.map e103 truths)),jI ((Stand_load.mk weight along high).weight),jI ((Stand_load.mk weight along high).along),jI ((Stand_load.mk weight along high).high),.d (.nilMap)])),(0,.var 25 (cv25 x)),(2,.var 110 [.clo 62 [] [.ptr 1 0,.ptr 0 0,.ptr 2 0]])] 3 0) ?_
    obtain rfl:=Option.some.inj h
    have ew:wr (v+1)=v+1:=inext (N:=(wr ((x.Trials.length:Int)+1))) (by omega) (by omega) (by omega)
    rw [ew]
    exact hK_7 _ _ rfl (Can.kp (by kernel_rfl))
  ·obtain ⟨truths,weight,along,high⟩:=s_7
   subst hout
   have h:=Aft.nx hk_7
   refine Sa (sT [pR 6 2,(21,jI (wr ((x.Trials.length:Int)+1))),(22,jI v),(23,.d (.bool (decide (v<(wr ((x.Trials.length:Int)+1))))))] (y34 x truths weight along high) 3 0) ?_
   refine AW.seqK (fun K_16 hK_16=>?_)
   refine AW.cond rfl (fun hb_17=>False.elim (by have:=of_decide_eq_true hb_17;omega)) (fun hb_17=>?_)
   refine AW.exit ?_
   refine hK_5 _ ?_
   refine Sa (sT [(2,.d (.nilSl)),(3,jI 0)] [] 3 0) ?_
   obtain rfl:=Option.some.inj h
   exact AW.ret (hR_0 _ (retX (.cons (.tmp rfl) (.cons (.tmp rfl) .nil)) (Frz.tup_of ⟨.nil 1,.refl _,trivial⟩) rfl (by kernel_rfl) (by kernel_rfl)))
def g21 :Option StandBook:=(g9 21 (-8) false).bind fun r0=>(g9 20 (-8) true).bind fun r0_1=>(g8 [r0,r0_1]).bind fun r0_2=>some r0_2
theorem k21  (r:StandBook) (h:g21=some r):SCall Tryd.prog Gs 21 [] [] 0 Fr.emp (.agg [jI r.Kind,jI r.Front,jI r.Back,jI r.Radius,.d (.sl 4 (List.map e36 r.Parts)),jI r.Along,jI r.High,jI r.Lean_,jI r.Limit,.d (.sl 3 (List.map e29 r.Trials))]) [] 0 Fr.emp:=by
 unfold g21 at h
 refine SCall.mkK Tryd.func21 c21 rfl rfl (by kernel_rfl) (fun Q_0 hR_0 hN_0=>?_)
 refine Sa (sT [pR 0 0] [(0,.var 25 [jI 0,jI 0,jI 0,jI 0,.d (.nilSl),jI 0,jI 0,jI 0,jI 0,.d (.nilSl)])] 1 0) ?_
 refine AW.srwK (fun Q_1 hQ_1=>?_)
 obtain ⟨r0,hx_2,h⟩:=bsome h
 refine rC (k9 21 (-8) false _ hx_2) ?_
 obtain ⟨r0_1,hx_3,h⟩:=bsome h
 refine rC (k9 20 (-8) true _ hx_3) ?_
 refine Au 1 (sT [pR 0 0,(3,.own 1 (List.map e29 [r0,r0_1]).length)] [(1,.row 29 3 (List.map e29 [r0,r0_1])),(0,.var 25 [jI 0,jI 0,jI 0,jI 0,.d (.nilSl),jI 0,jI 0,jI 0,jI 0,.d (.nilSl)])] 2 0) ?_
 obtain ⟨r0_2,hx_4,h⟩:=bsome h
 refine RW.one fokW (r_callZ (zr:=[(1,.row 29 3 (List.map e29 [r0,r0_1]))]) trivial rfl (k8 [r0,r0_1] _ hx_4) ⟨rfl,trivial⟩ ⟨(.own rfl rfl),trivial⟩ rfl rfl rfl rfl (r_end ?_))
 refine Au 1 (sT [pR 0 0] [(0,.var 25 (cv25 r0_2))] 2 0) ?_
 refine RW.nil (hQ_1 _ ?_)
 obtain rfl:=Option.some.inj h
 exact rT hR_0 (.cons (.agg rfl rfl (Nat.le_of_ble_eq_true rfl)) .nil)
def g22 :Option StandBook:=(g9 21 (-8) false).bind fun r0=>(g8 [r0]).bind fun r0_2=>some r0_2
theorem k22  (r:StandBook) (h:g22=some r):SCall Tryd.prog Gs 22 [] [] 0 Fr.emp (.agg [jI r.Kind,jI r.Front,jI r.Back,jI r.Radius,.d (.sl 4 (List.map e36 r.Parts)),jI r.Along,jI r.High,jI r.Lean_,jI r.Limit,.d (.sl 3 (List.map e29 r.Trials))]) [] 0 Fr.emp:=by
 unfold g22 at h
 refine SCall.mkK Tryd.func22 c22 rfl rfl (by kernel_rfl) (fun Q_0 hR_0 hN_0=>?_)
 refine Sa (sT [pR 0 0] [(0,.var 25 [jI 0,jI 0,jI 0,jI 0,.d (.nilSl),jI 0,jI 0,jI 0,jI 0,.d (.nilSl)])] 1 0) ?_
 refine AW.srwK (fun Q_1 hQ_1=>?_)
 obtain ⟨r0,hx_2,h⟩:=bsome h
 refine rC (k9 21 (-8) false _ hx_2) ?_
 refine Au 1 (sT [pR 0 0,(2,.own 1 (List.map e29 [r0]).length)] [(1,.row 29 3 (List.map e29 [r0])),(0,.var 25 [jI 0,jI 0,jI 0,jI 0,.d (.nilSl),jI 0,jI 0,jI 0,jI 0,.d (.nilSl)])] 2 0) ?_
 obtain ⟨r0_2,hx_3,h⟩:=bsome h
 refine RW.one fokW (r_callZ (zr:=[(1,.row 29 3 (List.map e29 [r0]))]) trivial rfl (k8 [r0] _ hx_3) ⟨rfl,trivial⟩ ⟨(.own rfl rfl),trivial⟩ rfl rfl rfl rfl (r_end ?_))
 refine Au 1 (sT [pR 0 0] [(0,.var 25 (cv25 r0_2))] 2 0) ?_
 refine RW.nil (hQ_1 _ ?_)
 obtain rfl:=Option.some.inj h
 exact rT hR_0 (.cons (.agg rfl rfl (Nat.le_of_ble_eq_true rfl)) .nil)
def g23 (top:Int) (bottom:Int):Option StandRatio:=some (StandRatio.mk top bottom)
theorem k23 (top:Int) (bottom:Int) (r:StandRatio) (h:g23 top bottom=some r):SCall Tryd.prog Gs 23 [jI top,jI bottom] [] 0 Fr.emp (.agg [jI r.Top,jI r.Bottom]) [] 0 Fr.emp:=by
 unfold g23 at h
 refine SCall.mkK Tryd.func23 c23 rfl rfl (by kernel_rfl) (fun Q_0 hR_0 hN_0=>?_)
 refine Sa (sT [(0,jI top),(1,jI bottom),pR 4 0] [(0,.var 43 [jI 0,jI 0])] 1 0) ?_
 refine Sa (sT [pR 4 0] [(0,.var 43 [jI top,jI bottom])] 1 0) ?_
 obtain rfl:=Option.some.inj h
 exact rT hR_0 (.cons (.agg rfl rfl (Nat.le_of_ble_eq_true rfl)) .nil)
def g24 (n:Int):Option Span:=some (Span.mk n n)
theorem k24 (n:Int) (r:Span) (h:g24 n=some r):SCall Tryd.prog Gs 24 [jI n] [] 0 Fr.emp (.agg [jI r.Low,jI r.High]) [] 0 Fr.emp:=by
 unfold g24 at h
 refine SCall.mkK Tryd.func24 c24 rfl rfl (by kernel_rfl) (fun Q_0 hR_0 hN_0=>?_)
 refine Sa (sT [(0,jI n),pR 2 0] [(0,.var 33 [jI 0,jI 0])] 1 0) ?_
 refine Sa (sT [pR 2 0] [(0,.var 33 [jI n,jI n])] 1 0) ?_
 obtain rfl:=Option.some.inj h
 exact rT hR_0 (.cons (.agg rfl rfl (Nat.le_of_ble_eq_true rfl)) .nil)
def g37_4 (l:(List Int)) (m:(List Int)):(Bool×Int)→Option (Ctl (Bool×Int) (Bool)):=fun  (is2,i)=>(bif is2 then (some (decide (i<(l.length:Int)))) else (some false)).bind fun v=>bif v then ((ixL l i).bind fun p=>(ixL m i).bind fun p1=>some (.next ((decide (p=p1)),(wr (i+1))))) else (some (.brk is2))
def g37 (l:(List Int)) (m:(List Int)):Option Bool:=((whileC (g37_4 l m) 1000 ((decide ((l.length:Int)=(m.length:Int))),0)).bind fun is1=>some is1).bind fun is=>some is
theorem k37 (l:(List Int)) (m:(List Int)) (r:Bool) (h:g37 l m=some r):SCall Tryd.prog Gs 37 [.d (.sl 1 (List.map e3 l)),.d (.sl 1 (List.map e3 m))] [] 0 Fr.emp (.d (.bool r)) [] 0 Fr.emp:=by
 unfold g37 at h
 refine SCall.mkK Tryd.func37 c37 rfl rfl (by kernel_rfl) (fun Q_0 hR_0 hN_0=>?_)
 refine Sa (sT [(0,.d (.sl 1 (List.map e3 l))),(1,.d (.sl 1 (List.map e3 m)))] [] 0 0) ?_
 refine AW.srwK (fun Q_1 hQ_1=>?_)
 refine Au 1 (sT [(0,.d (.sl 1 (List.map e3 l))),(1,.d (.sl 1 (List.map e3 m))),(7,.d (.sl 1 (List.map e3 l)))] [] 0 0) ?_
 refine rL rfl ?_
 refine Au 1 (sT [(0,.d (.sl 1 (List.map e3 l))),(1,.d (.sl 1 (List.map e3 m))),(8,jI (l.length:Int)),(9,.d (.sl 1 (List.map e3 m)))] [] 0 0) ?_
 refine rL rfl ?_
 refine Au 2 (sT [(0,.d (.sl 1 (List.map e3 l))),(1,.d (.sl 1 (List.map e3 m))),(5,.d (.bool (decide ((l.length:Int)=(m.length:Int)))))] [] 0 0) ?_
 refine RW.nil (hQ_1 _ ?_)
 obtain ⟨is,hx_2,h⟩:=bsome h
 refine AW.jnSK (fun (is:Bool)=>(sT [(5,.d (.bool is))] [] 0 0)) (c:=is) (fun K_2 hK_2=>?_) ?_
 ·have h:=hx_2
  refine Sa (sT [(0,.d (.sl 1 (List.map e3 l))),(1,.d (.sl 1 (List.map e3 m))),(5,.d (.bool (decide ((l.length:Int)=(m.length:Int))))),(6,jI 0)] [] 0 0) ?_
  obtain ⟨is1,hx_3,h⟩:=bsome h
  refine AW.jqSK (fun (is1:Bool)=>(sT [(5,.d (.bool is1))] [] 0 0)) (c:=is1) (fun K_3 hK_3=>?_) ?_
  ·have h:=hx_3
   refine AW.block ?_
   refine AW.whK (fun (⟨is2,i⟩:Bool×Int)=>(sT [(0,.d (.sl 1 (List.map e3 l))),(1,.d (.sl 1 (List.map e3 m))),(5,.d (.bool is2)),(6,jI i)] [] 0 0)) (g37_4 l m) h (Can.kp (by kernel_rfl)) (fun s_4 c_4 h hb_4 K_4 hK_4=>?_)
   obtain ⟨is2,i⟩:=s_4
   unfold g37_4 at h
   refine AW.seqK fun K_5 hK_5=>AW.srwK fun Q_6 hQ_6=>?_
   refine Au 2 (sT [(0,.d (.sl 1 (List.map e3 l))),(1,.d (.sl 1 (List.map e3 m))),(5,.d (.bool is2)),(6,jI i),(13,.d (.bool is2))] [] 0 0) ?_
   obtain ⟨v,hx_7,h⟩:=bsome h
   refine RW.cut fokW 5 ((sT [(0,.d (.sl 1 (List.map e3 l))),(1,.d (.sl 1 (List.map e3 m))),(5,.d (.bool is2)),(6,jI i),(18,.d (.bool v))] [] 0 0)) ?_ ?_
   ·refine r_split 13 rfl (fun hb_8=>?_) (fun hb_8=>?_)
    ·have h:=ifT hb_8 hx_7
     refine aX 2 (sT [(0,.d (.sl 1 (List.map e3 l))),(1,.d (.sl 1 (List.map e3 m))),(5,.d (.bool is2)),(6,jI i),(13,.d (.bool true)),(14,jI i),(15,.d (.sl 1 (List.map e3 l)))] [] 0 0) ?_
     refine r_lenX rfl rfl lenm ?_
     refine aX 2 (sT [(0,.d (.sl 1 (List.map e3 l))),(1,.d (.sl 1 (List.map e3 m))),(5,.d (.bool is2)),(6,jI i),(18,.d (.bool (decide (i<(l.length:Int)))))] [] 0 0) ?_
     obtain rfl:=Option.some.inj h
     refine RunC.finJ (Can.kp (by kernel_rfl))
    ·have h:=ifF hb_8 hx_7
     refine aX 5 (sT [(0,.d (.sl 1 (List.map e3 l))),(1,.d (.sl 1 (List.map e3 m))),(5,.d (.bool is2)),(6,jI i),(18,.d (.bool false))] [] 0 0) ?_
     obtain rfl:=Option.some.inj h
     refine RunC.finJ (Can.kp (by kernel_rfl))
   ·refine RW.nil (hQ_6 _ ?_)
    refine AW.cond rfl (fun hb_9=>?_) (fun hb_9=>?_)
    ·have h:=ifT hb_9 h
     refine AW.skip (hK_5 _ ?_)
     refine AW.seqK (fun K_10 hK_10=>?_)
     refine AW.block ?_
     refine AW.drw fokW ?_
     refine aX 2 (sT [(0,.d (.sl 1 (List.map e3 l))),(1,.d (.sl 1 (List.map e3 m))),(6,jI i),(21,.d (.sl 1 (List.map e3 l))),(22,jI i)] [] 0 0) ?_
     obtain ⟨p,hv_12,h⟩:=bsome h
     refine r_iaD trivial rfl rfl (ixL_ok hv_12).1 (row:=e3 p) (mapget (ixL_ok hv_12).2) ?_
     refine aX 3 (sT [(0,.d (.sl 1 (List.map e3 l))),(1,.d (.sl 1 (List.map e3 m))),(6,jI i),(24,jI p),(25,.d (.sl 1 (List.map e3 m))),(26,jI i)] [] 0 0) ?_
     obtain ⟨p1,hv_13,h⟩:=bsome h
     refine r_iaD trivial rfl rfl (ixL_ok hv_13).1 (row:=e3 p1) (mapget (ixL_ok hv_13).2) ?_
     refine aX 3 (sT [(0,.d (.sl 1 (List.map e3 l))),(1,.d (.sl 1 (List.map e3 m))),(5,.d (.bool (decide (p=p1)))),(6,jI i)] [] 0 0) ?_
     refine Fi (sT [(0,.d (.sl 1 (List.map e3 l))),(1,.d (.sl 1 (List.map e3 m))),(5,.d (.bool (decide (p=p1)))),(6,jI i)] [] 0 0) ?_
     refine hK_10 _ ?_
     refine Ra (sT [(0,.d (.sl 1 (List.map e3 l))),(1,.d (.sl 1 (List.map e3 m))),(5,.d (.bool (decide (p=p1)))),(6,jI (wr (i+1)))] [] 0 0) ?_
     obtain rfl:=Option.some.inj h
     exact hK_4 _ _ rfl (Can.kp (by kernel_rfl))
    ·have h:=ifF hb_9 h
     refine AW.exit ?_
     obtain rfl:=Option.some.inj h
     obtain rfl:=hb_4 _ rfl
     exact hK_3 _ (Can.kp (by kernel_rfl))
  ·obtain rfl:=Option.some.inj h
   exact hK_2 _ (Can.kp (by kernel_rfl))
 ·refine Sa (sT [(4,.d (.bool is))] [] 0 0) ?_
  obtain rfl:=Option.some.inj h
  exact rT hR_0 (.cons (.tmp rfl) .nil)
def g25 :Option Bool:=(g6).bind fun r0=>(g12 r0 20 (-8)).bind fun (r0_6,r1_6)=>(g6).bind fun r0_1=>(g13 r0_1 10 (-8)).bind fun (r0_3,r1_4)=>(g22).bind fun r0_1_1=>(g15 r0_1_1).bind fun (r0_4,r1_5)=>(g6).bind fun r0_2=>(g16 r0_2 20).bind fun (r0_4_1,r1_5_1)=>(g6).bind fun r0_5=>(g17 r0_5 10).bind fun (r0_5_1,r1_5_2)=>bindC ((bif (decide (r1_6≠0)) then (some true) else (bif (decide (r1_4≠0)) then (some true) else (bif (decide (r1_5≠0)) then (some true) else (bif (decide (r1_5_1≠0)) then (some true) else (bif (decide (r1_5_2≠0)) then (some true) else (bif (decide (r0_6≠1)) then (some true) else ((g23 38 17).bind fun r0_7=>bif (true != ((r0_3.Top==r0_7.Top)&&((r0_3.Bottom==r0_7.Bottom)&&true))) then (some true) else (bif (decide (r0_4≠22)) then (some true) else ((g10 (-7) 8).bind fun r0_8=>bif (true != ((r0_4_1.Low==r0_8.Low)&&((r0_4_1.High==r0_8.High)&&true))) then (some true) else (some (decide (r0_5_1≠6)))))))))))).bind fun v=>bif v then (some (.brk false)) else (some (.next ())):Option (Ctl (Unit) (Bool))) fun _=>(g6).bind fun r0_9=>(g18 r0_9).bind fun (r0_4_2,r1_5_3)=>(g21).bind fun r0_3_1=>(g19 r0_3_1).bind fun (r0_2_1,r1_2)=>(g6).bind fun r0_10=>(g14 r0_10 19).bind fun (r0_4_3,r1_4_1)=>(g6).bind fun r0_11=>(g11 r0_11).bind fun (r0_1_2,r1_1)=>(g7).bind fun r0_1_3=>(g13 r0_1_3 30 (-8)).bind fun (r0_3_2,r1_4_2)=>(bif (decide (r1_5_3=0)) then (bif (decide (r1_2=0)) then (bif (decide (r1_4_1=0)) then (bif (decide (r1_1=0)) then (bif (decide (r1_4_2=0)) then (bif (decide (r0_4_2=2)) then ((g37 r0_2_1 [0]).bind fun r0_12=>bif r0_12 then (bif r0_4_3 then (bif r0_1_2 then ((g23 (-200) 9).bind fun r0_13=>some (false != ((r0_3_2.Top==r0_13.Top)&&((r0_3_2.Bottom==r0_13.Bottom)&&true)))) else (some false)) else (some false)) else (some false)) else (some false)) else (some false)) else (some false)) else (some false)) else (some false)) else (some false)).bind fun t=>some t
theorem k25  (r:Bool) (h:g25=some r):SCall Tryd.prog Gs 25 [] [] 0 Fr.emp (.d (.bool r)) [] 0 Fr.emp:=by
 unfold g25 at h
 refine SCall.mkK Tryd.func25 c25 rfl rfl (by kernel_rfl) (fun Q_0 hR_0 hN_0=>?_)
 refine Sa (sT [] [] 0 0) ?_
 refine AW.srwK (fun Q_1 hQ_1=>?_)
 obtain ⟨r0,hx_2,h⟩:=bsome h
 refine rC (k6 _ hx_2) ?_
 obtain ⟨⟨r0_6,r1_6⟩,hx_3,h⟩:=bsome h
 refine rC (k12 r0 20 (-8) _ hx_3) ?_
 refine Au 5 (sT [(1,jI r0_6),(2,jI r1_6)] [] 0 0) ?_
 refine RW.nil (hQ_1 _ ?_)
 refine AW.srwK (fun Q_4 hQ_4=>?_)
 obtain ⟨r0_1,hx_5,h⟩:=bsome h
 refine rC (k6 _ hx_5) ?_
 obtain ⟨⟨r0_3,r1_4⟩,hx_6,h⟩:=bsome h
 refine rC (k13 r0_1 10 (-8) _ hx_6) ?_
 refine Au 6 (sT [(1,jI r0_6),(2,jI r1_6),pR 3 0,(4,jI r1_4)] [(0,.var 43 [jI r0_3.Top,jI r0_3.Bottom])] 1 0) ?_
 refine RW.nil (hQ_4 _ ?_)
 refine AW.srwK (fun Q_7 hQ_7=>?_)
 obtain ⟨r0_1_1,hx_8,h⟩:=bsome h
 refine rC (k22 _ hx_8) ?_
 obtain ⟨⟨r0_4,r1_5⟩,hx_9,h⟩:=bsome h
 refine rC (k15 r0_1_1 _ hx_9) ?_
 refine Au 5 (sT [(1,jI r0_6),(2,jI r1_6),pR 3 0,(4,jI r1_4),(5,jI r0_4),(6,jI r1_5)] [(0,.var 43 [jI r0_3.Top,jI r0_3.Bottom])] 1 0) ?_
 refine RW.nil (hQ_7 _ ?_)
 refine AW.srwK (fun Q_10 hQ_10=>?_)
 obtain ⟨r0_2,hx_11,h⟩:=bsome h
 refine rC (k6 _ hx_11) ?_
 obtain ⟨⟨r0_4_1,r1_5_1⟩,hx_12,h⟩:=bsome h
 refine rC (k16 r0_2 20 _ hx_12) ?_
 refine Au 6 (sT [(1,jI r0_6),(2,jI r1_6),pR 3 0,(4,jI r1_4),(5,jI r0_4),(6,jI r1_5),pR 7 1,(8,jI r1_5_1)] [(1,.var 33 [jI r0_4_1.Low,jI r0_4_1.High]),(0,.var 43 [jI r0_3.Top,jI r0_3.Bottom])] 2 0) ?_
 refine RW.nil (hQ_10 _ ?_)
 refine AW.srwK (fun Q_13 hQ_13=>?_)
 obtain ⟨r0_5,hx_14,h⟩:=bsome h
 refine rC (k6 _ hx_14) ?_
 obtain ⟨⟨r0_5_1,r1_5_2⟩,hx_15,h⟩:=bsome h
 refine rC (k17 r0_5 10 _ hx_15) ?_
 refine Au 5 (sT [(1,jI r0_6),(2,jI r1_6),pR 3 0,(4,jI r1_4),(5,jI r0_4),(6,jI r1_5),pR 7 1,(8,jI r1_5_1),(9,jI r0_5_1),(10,jI r1_5_2)] [(1,.var 33 [jI r0_4_1.Low,jI r0_4_1.High]),(0,.var 43 [jI r0_3.Top,jI r0_3.Bottom])] 2 0) ?_
 refine RW.nil (hQ_13 _ ?_)
 obtain ⟨c_16,hx_16,hk_16⟩:=bsomeC h
 refine AW.jnK (fun (_:Unit)=>(sT [] [] 2 0)) (c:=c_16) (fun K_16 hK_16=>?_) (fun j_16 hj_16=>?_)
 ·have h:=hx_16
  obtain ⟨v,hx_17,h⟩:=bsome h
  refine AW.jnSK (fun (v:Bool)=>(sT [(80,.d (.bool v))] [] 2 0)) (c:=v) (fun K_17 hK_17=>?_) ?_
  ·have h:=hx_17
   refine AW.drw fokW ?_
   refine aX 3 (sT [(1,jI r0_6),pR 3 0,(4,jI r1_4),(5,jI r0_4),(6,jI r1_5),pR 7 1,(8,jI r1_5_1),(9,jI r0_5_1),(10,jI r1_5_2),(43,.d (.bool (decide (r1_6≠0))))] [(1,.var 33 [jI r0_4_1.Low,jI r0_4_1.High]),(0,.var 43 [jI r0_3.Top,jI r0_3.Bottom])] 2 0) ?_
   refine r_split 43 rfl (fun hb_19=>?_) (fun hb_19=>?_)
   ·have h:=ifT hb_19 h
    refine aX 37 (sT [(80,.d (.bool true))] [(1,.var 33 [jI r0_4_1.Low,jI r0_4_1.High]),(0,.var 43 [jI r0_3.Top,jI r0_3.Bottom])] 2 0) ?_
    refine Fi (sT [(80,.d (.bool true))] [] 2 0) ?_
    obtain rfl:=Option.some.inj h
    exact hK_17 _ (Can.kp (by kernel_rfl))
   ·have h:=ifF hb_19 h
    refine aX 4 (sT [(1,jI r0_6),pR 3 0,(5,jI r0_4),(6,jI r1_5),pR 7 1,(8,jI r1_5_1),(9,jI r0_5_1),(10,jI r1_5_2),(47,.d (.bool (decide (r1_4≠0))))] [(1,.var 33 [jI r0_4_1.Low,jI r0_4_1.High]),(0,.var 43 [jI r0_3.Top,jI r0_3.Bottom])] 2 0) ?_
    refine r_split 47 rfl (fun hb_20=>?_) (fun hb_20=>?_)
    ·have h:=ifT hb_20 h
     refine aX 33 (sT [(80,.d (.bool true))] [(1,.var 33 [jI r0_4_1.Low,jI r0_4_1.High]),(0,.var 43 [jI r0_3.Top,jI r0_3.Bottom])] 2 0) ?_
     refine Fi (sT [(80,.d (.bool true))] [] 2 0) ?_
     obtain rfl:=Option.some.inj h
     exact hK_17 _ (Can.kp (by kernel_rfl))
    ·have h:=ifF hb_20 h
     refine aX 4 (sT [(1,jI r0_6),pR 3 0,(5,jI r0_4),pR 7 1,(8,jI r1_5_1),(9,jI r0_5_1),(10,jI r1_5_2),(51,.d (.bool (decide (r1_5≠0))))] [(1,.var 33 [jI r0_4_1.Low,jI r0_4_1.High]),(0,.var 43 [jI r0_3.Top,jI r0_3.Bottom])] 2 0) ?_
     refine r_split 51 rfl (fun hb_21=>?_) (fun hb_21=>?_)
     ·have h:=ifT hb_21 h
      refine aX 29 (sT [(80,.d (.bool true))] [(1,.var 33 [jI r0_4_1.Low,jI r0_4_1.High]),(0,.var 43 [jI r0_3.Top,jI r0_3.Bottom])] 2 0) ?_
      refine Fi (sT [(80,.d (.bool true))] [] 2 0) ?_
      obtain rfl:=Option.some.inj h
      exact hK_17 _ (Can.kp (by kernel_rfl))
     ·have h:=ifF hb_21 h
      refine aX 4 (sT [(1,jI r0_6),pR 3 0,(5,jI r0_4),pR 7 1,(9,jI r0_5_1),(10,jI r1_5_2),(55,.d (.bool (decide (r1_5_1≠0))))] [(1,.var 33 [jI r0_4_1.Low,jI r0_4_1.High]),(0,.var 43 [jI r0_3.Top,jI r0_3.Bottom])] 2 0) ?_
      refine r_split 55 rfl (fun hb_22=>?_) (fun hb_22=>?_)
      ·have h:=ifT hb_22 h
       refine aX 25 (sT [(80,.d (.bool true))] [(1,.var 33 [jI r0_4_1.Low,jI r0_4_1.High]),(0,.var 43 [jI r0_3.Top,jI r0_3.Bottom])] 2 0) ?_
       refine Fi (sT [(80,.d (.bool true))] [] 2 0) ?_
       obtain rfl:=Option.some.inj h
       exact hK_17 _ (Can.kp (by kernel_rfl))
      ·have h:=ifF hb_22 h
       refine aX 4 (sT [(1,jI r0_6),pR 3 0,(5,jI r0_4),pR 7 1,(9,jI r0_5_1),(59,.d (.bool (decide (r1_5_2≠0))))] [(1,.var 33 [jI r0_4_1.Low,jI r0_4_1.High]),(0,.var 43 [jI r0_3.Top,jI r0_3.Bottom])] 2 0) ?_
       refine r_split 59 rfl (fun hb_23=>?_) (fun hb_23=>?_)
       ·have h:=ifT hb_23 h
        refine aX 21 (sT [(80,.d (.bool true))] [(1,.var 33 [jI r0_4_1.Low,jI r0_4_1.High]),(0,.var 43 [jI r0_3.Top,jI r0_3.Bottom])] 2 0) ?_
        refine Fi (sT [(80,.d (.bool true))] [] 2 0) ?_
        obtain rfl:=Option.some.inj h
        exact hK_17 _ (Can.kp (by kernel_rfl))
       ·have h:=ifF hb_23 h
        refine aX 4 (sT [pR 3 0,(5,jI r0_4),pR 7 1,(9,jI r0_5_1),(63,.d (.bool (decide (r0_6≠1))))] [(1,.var 33 [jI r0_4_1.Low,jI r0_4_1.High]),(0,.var 43 [jI r0_3.Top,jI r0_3.Bottom])] 2 0) ?_
        refine r_split 63 rfl (fun hb_24=>?_) (fun hb_24=>?_)
        ·have h:=ifT hb_24 h
         refine aX 17 (sT [(80,.d (.bool true))] [(1,.var 33 [jI r0_4_1.Low,jI r0_4_1.High]),(0,.var 43 [jI r0_3.Top,jI r0_3.Bottom])] 2 0) ?_
         refine Fi (sT [(80,.d (.bool true))] [] 2 0) ?_
         obtain rfl:=Option.some.inj h
         exact hK_17 _ (Can.kp (by kernel_rfl))
        ·have h:=ifF hb_24 h
         refine aX 1 (sT [(5,jI r0_4),pR 7 1,(9,jI r0_5_1),(63,.d (.bool false)),(64,.agg [jI r0_3.Top,jI r0_3.Bottom])] [(1,.var 33 [jI r0_4_1.Low,jI r0_4_1.High]),(0,.var 43 [jI r0_3.Top,jI r0_3.Bottom])] 2 0) ?_
         obtain ⟨r0_7,hx_25,h⟩:=bsome h
         refine r_call rfl rfl (k23 38 17 _ hx_25) rfl rfl ?_
         refine r_aeq rfl rfl rfl rfl rfl ft43 rfl rfl rfl ?_
         refine aX 2 (sT [(5,jI r0_4),pR 7 1,(9,jI r0_5_1),(68,.d (.bool (true != ((r0_3.Top==r0_7.Top)&&((r0_3.Bottom==r0_7.Bottom)&&true)))))] [(1,.var 33 [jI r0_4_1.Low,jI r0_4_1.High]),(0,.var 43 [jI r0_3.Top,jI r0_3.Bottom])] 2 0) ?_
         refine r_split 68 rfl (fun hb_26=>?_) (fun hb_26=>?_)
         ·have h:=ifT hb_26 h
          refine aX 12 (sT [(80,.d (.bool true))] [(1,.var 33 [jI r0_4_1.Low,jI r0_4_1.High]),(0,.var 43 [jI r0_3.Top,jI r0_3.Bottom])] 2 0) ?_
          refine Fi (sT [(80,.d (.bool true))] [] 2 0) ?_
          obtain rfl:=Option.some.inj h
          exact hK_17 _ (Can.kp (by kernel_rfl))
         ·have h:=ifF hb_26 h
          refine aX 4 (sT [pR 7 1,(9,jI r0_5_1),(72,.d (.bool (decide (r0_4≠22))))] [(1,.var 33 [jI r0_4_1.Low,jI r0_4_1.High]),(0,.var 43 [jI r0_3.Top,jI r0_3.Bottom])] 2 0) ?_
          refine r_split 72 rfl (fun hb_27=>?_) (fun hb_27=>?_)
          ·have h:=ifT hb_27 h
           refine aX 8 (sT [(80,.d (.bool true))] [(1,.var 33 [jI r0_4_1.Low,jI r0_4_1.High]),(0,.var 43 [jI r0_3.Top,jI r0_3.Bottom])] 2 0) ?_
           refine Fi (sT [(80,.d (.bool true))] [] 2 0) ?_
           obtain rfl:=Option.some.inj h
           exact hK_17 _ (Can.kp (by kernel_rfl))
          ·have h:=ifF hb_27 h
           refine aX 1 (sT [(9,jI r0_5_1),(72,.d (.bool false)),(73,.agg [jI r0_4_1.Low,jI r0_4_1.High])] [(1,.var 33 [jI r0_4_1.Low,jI r0_4_1.High]),(0,.var 43 [jI r0_3.Top,jI r0_3.Bottom])] 2 0) ?_
           obtain ⟨r0_8,hx_28,h⟩:=bsome h
           refine r_call rfl rfl (k10 (-7) 8 _ hx_28) rfl rfl ?_
           refine r_aeq rfl rfl rfl rfl rfl ft33 rfl rfl rfl ?_
           refine aX 2 (sT [(9,jI r0_5_1),(77,.d (.bool (true != ((r0_4_1.Low==r0_8.Low)&&((r0_4_1.High==r0_8.High)&&true)))))] [(1,.var 33 [jI r0_4_1.Low,jI r0_4_1.High]),(0,.var 43 [jI r0_3.Top,jI r0_3.Bottom])] 2 0) ?_
           refine r_split 77 rfl (fun hb_29=>?_) (fun hb_29=>?_)
           ·have h:=ifT hb_29 h
            refine aX 3 (sT [(80,.d (.bool true))] [(1,.var 33 [jI r0_4_1.Low,jI r0_4_1.High]),(0,.var 43 [jI r0_3.Top,jI r0_3.Bottom])] 2 0) ?_
            refine Fi (sT [(80,.d (.bool true))] [] 2 0) ?_
            obtain rfl:=Option.some.inj h
            exact hK_17 _ (Can.kp (by kernel_rfl))
           ·have h:=ifF hb_29 h
            refine aX 3 (sT [(80,.d (.bool (decide (r0_5_1≠6))))] [(1,.var 33 [jI r0_4_1.Low,jI r0_4_1.High]),(0,.var 43 [jI r0_3.Top,jI r0_3.Bottom])] 2 0) ?_
            refine Fi (sT [(80,.d (.bool (decide (r0_5_1≠6))))] [] 2 0) ?_
            obtain rfl:=Option.some.inj h
            exact hK_17 _ (Can.kp (by kernel_rfl))
  ·refine AW.cond rfl (fun hb_30=>?_) (fun hb_30=>?_)
   ·have h:=ifT hb_30 h
    refine Sa (sT [(0,.d (.bool false))] [] 2 0) ?_
    obtain rfl:=Option.some.inj h
    obtain rfl:=Aft.bk hk_16
    exact rT hR_0 (.cons (.tmp rfl) .nil)
   ·have h:=ifF hb_30 h
    refine AW.skip ?_
    obtain rfl:=Option.some.inj h
    exact hK_16 _ _ rfl (Can.kp (by kernel_rfl))
 ·subst hj_16
  have h:=Aft.nx hk_16
  refine AW.srwK (fun Q_31 hQ_31=>?_)
  obtain ⟨r0_9,hx_32,h⟩:=bsome h
  refine rC (k6 _ hx_32) ?_
  obtain ⟨⟨r0_4_2,r1_5_3⟩,hx_33,h⟩:=bsome h
  refine rC (k18 r0_9 _ hx_33) ?_
  refine Au 5 (sT [(2,jI r1_5_3),(11,jI r0_4_2)] [] 2 0) ?_
  refine RW.nil (hQ_31 _ ?_)
  refine AW.srwK (fun Q_34 hQ_34=>?_)
  obtain ⟨r0_3_1,hx_35,h⟩:=bsome h
  refine rC (k21 _ hx_35) ?_
  obtain ⟨⟨r0_2_1,r1_2⟩,hx_36,h⟩:=bsome h
  refine rC (k19 r0_3_1 _ hx_36) ?_
  refine Au 5 (sT [(2,jI r1_5_3),(4,jI r1_2),(11,jI r0_4_2),(12,.d (.sl 1 (List.map e3 r0_2_1)))] [] 2 0) ?_
  refine RW.nil (hQ_34 _ ?_)
  refine AW.srwK (fun Q_37 hQ_37=>?_)
  obtain ⟨r0_10,hx_38,h⟩:=bsome h
  refine rC (k6 _ hx_38) ?_
  obtain ⟨⟨r0_4_3,r1_4_1⟩,hx_39,h⟩:=bsome h
  refine rC (k14 r0_10 19 _ hx_39) ?_
  refine Au 5 (sT [(2,jI r1_5_3),(4,jI r1_2),(6,jI r1_4_1),(11,jI r0_4_2),(12,.d (.sl 1 (List.map e3 r0_2_1))),(13,.d (.bool r0_4_3))] [] 2 0) ?_
  refine RW.nil (hQ_37 _ ?_)
  refine AW.srwK (fun Q_40 hQ_40=>?_)
  obtain ⟨r0_11,hx_41,h⟩:=bsome h
  refine rC (k6 _ hx_41) ?_
  obtain ⟨⟨r0_1_2,r1_1⟩,hx_42,h⟩:=bsome h
  refine rC (k11 r0_11 _ hx_42) ?_
  refine Au 5 (sT [(2,jI r1_5_3),(4,jI r1_2),(6,jI r1_4_1),(8,jI r1_1),(11,jI r0_4_2),(12,.d (.sl 1 (List.map e3 r0_2_1))),(13,.d (.bool r0_4_3)),(14,.d (.bool r0_1_2))] [] 2 0) ?_
  refine RW.nil (hQ_40 _ ?_)
  refine AW.srwK (fun Q_43 hQ_43=>?_)
  obtain ⟨r0_1_3,hx_44,h⟩:=bsome h
  refine rC (k7 _ hx_44) ?_
  obtain ⟨⟨r0_3_2,r1_4_2⟩,hx_45,h⟩:=bsome h
  refine rC (k13 r0_1_3 30 (-8) _ hx_45) ?_
  refine Au 6 (sT [(2,jI r1_5_3),(4,jI r1_2),(6,jI r1_4_1),(8,jI r1_1),(10,jI r1_4_2),(11,jI r0_4_2),(12,.d (.sl 1 (List.map e3 r0_2_1))),(13,.d (.bool r0_4_3)),(14,.d (.bool r0_1_2)),pR 15 2] [(2,.var 43 [jI r0_3_2.Top,jI r0_3_2.Bottom])] 3 0) ?_
  refine RW.nil (hQ_43 _ ?_)
  obtain ⟨t,hx_46,h⟩:=bsome h
  refine AW.jnSK (fun (t:Bool)=>(sT [(0,.d (.bool t))] [] 3 0)) (c:=t) (fun K_46 hK_46=>?_) ?_
  ·have h:=hx_46
   refine AW.drw fokW ?_
   refine aX 3 (sT [(4,jI r1_2),(6,jI r1_4_1),(8,jI r1_1),(10,jI r1_4_2),(11,jI r0_4_2),(12,.d (.sl 1 (List.map e3 r0_2_1))),(13,.d (.bool r0_4_3)),(14,.d (.bool r0_1_2)),pR 15 2,(108,.d (.bool (decide (r1_5_3=0))))] [(2,.var 43 [jI r0_3_2.Top,jI r0_3_2.Bottom])] 3 0) ?_
   refine r_split 108 rfl (fun hb_48=>?_) (fun hb_48=>?_)
   ·have h:=ifT hb_48 h
    refine aX 4 (sT [(6,jI r1_4_1),(8,jI r1_1),(10,jI r1_4_2),(11,jI r0_4_2),(12,.d (.sl 1 (List.map e3 r0_2_1))),(13,.d (.bool r0_4_3)),(14,.d (.bool r0_1_2)),pR 15 2,(112,.d (.bool (decide (r1_2=0))))] [(2,.var 43 [jI r0_3_2.Top,jI r0_3_2.Bottom])] 3 0) ?_
    refine r_split 112 rfl (fun hb_49=>?_) (fun hb_49=>?_)
    ·have h:=ifT hb_49 h
     refine aX 4 (sT [(8,jI r1_1),(10,jI r1_4_2),(11,jI r0_4_2),(12,.d (.sl 1 (List.map e3 r0_2_1))),(13,.d (.bool r0_4_3)),(14,.d (.bool r0_1_2)),pR 15 2,(116,.d (.bool (decide (r1_4_1=0))))] [(2,.var 43 [jI r0_3_2.Top,jI r0_3_2.Bottom])] 3 0) ?_
     refine r_split 116 rfl (fun hb_50=>?_) (fun hb_50=>?_)
     ·have h:=ifT hb_50 h
      refine aX 4 (sT [(10,jI r1_4_2),(11,jI r0_4_2),(12,.d (.sl 1 (List.map e3 r0_2_1))),(13,.d (.bool r0_4_3)),(14,.d (.bool r0_1_2)),pR 15 2,(120,.d (.bool (decide (r1_1=0))))] [(2,.var 43 [jI r0_3_2.Top,jI r0_3_2.Bottom])] 3 0) ?_
      refine r_split 120 rfl (fun hb_51=>?_) (fun hb_51=>?_)
      ·have h:=ifT hb_51 h
       refine aX 4 (sT [(11,jI r0_4_2),(12,.d (.sl 1 (List.map e3 r0_2_1))),(13,.d (.bool r0_4_3)),(14,.d (.bool r0_1_2)),pR 15 2,(124,.d (.bool (decide (r1_4_2=0))))] [(2,.var 43 [jI r0_3_2.Top,jI r0_3_2.Bottom])] 3 0) ?_
       refine r_split 124 rfl (fun hb_52=>?_) (fun hb_52=>?_)
       ·have h:=ifT hb_52 h
        refine aX 4 (sT [(12,.d (.sl 1 (List.map e3 r0_2_1))),(13,.d (.bool r0_4_3)),(14,.d (.bool r0_1_2)),pR 15 2,(128,.d (.bool (decide (r0_4_2=2))))] [(2,.var 43 [jI r0_3_2.Top,jI r0_3_2.Bottom])] 3 0) ?_
        refine r_split 128 rfl (fun hb_53=>?_) (fun hb_53=>?_)
        ·have h:=ifT hb_53 h
         refine aX 2 (sT [(13,.d (.bool r0_4_3)),(14,.d (.bool r0_1_2)),pR 15 2,(128,.d (.bool true)),(129,.d (.sl 1 (List.map e3 r0_2_1))),(130,.own 3 (List.map e3 [0]).length)] [(3,.row 3 1 (List.map e3 [0])),(2,.var 43 [jI r0_3_2.Top,jI r0_3_2.Bottom])] 4 0) ?_
         obtain ⟨r0_12,hx_54,h⟩:=bsome h
         refine r_callF (rs:=[(3,.row 3 1 (List.map e3 [0]))]) rfl rfl (k37 r0_2_1 [0] _ hx_54) ⟨rfl,trivial⟩ ⟨.refl _,(.own rfl rfl),trivial⟩ rfl rfl rfl ?_
         refine aX 2 (sT [(13,.d (.bool r0_4_3)),(14,.d (.bool r0_1_2)),pR 15 2,(133,.d (.bool r0_12))] [(3,.row 3 1 (List.map e3 [0])),(2,.var 43 [jI r0_3_2.Top,jI r0_3_2.Bottom])] 4 0) ?_
         refine r_split 133 rfl (fun hb_55=>?_) (fun hb_55=>?_)
         ·have h:=ifT hb_55 h
          refine aX 3 (sT [(14,.d (.bool r0_1_2)),pR 15 2,(136,.d (.bool r0_4_3))] [(3,.row 3 1 (List.map e3 [0])),(2,.var 43 [jI r0_3_2.Top,jI r0_3_2.Bottom])] 4 0) ?_
          refine r_split 136 rfl (fun hb_56=>?_) (fun hb_56=>?_)
          ·have h:=ifT hb_56 h
           refine aX 3 (sT [pR 15 2,(139,.d (.bool r0_1_2))] [(3,.row 3 1 (List.map e3 [0])),(2,.var 43 [jI r0_3_2.Top,jI r0_3_2.Bottom])] 4 0) ?_
           refine r_split 139 rfl (fun hb_57=>?_) (fun hb_57=>?_)
           ·have h:=ifT hb_57 h
            refine aX 1 (sT [(139,.d (.bool true)),(140,.agg [jI r0_3_2.Top,jI r0_3_2.Bottom])] [(3,.row 3 1 (List.map e3 [0])),(2,.var 43 [jI r0_3_2.Top,jI r0_3_2.Bottom])] 4 0) ?_
            obtain ⟨r0_13,hx_58,h⟩:=bsome h
            refine r_call rfl rfl (k23 (-200) 9 _ hx_58) rfl rfl ?_
            refine r_aeq rfl rfl rfl rfl rfl ft43 rfl rfl rfl ?_
            refine aX 2 (sT [(0,.d (.bool (false != ((r0_3_2.Top==r0_13.Top)&&((r0_3_2.Bottom==r0_13.Bottom)&&true)))))] [(3,.row 3 1 (List.map e3 [0])),(2,.var 43 [jI r0_3_2.Top,jI r0_3_2.Bottom])] 4 0) ?_
            refine Fi (sT [(0,.d (.bool (false != ((r0_3_2.Top==r0_13.Top)&&((r0_3_2.Bottom==r0_13.Bottom)&&true)))))] [] 4 0) ?_
            obtain rfl:=Option.some.inj h
            exact hK_46 _ (Can.kp (by kernel_rfl))
           ·have h:=ifF hb_57 h
            refine aX 5 (sT [(0,.d (.bool false))] [(3,.row 3 1 (List.map e3 [0])),(2,.var 43 [jI r0_3_2.Top,jI r0_3_2.Bottom])] 4 0) ?_
            refine Fi (sT [(0,.d (.bool false))] [] 4 0) ?_
            obtain rfl:=Option.some.inj h
            exact hK_46 _ (Can.kp (by kernel_rfl))
          ·have h:=ifF hb_56 h
           refine aX 8 (sT [(0,.d (.bool false))] [(3,.row 3 1 (List.map e3 [0])),(2,.var 43 [jI r0_3_2.Top,jI r0_3_2.Bottom])] 4 0) ?_
           refine Fi (sT [(0,.d (.bool false))] [] 4 0) ?_
           obtain rfl:=Option.some.inj h
           exact hK_46 _ (Can.kp (by kernel_rfl))
         ·have h:=ifF hb_55 h
          refine aX 11 (sT [(0,.d (.bool false))] [(3,.row 3 1 (List.map e3 [0])),(2,.var 43 [jI r0_3_2.Top,jI r0_3_2.Bottom])] 4 0) ?_
          refine Fi (sT [(0,.d (.bool false))] [] 4 0) ?_
          obtain rfl:=Option.some.inj h
          exact hK_46 _ (Can.kp (by kernel_rfl))
        ·have h:=ifF hb_53 h
         refine aX 16 (sT [(0,.d (.bool false))] [(2,.var 43 [jI r0_3_2.Top,jI r0_3_2.Bottom])] 3 0) ?_
         refine Fi (sT [(0,.d (.bool false))] [] 3 0) ?_
         obtain rfl:=Option.some.inj h
         exact hK_46 _ (Can.kp (by kernel_rfl))
       ·have h:=ifF hb_52 h
        refine aX 20 (sT [(0,.d (.bool false))] [(2,.var 43 [jI r0_3_2.Top,jI r0_3_2.Bottom])] 3 0) ?_
        refine Fi (sT [(0,.d (.bool false))] [] 3 0) ?_
        obtain rfl:=Option.some.inj h
        exact hK_46 _ (Can.kp (by kernel_rfl))
      ·have h:=ifF hb_51 h
       refine aX 24 (sT [(0,.d (.bool false))] [(2,.var 43 [jI r0_3_2.Top,jI r0_3_2.Bottom])] 3 0) ?_
       refine Fi (sT [(0,.d (.bool false))] [] 3 0) ?_
       obtain rfl:=Option.some.inj h
       exact hK_46 _ (Can.kp (by kernel_rfl))
     ·have h:=ifF hb_50 h
      refine aX 28 (sT [(0,.d (.bool false))] [(2,.var 43 [jI r0_3_2.Top,jI r0_3_2.Bottom])] 3 0) ?_
      refine Fi (sT [(0,.d (.bool false))] [] 3 0) ?_
      obtain rfl:=Option.some.inj h
      exact hK_46 _ (Can.kp (by kernel_rfl))
    ·have h:=ifF hb_49 h
     refine aX 32 (sT [(0,.d (.bool false))] [(2,.var 43 [jI r0_3_2.Top,jI r0_3_2.Bottom])] 3 0) ?_
     refine Fi (sT [(0,.d (.bool false))] [] 3 0) ?_
     obtain rfl:=Option.some.inj h
     exact hK_46 _ (Can.kp (by kernel_rfl))
   ·have h:=ifF hb_48 h
    refine aX 36 (sT [(0,.d (.bool false))] [(2,.var 43 [jI r0_3_2.Top,jI r0_3_2.Bottom])] 3 0) ?_
    refine Fi (sT [(0,.d (.bool false))] [] 3 0) ?_
    obtain rfl:=Option.some.inj h
    exact hK_46 _ (Can.kp (by kernel_rfl))
  ·obtain rfl:=Option.some.inj h
   exact rT hR_0 (.cons (.tmp rfl) .nil)
end Go.Proofs.Tk
