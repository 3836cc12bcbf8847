/- Told functions, and that the program does so, part 3. Conditions: none. -/
import Derived.Test.YthjogmcdfokihaaDoorTdb
set_option linter.unusedVariables false
set_option linter.unusedSimpArgs false
namespace Go.Proofs.Tp
open Go Go.Abs Go.Proofs
def g34 (b_HairBook:HairBook) (mf:List (Hair_dye×Span)) (o0:(List Int)):Option Bool:=(g35 b_HairBook mf o0).bind fun r0_1=>(bif r0_1 then ((g36 b_HairBook mf o0).bind fun r0_4=>some r0_4) else (some false)).bind fun v=>some v
theorem k34 (b_HairBook:HairBook) (mf:List (Hair_dye×Span)) (o0:(List Int)) (r:Bool) (h:g34 b_HairBook mf o0=some r):SCall Tryd.prog Gs 34 [.agg [.d (.sl 4 (List.map e62 b_HairBook.Hanks)),.d (.sl 3 (List.map e64 b_HairBook.Horses)),jI b_HairBook.Dark,jI b_HairBook.Near,jI b_HairBook.Match,.fmp (List.map m107_47 mf)],.ptr 0 0] [(0,.var 33 [.d (.sl 1 (List.map e3 o0))])] 1 Fr.emp (.d (.bool r)) [(0,.var 33 [.d (.sl 1 (List.map e3 o0))])] 1 Fr.emp:=by
 unfold g34 at h
 refine SCall.mkK Tryd.func34 c34 rfl rfl (by kernel_rfl) (fun Q_0 hR_0 hN_0=>?_)
 refine Sa (sT [pR 1 0,pR 2 1] [(1,.var 81 (catV (cv39 b_HairBook) [.fmp (List.map m107_47 mf)])),(0,.var 33 [.d (.sl 1 (List.map e3 o0))])] 2 1) ?_
 refine AW.srwK (fun Q_1 hQ_1=>?_)
 refine Au 2 (sT [pR 1 0,pR 2 1,(4,.agg [.d (.sl 4 (List.map e62 b_HairBook.Hanks)),.d (.sl 3 (List.map e64 b_HairBook.Horses)),jI b_HairBook.Dark,jI b_HairBook.Near,jI b_HairBook.Match,.fmp (List.map m107_47 mf)]),(5,.d (.sl 1 (List.map e3 o0)))] [(1,.var 81 (catV (cv39 b_HairBook) [.fmp (List.map m107_47 mf)])),(0,.var 33 [.d (.sl 1 (List.map e3 o0))])] 2 1) ?_
 obtain ⟨r0_1,hx_2,h⟩:=bsome h
 refine rC (k35 b_HairBook mf o0 _ hx_2) ?_
 refine Au 1 (sT [pR 1 0,pR 2 1,(7,.d (.bool r0_1))] [(1,.var 81 (catV (cv39 b_HairBook) [.fmp (List.map m107_47 mf)])),(0,.var 33 [.d (.sl 1 (List.map e3 o0))])] 2 1) ?_
 obtain ⟨v,hx_3,h⟩:=bsome h
 refine RW.cut fokW 4 ((sT [(11,.d (.bool v))] [(0,.var 33 [.d (.sl 1 (List.map e3 o0))])] 2 1)) ?_ ?_
 ·refine r_split 7 rfl (fun hb_5=>?_) (fun hb_5=>?_)
  ·have h:=ifT hb_5 hx_3
   refine aX 2 (sT [(7,.d (.bool true)),(8,.agg [.d (.sl 4 (List.map e62 b_HairBook.Hanks)),.d (.sl 3 (List.map e64 b_HairBook.Horses)),jI b_HairBook.Dark,jI b_HairBook.Near,jI b_HairBook.Match,.fmp (List.map m107_47 mf)]),(9,.d (.sl 1 (List.map e3 o0)))] [(1,.var 81 (catV (cv39 b_HairBook) [.fmp (List.map m107_47 mf)])),(0,.var 33 [.d (.sl 1 (List.map e3 o0))])] 2 1) ?_
   obtain ⟨r0_4,hx_4,h⟩:=bsome h
   refine r_call rfl rfl (k36 b_HairBook mf o0 _ hx_4) rfl rfl ?_
   refine aX 1 (sT [(11,.d (.bool r0_4))] [(1,.var 81 (catV (cv39 b_HairBook) [.fmp (List.map m107_47 mf)])),(0,.var 33 [.d (.sl 1 (List.map e3 o0))])] 2 1) ?_
   obtain rfl:=Option.some.inj h
   refine RunC.finJ (Can.kp (by kernel_rfl))
  ·have h:=ifF hb_5 hx_3
   refine aX 4 (sT [(11,.d (.bool false))] [(1,.var 81 (catV (cv39 b_HairBook) [.fmp (List.map m107_47 mf)])),(0,.var 33 [.d (.sl 1 (List.map e3 o0))])] 2 1) ?_
   obtain rfl:=Option.some.inj h
   refine RunC.finJ (Can.kp (by kernel_rfl))
 ·refine Au 1 (sT [(3,.d (.bool v))] [(0,.var 33 [.d (.sl 1 (List.map e3 o0))])] 2 1) ?_
  refine RW.nil (hQ_1 _ ?_)
  obtain rfl:=Option.some.inj h
  exact rT hR_0 (.cons (.tmp rfl) .nil)
def g33 (x:HairBook) (o0:(List Int)):Option (Ctl (HairBook×Int) (HairBook×(List (Hair_dye×Span))×Int)):=(g30 x).bind fun r0_9=>bif (decide (r0_9≠0)) then (some (.next ((HairBook.mk [] [] 0 0 0),r0_9))) else ((g31 x).bind fun (r0_HairBook,mf)=>(g34 r0_HairBook mf o0).bind fun r0=>bif (!r0) then (some (.brk (r0_HairBook,mf,61))) else (some (.brk (r0_HairBook,mf,0))))
def y27 (o0:(List Int)):List (Nat×Blk):=[(2,.var 81 [.d (.nilSl),.d (.nilSl),jI 0,jI 0,jI 0,.d (.nilMap)]),(0,.var 33 [.d (.sl 1 (List.map e3 o0))])]
theorem k33 (x:HairBook) (o0:(List Int)) (r:Ctl (HairBook×Int) (HairBook×(List (Hair_dye×Span))×Int)) (h:g33 x o0=some r):SCall Tryd.prog Gs 33 [.agg [.d (.sl 4 (List.map e62 x.Hanks)),.d (.sl 3 (List.map e64 x.Horses)),jI x.Dark,jI x.Near,jI x.Match],.clo 34 [] [.ptr 0 0]] [(0,.var 33 [.d (.sl 1 (List.map e3 o0))])] 1 Fr.emp (match r with | .next (r0_HairBook4,r1_1)=>.tup [.agg [.d (.sl 4 (List.map e62 r0_HairBook4.Hanks)),.d (.sl 3 (List.map e64 r0_HairBook4.Horses)),jI r0_HairBook4.Dark,jI r0_HairBook4.Near,jI r0_HairBook4.Match,.d (.nilMap)],jI r1_1] | .brk (r0_HairBook5,mf2,r1_2)=>.tup [.agg [.d (.sl 4 (List.map e62 r0_HairBook5.Hanks)),.d (.sl 3 (List.map e64 r0_HairBook5.Horses)),jI r0_HairBook5.Dark,jI r0_HairBook5.Near,jI r0_HairBook5.Match,.fmp (List.map m107_47 mf2)],jI r1_2]) (match r with | .next (r0_HairBook4,r1_1)=>[(0,.var 33 [.d (.sl 1 (List.map e3 o0))])] | .brk (r0_HairBook5,mf2,r1_2)=>[(0,.var 33 [.d (.sl 1 (List.map e3 o0))])]) 1 Fr.emp:=by
 unfold g33 at h
 refine SCall.mkK Tryd.func33 c33 rfl (by rcases r with _ | _<;>rfl) (by rcases r with _ | _<;>kernel_rfl) (fun Q_0 hR_0 hN_0=>?_)
 refine Sa (sT [(1,.clo 34 [] [.ptr 0 0]),pR 2 1,pR 4 2] [(2,.var 81 [.d (.nilSl),.d (.nilSl),jI 0,jI 0,jI 0,.d (.nilMap)]),(1,.var 39 (cv39 x)),(0,.var 33 [.d (.sl 1 (List.map e3 o0))])] 3 1) ?_
 refine AW.seqK fun K_1 hK_1=>AW.srwK fun Q_2 hQ_2=>?_
 refine Au 1 (sT [(1,.clo 34 [] [.ptr 0 0]),pR 2 1,pR 4 2,(8,.agg [.d (.sl 4 (List.map e62 x.Hanks)),.d (.sl 3 (List.map e64 x.Horses)),jI x.Dark,jI x.Near,jI x.Match])] [(2,.var 81 [.d (.nilSl),.d (.nilSl),jI 0,jI 0,jI 0,.d (.nilMap)]),(1,.var 39 (cv39 x)),(0,.var 33 [.d (.sl 1 (List.map e3 o0))])] 3 1) ?_
 obtain ⟨r0_9,hx_3,h⟩:=bsome h
 refine rC (k30 x _ hx_3) ?_
 refine Au 1 (sT [(1,.clo 34 [] [.ptr 0 0]),pR 2 1,pR 4 2,(6,jI r0_9)] [(2,.var 81 [.d (.nilSl),.d (.nilSl),jI 0,jI 0,jI 0,.d (.nilMap)]),(1,.var 39 (cv39 x)),(0,.var 33 [.d (.sl 1 (List.map e3 o0))])] 3 1) ?_
 refine RW.nil (hQ_2 _ ?_)
 refine Sa (sT [(1,.clo 34 [] [.ptr 0 0]),pR 2 1,pR 4 2,(6,jI r0_9),(11,.d (.bool (decide (r0_9≠0))))] [(2,.var 81 [.d (.nilSl),.d (.nilSl),jI 0,jI 0,jI 0,.d (.nilMap)]),(1,.var 39 (cv39 x)),(0,.var 33 [.d (.sl 1 (List.map e3 o0))])] 3 1) ?_
 refine AW.cond rfl (fun hb_4=>?_) (fun hb_4=>?_)
 ·have h:=ifT hb_4 h
  refine Sa (sT [pR 4 2,(5,jI r0_9)] (y27 o0) 3 1) ?_
  obtain rfl:=Option.some.inj h
  exact AW.ret (hR_0 _ (retX (.cons (.agg rfl rfl (Nat.le_of_ble_eq_true rfl)) (.cons (.tmp rfl) .nil)) (Frz.tup_of ⟨Frz.agg_of ⟨(.nil 4),(.nil 3),.refl _,.refl _,.refl _,.refl _,trivial⟩,.refl _,trivial⟩) rfl (by kernel_rfl) (by kernel_rfl)))
 ·have h:=ifF hb_4 h
  refine AW.skip (hK_1 _ ?_)
  refine AW.srwK (fun Q_5 hQ_5=>?_)
  refine Au 1 (sT [(1,.clo 34 [] [.ptr 0 0]),pR 4 2,(14,.agg [.d (.sl 4 (List.map e62 x.Hanks)),.d (.sl 3 (List.map e64 x.Horses)),jI x.Dark,jI x.Near,jI x.Match])] (y27 o0) 3 1) ?_
  obtain ⟨⟨r0_HairBook,mf⟩,hx_6,h⟩:=bsome h
  refine rC (k31 x _ hx_6) ?_
  refine Au 2 (sT [(1,.clo 34 [] [.ptr 0 0]),pR 4 2,pR 7 3] [(3,.var 81 (catV (cv39 r0_HairBook) [.fmp (List.map m107_47 mf)])),(2,.var 81 [.d (.nilSl),.d (.nilSl),jI 0,jI 0,jI 0,.d (.nilMap)]),(0,.var 33 [.d (.sl 1 (List.map e3 o0))])] 4 1) ?_
  refine RW.nil (hQ_5 _ ?_)
  refine AW.seqK fun K_7 hK_7=>AW.srwK fun Q_8 hQ_8=>?_
  refine Au 2 (sT [pR 4 2,pR 7 3,(16,.clo 34 [] [.ptr 0 0]),(17,.agg [.d (.sl 4 (List.map e62 r0_HairBook.Hanks)),.d (.sl 3 (List.map e64 r0_HairBook.Horses)),jI r0_HairBook.Dark,jI r0_HairBook.Near,jI r0_HairBook.Match,.fmp (List.map m107_47 mf)])] [(3,.var 81 (catV (cv39 r0_HairBook) [.fmp (List.map m107_47 mf)])),(2,.var 81 [.d (.nilSl),.d (.nilSl),jI 0,jI 0,jI 0,.d (.nilMap)]),(0,.var 33 [.d (.sl 1 (List.map e3 o0))])] 4 1) ?_
  obtain ⟨r0,hx_9,h⟩:=bsome h
  refine RW.one fokW (r_callvE (zr:=[]) [0] trivial rfl (.clo _ _ _) (by kernel_rfl) rfl (k34 r0_HairBook mf o0 _ hx_9) ⟨rfl,trivial⟩ rfl rfl ⟨.refl _,.refl _,trivial⟩ rfl rfl rfl (r_end ?_))
  refine Au 1 (sT [pR 4 2,pR 7 3,(19,.d (.bool (!r0)))] [(0,.var 33 [.d (.sl 1 (List.map e3 o0))]),(3,.var 81 (catV (cv39 r0_HairBook) [.fmp (List.map m107_47 mf)])),(2,.var 81 [.d (.nilSl),.d (.nilSl),jI 0,jI 0,jI 0,.d (.nilMap)])] 4 1) ?_
  refine RW.nil (hQ_8 _ ?_)
  refine AW.cond rfl (fun hb_10=>?_) (fun hb_10=>?_)
  ·have h:=ifT hb_10 h
   refine Sa (sT [pR 4 2,(5,jI 61)] [(2,.var 81 (catV (cv39 r0_HairBook) [.fmp (List.map m107_47 mf)])),(0,.var 33 [.d (.sl 1 (List.map e3 o0))])] 4 1) ?_
   obtain rfl:=Option.some.inj h
   exact rT hR_0 (.cons (.agg rfl rfl (Nat.le_of_ble_eq_true rfl)) (.cons (.tmp rfl) .nil))
  ·have h:=ifF hb_10 h
   refine AW.skip (hK_7 _ ?_)
   refine Sa (sT [pR 4 2,(5,jI 0)] [(2,.var 81 (catV (cv39 r0_HairBook) [.fmp (List.map m107_47 mf)])),(0,.var 33 [.d (.sl 1 (List.map e3 o0))])] 4 1) ?_
   obtain rfl:=Option.some.inj h
   exact rT hR_0 (.cons (.agg rfl rfl (Nat.le_of_ble_eq_true rfl)) (.cons (.tmp rfl) .nil))
def g38a_7 (cut:(Nat→Int)):Int→HairHank→Int→Option Int:=fun v p n=>(ixN 5 v).bind fun j=>bif (decide (0<(cut j))) then ((g60 p.Weight).bind fun r0_1=>(ixN 5 v).bind fun j1=>some (wr (n+(wr (r0_1 - (cut j1)))))) else (some n)
def g38a (b_HairBook:HairBook) (mf:List (Hair_dye×Span)) (cut:(Nat→Int)):Option Int:=(g59).bind fun r0=>bif (false != (((cut 0)==(r0 0))&&(((cut 1)==(r0 1))&&(((cut 2)==(r0 2))&&(((cut 3)==(r0 3))&&(((cut 4)==(r0 4))&&true)))))) then (some 0) else ((eachS (g38a_7 cut) b_HairBook.Hanks 0 0).bind fun n=>some n)
def y28 (cut:(Nat→Int)):List (Nat×Blk):=[(2,.var 94 [.d (.fn 60)]),(1,.var 89 [jI (cut 0),jI (cut 1),jI (cut 2),jI (cut 3),jI (cut 4)])]
theorem k38a (b_HairBook:HairBook) (mf:List (Hair_dye×Span)) (cut:(Nat→Int)) (r:Int) (h:g38a b_HairBook mf cut=some r):SCall Tryd.prog Gs 38 [.agg [.d (.sl 4 (List.map e62 b_HairBook.Hanks)),.d (.sl 3 (List.map e64 b_HairBook.Horses)),jI b_HairBook.Dark,jI b_HairBook.Near,jI b_HairBook.Match,.fmp (List.map m107_47 mf)],.agg [jI (cut 0),jI (cut 1),jI (cut 2),jI (cut 3),jI (cut 4)],.agg [.d (.fn 60)]] [] 0 Fr.emp (jI r) [] 0 Fr.emp:=by
 unfold g38a at h
 refine SCall.mkK Tryd.func38 c38 rfl rfl (by kernel_rfl) (fun Q_0 hR_0 hN_0=>?_)
 refine Sa (sT [pR 3 0,pR 4 1,pR 5 2] [(2,.var 94 [.d (.fn 60)]),(1,.var 89 [jI (cut 0),jI (cut 1),jI (cut 2),jI (cut 3),jI (cut 4)]),(0,.var 81 (catV (cv39 b_HairBook) [.fmp (List.map m107_47 mf)]))] 3 0) ?_
 refine Sa (sT [pR 3 0,pR 4 1,pR 5 2,(7,jI 0)] [(2,.var 94 [.d (.fn 60)]),(1,.var 89 [jI (cut 0),jI (cut 1),jI (cut 2),jI (cut 3),jI (cut 4)]),(0,.var 81 (catV (cv39 b_HairBook) [.fmp (List.map m107_47 mf)]))] 3 0) ?_
 refine AW.seqK (fun K_1 hK_1=>?_)
 refine AW.sdrwK fokW (fun Q_2 hQ_2=>?_)
 refine aX 1 (sT [pR 3 0,pR 4 1,pR 5 2,(7,jI 0),(10,.agg [jI (cut 0),jI (cut 1),jI (cut 2),jI (cut 3),jI (cut 4)])] [(2,.var 94 [.d (.fn 60)]),(1,.var 89 [jI (cut 0),jI (cut 1),jI (cut 2),jI (cut 3),jI (cut 4)]),(0,.var 81 (catV (cv39 b_HairBook) [.fmp (List.map m107_47 mf)]))] 3 0) ?_
 obtain ⟨r0,hx_3,h⟩:=bsome h
 refine r_call trivial rfl (k59 _ hx_3) rfl rfl ?_
 refine r_aeq trivial rfl rfl rfl rfl ft89 rfl rfl rfl ?_
 refine Fi (sT [pR 3 0,pR 4 1,pR 5 2,(7,jI 0),(12,.d (.bool (false != (((cut 0)==(r0 0))&&(((cut 1)==(r0 1))&&(((cut 2)==(r0 2))&&(((cut 3)==(r0 3))&&(((cut 4)==(r0 4))&&true))))))))] [(2,.var 94 [.d (.fn 60)]),(1,.var 89 [jI (cut 0),jI (cut 1),jI (cut 2),jI (cut 3),jI (cut 4)]),(0,.var 81 (catV (cv39 b_HairBook) [.fmp (List.map m107_47 mf)]))] 3 0) ?_
 refine hQ_2 _ ?_
 refine AW.cond rfl (fun hb_4=>?_) (fun hb_4=>?_)
 ·have h:=ifT hb_4 h
  refine Sa (sT [(6,jI 0)] [] 3 0) ?_
  obtain rfl:=Option.some.inj h
  exact rT hR_0 (.cons (.tmp rfl) .nil)
 ·have h:=ifF hb_4 h
  refine AW.skip (hK_1 _ ?_)
  refine AW.seqK fun K_5 hK_5=>AW.srwK fun Q_6 hQ_6=>?_
  refine Au 3 (sT [pR 4 1,pR 5 2,(7,jI 0),(16,.d (.sl 4 (List.map e62 b_HairBook.Hanks)))] (y28 cut) 3 0) ?_
  refine rL rfl ?_
  refine Au 1 (sT [pR 4 1,pR 5 2,(7,jI 0),(16,.d (.sl 4 (List.map e62 b_HairBook.Hanks))),(17,jI (b_HairBook.Hanks.length:Int)),(18,jI 0)] (y28 cut) 3 0) ?_
  refine RW.nil (hQ_6 _ ?_)
  refine AW.block ?_
  refine AW.sln (t:=16) rfl (fun hN_7=>?_)
  rw [List.length_map] at hN_7
  obtain ⟨out_7,hx_7,h⟩:=bsome h
  refine AW.evSK (fun (v:Int) (n:Int)=>(sT [pR 4 1,pR 5 2,(7,jI n),(16,.d (.sl 4 (List.map e62 b_HairBook.Hanks))),(17,jI (b_HairBook.Hanks.length:Int)),(18,jI v)] (y28 cut) 3 0)) (g38a_7 cut) hx_7 (Can.kp (by kernel_rfl)) (fun v p n hi_7 hl_7 hp_7 c_7 h K_7 hK_7=>?_) (fun v n hi_7 hl_7 hout=>?_)
  ·unfold g38a_7 at h
   refine Sa (sT [pR 4 1,pR 5 2,(7,jI n),(16,.d (.sl 4 (List.map e62 b_HairBook.Hanks))),(17,jI (b_HairBook.Hanks.length:Int)),(18,jI v),(19,.d (.bool (decide (v<(b_HairBook.Hanks.length:Int)))))] (y28 cut) 3 0) ?_
   refine AW.seqK (fun K_8 hK_8=>?_)
   refine AW.cond rfl (fun hb_9=>?_) (fun hb_9=>False.elim (by have:=of_decide_eq_false hb_9;omega))
   refine AW.skip (hK_8 _ ?_)
   refine AW.seqK (fun K_10 hK_10=>?_)
   refine AW.block ?_
   refine AW.srwK (fun Q_11 hQ_11=>?_)
   refine Au 1 (sT [pR 4 1,pR 5 2,(7,jI n),(16,.d (.sl 4 (List.map e62 b_HairBook.Hanks))),(17,jI (b_HairBook.Hanks.length:Int)),(18,jI v),(20,jI v)] (y28 cut) 3 0) ?_
   refine RW.one fokW (r_iaD trivial rfl rfl hi_7 (row:=e62 p) (mapget hp_7) (r_end ?_))
   refine Au 4 (sT [pR 4 1,pR 5 2,(7,jI n),(8,jI v),pR 9 3,(16,.d (.sl 4 (List.map e62 b_HairBook.Hanks))),(17,jI (b_HairBook.Hanks.length:Int)),(18,jI v)] [(3,.var 62 (cv62 p)),(2,.var 94 [.d (.fn 60)]),(1,.var 89 [jI (cut 0),jI (cut 1),jI (cut 2),jI (cut 3),jI (cut 4)])] 4 0) ?_
   refine RW.nil (hQ_11 _ ?_)
   refine AW.srwK (fun Q_12 hQ_12=>?_)
   refine Au 1 (sT [pR 4 1,pR 5 2,(7,jI n),(8,jI v),pR 9 3,(16,.d (.sl 4 (List.map e62 b_HairBook.Hanks))),(17,jI (b_HairBook.Hanks.length:Int)),(18,jI v),(23,jI v)] [(3,.var 62 (cv62 p)),(2,.var 94 [.d (.fn 60)]),(1,.var 89 [jI (cut 0),jI (cut 1),jI (cut 2),jI (cut 3),jI (cut 4)])] 4 0) ?_
   obtain ⟨j,hv_13,h⟩:=bsome h
   refine RW.one fokW (r_iaV trivial rfl rfl rfl (ixN_ok hv_13).1 (ixN_ok hv_13).2.1 (r_end ?_))
   refine RW.one fokW (r_loadV trivial rfl rfl (u:=jI (cut j)) (agt (f:=fun k=>jI (cut k)) hv_13) (r_end ?_))
   refine Au 1 (sT [pR 4 1,pR 5 2,(7,jI n),(8,jI v),pR 9 3,(16,.d (.sl 4 (List.map e62 b_HairBook.Hanks))),(17,jI (b_HairBook.Hanks.length:Int)),(18,jI v),(26,.d (.bool (decide (0<(cut j)))))] [(3,.var 62 (cv62 p)),(2,.var 94 [.d (.fn 60)]),(1,.var 89 [jI (cut 0),jI (cut 1),jI (cut 2),jI (cut 3),jI (cut 4)])] 4 0) ?_
   refine RW.nil (hQ_12 _ ?_)
   refine AW.cond rfl (fun hb_14=>?_) (fun hb_14=>?_)
   ·have h:=ifT hb_14 h
    refine AW.drw fokW ?_
    refine aX 5 (sT [pR 4 1,pR 5 2,(8,jI v),(16,.d (.sl 4 (List.map e62 b_HairBook.Hanks))),(17,jI (b_HairBook.Hanks.length:Int)),(18,jI v),(27,jI n),(29,.d (.fn 60)),(31,.agg [jI p.Weight.Low,jI p.Weight.High])] [(3,.var 62 (cv62 p)),(2,.var 94 [.d (.fn 60)]),(1,.var 89 [jI (cut 0),jI (cut 1),jI (cut 2),jI (cut 3),jI (cut 4)])] 4 0) ?_
    obtain ⟨r0_1,hx_16,h⟩:=bsome h
    refine r_callvZ (zr:=[]) trivial rfl (.fn _) (by kernel_rfl) rfl (k60 p.Weight _ hx_16) trivial ⟨.refl _,trivial⟩ rfl rfl rfl rfl ?_
    refine aX 1 (sT [pR 4 1,pR 5 2,(16,.d (.sl 4 (List.map e62 b_HairBook.Hanks))),(17,jI (b_HairBook.Hanks.length:Int)),(18,jI v),(27,jI n),(32,jI r0_1),(33,jI v)] [(3,.var 62 (cv62 p)),(2,.var 94 [.d (.fn 60)]),(1,.var 89 [jI (cut 0),jI (cut 1),jI (cut 2),jI (cut 3),jI (cut 4)])] 4 0) ?_
    obtain ⟨j1,hv_17,h⟩:=bsome h
    refine r_iaV trivial rfl rfl rfl (ixN_ok hv_17).1 (ixN_ok hv_17).2.1 ?_
    refine r_loadV trivial rfl rfl (u:=jI (cut j1)) (agt (f:=fun k=>jI (cut k)) hv_17) ?_
    refine aX 3 (sT [pR 4 1,pR 5 2,(7,jI (wr (n+(wr (r0_1 - (cut j1)))))),(16,.d (.sl 4 (List.map e62 b_HairBook.Hanks))),(17,jI (b_HairBook.Hanks.length:Int)),(18,jI v)] [(3,.var 62 (cv62 p)),(2,.var 94 [.d (.fn 60)]),(1,.var 89 [jI (cut 0),jI (cut 1),jI (cut 2),jI (cut 3),jI (cut 4)])] 4 0) ?_
    refine Fi (sT [pR 4 1,pR 5 2,(7,jI (wr (n+(wr (r0_1 - (cut j1)))))),(16,.d (.sl 4 (List.map e62 b_HairBook.Hanks))),(17,jI (b_HairBook.Hanks.length:Int)),(18,jI v)] (y28 cut) 4 0) ?_
    refine hK_10 _ ?_
    refine Ra (sT [pR 4 1,pR 5 2,(7,jI (wr (n+(wr (r0_1 - (cut j1)))))),(16,.d (.sl 4 (List.map e62 b_HairBook.Hanks))),(17,jI (b_HairBook.Hanks.length:Int)),(18,jI (wr (v+1)))] (y28 cut) 4 0) ?_
    obtain rfl:=Option.some.inj h
    have ew:wr (v+1)=v+1:=inext (N:=(b_HairBook.Hanks.length:Int)) (by omega) (by omega) (by omega)
    rw [ew]
    exact hK_7 _ (Can.kp (by kernel_rfl))
   ·have h:=ifF hb_14 h
    refine AW.skip (hK_10 _ ?_)
    refine Ra (sT [pR 4 1,pR 5 2,(7,jI n),(16,.d (.sl 4 (List.map e62 b_HairBook.Hanks))),(17,jI (b_HairBook.Hanks.length:Int)),(18,jI (wr (v+1)))] (y28 cut) 4 0) ?_
    obtain rfl:=Option.some.inj h
    have ew:wr (v+1)=v+1:=inext (N:=(b_HairBook.Hanks.length:Int)) (by omega) (by omega) (by omega)
    rw [ew]
    exact hK_7 _ (Can.kp (by kernel_rfl))
  ·subst hout
   refine Sa (sT [pR 4 1,pR 5 2,(7,jI n),(16,.d (.sl 4 (List.map e62 b_HairBook.Hanks))),(17,jI (b_HairBook.Hanks.length:Int)),(18,jI v),(19,.d (.bool (decide (v<(b_HairBook.Hanks.length:Int)))))] (y28 cut) 3 0) ?_
   refine AW.seqK (fun K_18 hK_18=>?_)
   refine AW.cond rfl (fun hb_19=>False.elim (by have:=of_decide_eq_true hb_19;omega)) (fun hb_19=>?_)
   refine AW.exit ?_
   refine hK_5 _ ?_
   refine Sa (sT [(6,jI n)] [] 3 0) ?_
   obtain rfl:=Option.some.inj h
   exact rT hR_0 (.cons (.tmp rfl) .nil)
def g13 (x:HairBook) (plan:(List Int)):Option (Span×Int):=(g33 x plan).bind fun r_15=>match r_15 with | .next (r0_HairBook4,r1_1)=>(must (decide (r1_1≠0))).bind fun _=>some ((Span.mk 0 0),r1_1) | .brk (r0_HairBook5,mf2,r1_2)=>bif (decide (r1_2≠0)) then (some ((Span.mk 0 0),r1_2)) else ((g37 r0_HairBook5 mf2 plan).bind fun r0_3=>(g39).bind fun _=>(g38a r0_HairBook5 mf2 r0_3).bind fun r0_3_1=>(g40).bind fun _=>(g38 r0_HairBook5 mf2 r0_3).bind fun r0_3_2=>some ((Span.mk r0_3_1 r0_3_2),0))
theorem k13 (x:HairBook) (plan:(List Int)) (r:Span×Int) (h:g13 x plan=some r):SCall Tryd.prog Gs 13 [.agg [.d (.sl 4 (List.map e62 x.Hanks)),.d (.sl 3 (List.map e64 x.Horses)),jI x.Dark,jI x.Near,jI x.Match],.d (.sl 1 (List.map e3 plan))] [] 0 Fr.emp (match r with | (r0_2,r1_4)=>.tup [.agg [jI r0_2.Low,jI r0_2.High],jI r1_4]) [] 0 Fr.emp:=by
 unfold g13 at h
 refine SCall.mkK Tryd.func13 c13 rfl rfl (by kernel_rfl) (fun Q_0 hR_0 hN_0=>?_)
 refine Sa (sT [pR 2 0,pR 3 1,pR 4 2] [(2,.var 47 [jI 0,jI 0]),(1,.var 33 [.d (.sl 1 (List.map e3 plan))]),(0,.var 39 (cv39 x))] 3 0) ?_
 refine AW.srwK (fun Q_1 hQ_1=>?_)
 refine Au 2 (sT [pR 3 1,pR 4 2,(10,.agg [.d (.sl 4 (List.map e62 x.Hanks)),.d (.sl 3 (List.map e64 x.Horses)),jI x.Dark,jI x.Near,jI x.Match]),(11,.clo 34 [] [.ptr 1 0])] [(2,.var 47 [jI 0,jI 0]),(1,.var 33 [.d (.sl 1 (List.map e3 plan))])] 3 0) ?_
 obtain ⟨r_15,hx_2,h⟩:=bsome h
 rcases r_15 with (⟨r0_HairBook4,r1_1⟩ | (⟨r0_HairBook5,mf2,r1_2⟩))
 ·refine RW.one fokW (r_callS (zr:=[]) [1] trivial rfl (k33 x plan _ hx_2) ⟨rfl,trivial⟩ rfl rfl ⟨.refl _,.refl _,trivial⟩ rfl rfl rfl (r_end ?_))
  obtain ⟨_,hv_3,h⟩:=bsome h
  have hf_4:=must_ok hv_3
  refine Au 6 (sT [pR 3 1,pR 4 2,pR 6 3,(7,jI r1_1)] [(3,.var 81 (catV (cv39 r0_HairBook4) [.d (.nilMap)])),(1,.var 33 [.d (.sl 1 (List.map e3 plan))]),(2,.var 47 [jI 0,jI 0])] 4 0) ?_
  refine RW.nil (hQ_1 _ ?_)
  refine AW.seqK (fun K_5 hK_5=>?_)
  refine Sa (sT [pR 3 1,pR 4 2,pR 6 3,(7,jI r1_1),(16,.d (.bool (decide (r1_1≠0))))] [(3,.var 81 (catV (cv39 r0_HairBook4) [.d (.nilMap)])),(1,.var 33 [.d (.sl 1 (List.map e3 plan))]),(2,.var 47 [jI 0,jI 0])] 4 0) ?_
  refine AW.cond rfl (fun hb_6=>?_) (fun hb_6=>False.elim (by rw [hf_4] at hb_6;cases hb_6))
  refine Sa (sT [pR 4 2,(5,jI r1_1)] [(2,.var 47 [jI 0,jI 0])] 4 0) ?_
  obtain rfl:=Option.some.inj h
  exact rT hR_0 (.cons (.agg rfl rfl (Nat.le_of_ble_eq_true rfl)) (.cons (.tmp rfl) .nil))
 ·refine RW.one fokW (r_callS (zr:=[]) [1] trivial rfl (k33 x plan _ hx_2) ⟨rfl,trivial⟩ rfl rfl ⟨.refl _,.refl _,trivial⟩ rfl rfl rfl (r_end ?_))
  refine Au 6 (sT [pR 3 1,pR 4 2,pR 6 3,(7,jI r1_2)] [(3,.var 81 (catV (cv39 r0_HairBook5) [.fmp (List.map m107_47 mf2)])),(1,.var 33 [.d (.sl 1 (List.map e3 plan))]),(2,.var 47 [jI 0,jI 0])] 4 0) ?_
  refine RW.nil (hQ_1 _ ?_)
  refine AW.seqK (fun K_7 hK_7=>?_)
  refine Sa (sT [pR 3 1,pR 4 2,pR 6 3,(7,jI r1_2),(16,.d (.bool (decide (r1_2≠0))))] [(3,.var 81 (catV (cv39 r0_HairBook5) [.fmp (List.map m107_47 mf2)])),(1,.var 33 [.d (.sl 1 (List.map e3 plan))]),(2,.var 47 [jI 0,jI 0])] 4 0) ?_
  refine AW.cond rfl (fun hb_8=>?_) (fun hb_8=>?_)
  ·have h:=ifT hb_8 h
   refine Sa (sT [pR 4 2,(5,jI r1_2)] [(2,.var 47 [jI 0,jI 0])] 4 0) ?_
   obtain rfl:=Option.some.inj h
   exact rT hR_0 (.cons (.agg rfl rfl (Nat.le_of_ble_eq_true rfl)) (.cons (.tmp rfl) .nil))
  ·have h:=ifF hb_8 h
   refine AW.skip (hK_7 _ ?_)
   refine AW.srwK (fun Q_9 hQ_9=>?_)
   refine Au 2 (sT [pR 4 2,pR 6 3,(19,.agg [.d (.sl 4 (List.map e62 r0_HairBook5.Hanks)),.d (.sl 3 (List.map e64 r0_HairBook5.Horses)),jI r0_HairBook5.Dark,jI r0_HairBook5.Near,jI r0_HairBook5.Match,.fmp (List.map m107_47 mf2)]),(20,.d (.sl 1 (List.map e3 plan)))] [(3,.var 81 (catV (cv39 r0_HairBook5) [.fmp (List.map m107_47 mf2)])),(2,.var 47 [jI 0,jI 0])] 4 0) ?_
   obtain ⟨r0_3,hx_10,h⟩:=bsome h
   refine rC (k37 r0_HairBook5 mf2 plan _ hx_10) ?_
   refine Au 2 (sT [pR 4 2,pR 6 3,pR 8 4] [(4,.var 89 [jI (r0_3 0),jI (r0_3 1),jI (r0_3 2),jI (r0_3 3),jI (r0_3 4)]),(3,.var 81 (catV (cv39 r0_HairBook5) [.fmp (List.map m107_47 mf2)])),(2,.var 47 [jI 0,jI 0])] 5 0) ?_
   refine RW.nil (hQ_9 _ ?_)
   refine AW.sdrwK fokW (fun Q_11 hQ_11=>?_)
   refine aX 2 (sT [pR 4 2,pR 6 3,pR 8 4,(22,.agg [.d (.sl 4 (List.map e62 r0_HairBook5.Hanks)),.d (.sl 3 (List.map e64 r0_HairBook5.Horses)),jI r0_HairBook5.Dark,jI r0_HairBook5.Near,jI r0_HairBook5.Match,.fmp (List.map m107_47 mf2)]),(23,.agg [jI (r0_3 0),jI (r0_3 1),jI (r0_3 2),jI (r0_3 3),jI (r0_3 4)])] [(4,.var 89 [jI (r0_3 0),jI (r0_3 1),jI (r0_3 2),jI (r0_3 3),jI (r0_3 4)]),(3,.var 81 (catV (cv39 r0_HairBook5) [.fmp (List.map m107_47 mf2)])),(2,.var 47 [jI 0,jI 0])] 5 0) ?_
   obtain ⟨⟨⟩,hx_12,h⟩:=bsome h
   refine r_call trivial rfl (k39 _ hx_12) rfl rfl ?_
   obtain ⟨r0_3_1,hx_13,h⟩:=bsome h
   refine r_call trivial rfl (k38a r0_HairBook5 mf2 r0_3 _ hx_13) rfl rfl ?_
   refine aX 2 (sT [pR 4 2,(25,jI r0_3_1),(26,.agg [.d (.sl 4 (List.map e62 r0_HairBook5.Hanks)),.d (.sl 3 (List.map e64 r0_HairBook5.Horses)),jI r0_HairBook5.Dark,jI r0_HairBook5.Near,jI r0_HairBook5.Match,.fmp (List.map m107_47 mf2)]),(27,.agg [jI (r0_3 0),jI (r0_3 1),jI (r0_3 2),jI (r0_3 3),jI (r0_3 4)])] [(4,.var 89 [jI (r0_3 0),jI (r0_3 1),jI (r0_3 2),jI (r0_3 3),jI (r0_3 4)]),(3,.var 81 (catV (cv39 r0_HairBook5) [.fmp (List.map m107_47 mf2)])),(2,.var 47 [jI 0,jI 0])] 5 0) ?_
   obtain ⟨⟨⟩,hx_14,h⟩:=bsome h
   refine r_call trivial rfl (k40 _ hx_14) rfl rfl ?_
   obtain ⟨r0_3_2,hx_15,h⟩:=bsome h
   refine r_call trivial rfl (k38 r0_HairBook5 mf2 r0_3 _ hx_15) rfl rfl ?_
   refine aX 3 (sT [pR 4 2,(5,jI 0)] [(2,.var 47 [jI r0_3_1,jI r0_3_2]),(4,.var 89 [jI (r0_3 0),jI (r0_3 1),jI (r0_3 2),jI (r0_3 3),jI (r0_3 4)]),(3,.var 81 (catV (cv39 r0_HairBook5) [.fmp (List.map m107_47 mf2)]))] 5 0) ?_
   refine Fi (sT [pR 4 2,(5,jI 0)] [(2,.var 47 [jI r0_3_1,jI r0_3_2])] 5 0) ?_
   refine hQ_11 _ ?_
   obtain rfl:=Option.some.inj h
   exact rT hR_0 (.cons (.agg rfl rfl (Nat.le_of_ble_eq_true rfl)) (.cons (.tmp rfl) .nil))
def g44a (b_HairBook:HairBook) (mf:List (Hair_dye×Span)) (m0_HairBook:HairBook) (mf_1:List (Hair_dye×Span)):Option (HairBook×(List (Hair_dye×Span))):=some (b_HairBook,mf)
theorem k44a (b_HairBook:HairBook) (mf:List (Hair_dye×Span)) (m0_HairBook:HairBook) (mf_1:List (Hair_dye×Span)) (r:HairBook×(List (Hair_dye×Span))) (h:g44a b_HairBook mf m0_HairBook mf_1=some r):SCall Tryd.prog Gs 44 [.agg [.d (.sl 4 (List.map e62 b_HairBook.Hanks)),.d (.sl 3 (List.map e64 b_HairBook.Horses)),jI b_HairBook.Dark,jI b_HairBook.Near,jI b_HairBook.Match,.fmp (List.map m107_47 mf)],.agg [.d (.fn 61)],.clo 45 [.agg [.d (.sl 4 (List.map e62 m0_HairBook.Hanks)),.d (.sl 3 (List.map e64 m0_HairBook.Horses)),jI m0_HairBook.Dark,jI m0_HairBook.Near,jI m0_HairBook.Match,.fmp (List.map m107_47 mf_1)]] []] [] 0 Fr.emp (match r with | (o0_HairBook,mf1)=>.clo 63 [] [.ptr 0 0,.ptr 1 0,.ptr 2 0]) (match r with | (o0_HairBook,mf1)=>[(0,.var 81 (catV (cv39 o0_HairBook) [.fmp (List.map m107_47 mf1)])),(1,.var 94 [.d (.fn 61)]),(2,.var 57 [.clo 45 [.agg [.d (.sl 4 (List.map e62 m0_HairBook.Hanks)),.d (.sl 3 (List.map e64 m0_HairBook.Horses)),jI m0_HairBook.Dark,jI m0_HairBook.Near,jI m0_HairBook.Match,.fmp (List.map m107_47 mf_1)]] []])]) 3 Fr.emp:=by
 unfold g44a at h
 refine SCall.mkK Tryd.func44 c44 rfl rfl (by kernel_rfl) (fun Q_0 hR_0 hN_0=>?_)
 refine Sa (sT [pR 3 0,pR 4 1,pR 5 2] [(2,.var 57 [.clo 45 [.agg [.d (.sl 4 (List.map e62 m0_HairBook.Hanks)),.d (.sl 3 (List.map e64 m0_HairBook.Horses)),jI m0_HairBook.Dark,jI m0_HairBook.Near,jI m0_HairBook.Match,.fmp (List.map m107_47 mf_1)]] []]),(1,.var 94 [.d (.fn 61)]),(0,.var 81 (catV (cv39 b_HairBook) [.fmp (List.map m107_47 mf)]))] 3 0) ?_
 refine Sa (sT [(6,.clo 63 [] [.ptr 0 0,.ptr 1 0,.ptr 2 0])] [(2,.var 57 [.clo 45 [.agg [.d (.sl 4 (List.map e62 m0_HairBook.Hanks)),.d (.sl 3 (List.map e64 m0_HairBook.Horses)),jI m0_HairBook.Dark,jI m0_HairBook.Near,jI m0_HairBook.Match,.fmp (List.map m107_47 mf_1)]] []]),(1,.var 94 [.d (.fn 61)]),(0,.var 81 (catV (cv39 b_HairBook) [.fmp (List.map m107_47 mf)]))] 3 0) ?_
 obtain rfl:=Option.some.inj h
 exact rT hR_0 (.cons (.tmp rfl) .nil)
def g64a_16 {S_:Type} (rec_:(List Int)→(Nat→Int)→HairBook→(List (Hair_dye×Span))→HairBook→(List (Hair_dye×Span))→S_→Option (Bool×S_)) (plan:(List Int)) (cut:(Nat→Int)) (o0_HairBook:HairBook) (mf:List (Hair_dye×Span)) (m0_HairBook:HairBook) (mf_1:List (Hair_dye×Span)) (need:Int):Int→HairHank→S_→Option (Ctl (S_) (Bool×S_)):=fun v p2 s_2=>bindC ((ixN 5 v).bind fun j1=>(g61 p2.Weight).bind fun r0_2=>bif (decide (r0_2<(wr ((cut j1)+need)))) then (some (.brk (.next s_2))) else (bif (decide (((plan.length:Int).tmod 2)=1)) then ((ixL plan (wr ((plan.length:Int) - 1))).bind fun p3=>(g45 m0_HairBook mf_1 (wr ((plan.length:Int).tdiv 2)) p3 v).bind fun r0_3=>bif (!r0_3) then (some (.brk (.next s_2))) else (some (.next ()))) else (some (.next ()))):Option (Ctl (Unit) (Ctl (S_) (Bool×S_)))) fun _=>(ixN 5 v).bind fun j2=>(ixN 5 v).bind fun j3=>(slcL plan 0 (plan.length:Int)).bind fun l=>(appL 8 l [v]).bind fun l1=>(rec_ l1 (aset cut j3 (wr ((cut j2)+need))) o0_HairBook mf m0_HairBook mf_1 s_2).bind fun (r0_7_1,s_5_1)=>bif (!r0_7_1) then (some (.brk (false,s_5_1))) else (some (.next s_5_1))
def g64a {S_:Type} (c_:(List Int)→(Nat→Int)→S_→Option (S_×Bool)):Nat→(List Int)→(Nat→Int)→HairBook→(List (Hair_dye×Span))→HairBook→(List (Hair_dye×Span))→S_→Option (Bool×S_)
 | 0,_,_,_,_,_,_,_=>none
 | n_+1,plan,cut,o0_HairBook,mf,m0_HairBook,mf_1,s_=>bif (decide ((plan.length:Int)=(wr (2*(o0_HairBook.Horses.length:Int))))) then ((c_ plan cut s_).bind fun (s_1,go)=>some (go,s_1)) else (((ixN 2 ((plan.length:Int).tmod 2)).bind fun j=>match j with | 0=>(ixL o0_HairBook.Horses (wr ((plan.length:Int).tdiv 2))).bind fun p=>(g95 p).bind fun r0=>some r0 | 1=>(ixL o0_HairBook.Horses (wr ((plan.length:Int).tdiv 2))).bind fun p1=>(g98 p1).bind fun r0_1=>some r0_1 | _=>none).bind fun need=>bindC (eachC (g64a_16 (g64a c_ n_) plan cut o0_HairBook mf m0_HairBook mf_1 need) o0_HairBook.Hanks 0 s_) fun s_2=>some (true,s_2))
theorem k64a {S_:Type} (fr_:S_→Fr) (c_:(List Int)→(Nat→Int)→S_→Option (S_×Bool)) (hc_:∀ (a0:(List Int)) (a1:(Nat→Int)) s s2 b,c_ a0 a1 s=some (s2,b)→YCall Tryd.prog Gs (fr_ s) [.d (.sl 1 (List.map e3 a0)),.agg [jI (a1 0),jI (a1 1),jI (a1 2),jI (a1 3),jI (a1 4)]] (.d (.bool b)) (fr_ s2)):∀ (n_:Nat) (plan:(List Int)) (cut:(Nat→Int)) (o0_HairBook:HairBook) (mf:List (Hair_dye×Span)) (m0_HairBook:HairBook) (mf_1:List (Hair_dye×Span)) (s_:S_) (r:Bool×S_) (h:g64a c_ n_ plan cut o0_HairBook mf m0_HairBook mf_1 s_=some r),SCall Tryd.prog Gs 64 [.d (.sl 1 (List.map e3 plan)),.agg [jI (cut 0),jI (cut 1),jI (cut 2),jI (cut 3),jI (cut 4)],.ptr 0 0,.ptr 1 0,.ptr 2 0,.ptr 3 0,.ptr 4 0] [(0,.var 81 (catV (cv39 o0_HairBook) [.fmp (List.map m107_47 mf)])),(1,.var 113 [.yld]),(2,.var 94 [.d (.fn 61)]),(3,.var 57 [.clo 45 [.agg [.d (.sl 4 (List.map e62 m0_HairBook.Hanks)),.d (.sl 3 (List.map e64 m0_HairBook.Horses)),jI m0_HairBook.Dark,jI m0_HairBook.Near,jI m0_HairBook.Match,.fmp (List.map m107_47 mf_1)]] []]),(4,.var 113 [.clo 64 [] [.ptr 0 0,.ptr 1 0,.ptr 2 0,.ptr 3 0,.ptr 4 0]])] 5 (fr_ s_) (match r with | (r0_7,s_5)=>.d (.bool r0_7)) (match r with | (r0_7,s_5)=>[(0,.var 81 (catV (cv39 o0_HairBook) [.fmp (List.map m107_47 mf)])),(1,.var 113 [.yld]),(2,.var 94 [.d (.fn 61)]),(3,.var 57 [.clo 45 [.agg [.d (.sl 4 (List.map e62 m0_HairBook.Hanks)),.d (.sl 3 (List.map e64 m0_HairBook.Horses)),jI m0_HairBook.Dark,jI m0_HairBook.Near,jI m0_HairBook.Match,.fmp (List.map m107_47 mf_1)]] []]),(4,.var 113 [.clo 64 [] [.ptr 0 0,.ptr 1 0,.ptr 2 0,.ptr 3 0,.ptr 4 0]])]) 5 (fr_ (match r with | (r0_7,s_5)=>s_5)):=by
 intro n_
 induction n_ with
 | zero=>intro plan cut o0_HairBook mf m0_HairBook mf_1 s_ r h;cases h
 | succ n_ ih=>
  intro plan cut o0_HairBook mf m0_HairBook mf_1 s_ r h
  rw [g64a] at h
  refine SCall.mkK Tryd.func64 c64 rfl rfl (by kernel_rfl) (fun Q_0 hR_0 hN_0=>?_)
  refine Sa ⟨[(0,.d (.sl 1 (List.map e3 plan))),pR 2 0,pR 3 1,pR 4 2,pR 5 3,pR 6 4,pR 8 5],[(5,.var 89 [jI (cut 0),jI (cut 1),jI (cut 2),jI (cut 3),jI (cut 4)]),(0,.var 81 (catV (cv39 o0_HairBook) [.fmp (List.map m107_47 mf)])),(1,.var 113 [.yld]),(2,.var 94 [.d (.fn 61)]),(3,.var 57 [.clo 45 [.agg [.d (.sl 4 (List.map e62 m0_HairBook.Hanks)),.d (.sl 3 (List.map e64 m0_HairBook.Horses)),jI m0_HairBook.Dark,jI m0_HairBook.Near,jI m0_HairBook.Match,.fmp (List.map m107_47 mf_1)]] []]),(4,.var 113 [.clo 64 [] [.ptr 0 0,.ptr 1 0,.ptr 2 0,.ptr 3 0,.ptr 4 0]])],6,(fr_ s_),[],5⟩ ?_
  refine AW.scope ?_
  refine AW.srwK (fun Q_1 hQ_1=>?_)
  refine Au 1 ⟨[(0,.d (.sl 1 (List.map e3 plan))),pR 2 0,pR 3 1,pR 4 2,pR 5 3,pR 6 4,pR 8 5,(15,.d (.sl 1 (List.map e3 plan)))],[(5,.var 89 [jI (cut 0),jI (cut 1),jI (cut 2),jI (cut 3),jI (cut 4)]),(0,.var 81 (catV (cv39 o0_HairBook) [.fmp (List.map m107_47 mf)])),(1,.var 113 [.yld]),(2,.var 94 [.d (.fn 61)]),(3,.var 57 [.clo 45 [.agg [.d (.sl 4 (List.map e62 m0_HairBook.Hanks)),.d (.sl 3 (List.map e64 m0_HairBook.Horses)),jI m0_HairBook.Dark,jI m0_HairBook.Near,jI m0_HairBook.Match,.fmp (List.map m107_47 mf_1)]] []]),(4,.var 113 [.clo 64 [] [.ptr 0 0,.ptr 1 0,.ptr 2 0,.ptr 3 0,.ptr 4 0]])],6,(fr_ s_),[],5⟩ ?_
  refine rL rfl ?_
  refine Au 1 ⟨[(0,.d (.sl 1 (List.map e3 plan))),pR 2 0,pR 3 1,pR 4 2,pR 5 3,pR 6 4,pR 8 5,(10,jI (plan.length:Int))],[(5,.var 89 [jI (cut 0),jI (cut 1),jI (cut 2),jI (cut 3),jI (cut 4)]),(0,.var 81 (catV (cv39 o0_HairBook) [.fmp (List.map m107_47 mf)])),(1,.var 113 [.yld]),(2,.var 94 [.d (.fn 61)]),(3,.var 57 [.clo 45 [.agg [.d (.sl 4 (List.map e62 m0_HairBook.Hanks)),.d (.sl 3 (List.map e64 m0_HairBook.Horses)),jI m0_HairBook.Dark,jI m0_HairBook.Near,jI m0_HairBook.Match,.fmp (List.map m107_47 mf_1)]] []]),(4,.var 113 [.clo 64 [] [.ptr 0 0,.ptr 1 0,.ptr 2 0,.ptr 3 0,.ptr 4 0]])],6,(fr_ s_),[],5⟩ ?_
  refine RW.nil (hQ_1 _ ?_)
  refine AW.seqK fun K_2 hK_2=>AW.srwK fun Q_3 hQ_3=>?_
  refine Au 4 ⟨[(0,.d (.sl 1 (List.map e3 plan))),pR 2 0,pR 3 1,pR 4 2,pR 5 3,pR 6 4,pR 8 5,(10,jI (plan.length:Int)),(17,jI (plan.length:Int)),(20,.d (.sl 3 (List.map e64 o0_HairBook.Horses)))],[(5,.var 89 [jI (cut 0),jI (cut 1),jI (cut 2),jI (cut 3),jI (cut 4)]),(0,.var 81 (catV (cv39 o0_HairBook) [.fmp (List.map m107_47 mf)])),(1,.var 113 [.yld]),(2,.var 94 [.d (.fn 61)]),(3,.var 57 [.clo 45 [.agg [.d (.sl 4 (List.map e62 m0_HairBook.Hanks)),.d (.sl 3 (List.map e64 m0_HairBook.Horses)),jI m0_HairBook.Dark,jI m0_HairBook.Near,jI m0_HairBook.Match,.fmp (List.map m107_47 mf_1)]] []]),(4,.var 113 [.clo 64 [] [.ptr 0 0,.ptr 1 0,.ptr 2 0,.ptr 3 0,.ptr 4 0]])],6,(fr_ s_),[],5⟩ ?_
  refine rL rfl ?_
  refine Au 2 ⟨[(0,.d (.sl 1 (List.map e3 plan))),pR 2 0,pR 3 1,pR 4 2,pR 5 3,pR 6 4,pR 8 5,(10,jI (plan.length:Int)),(23,.d (.bool (decide ((plan.length:Int)=(wr (2*(o0_HairBook.Horses.length:Int)))))))],[(5,.var 89 [jI (cut 0),jI (cut 1),jI (cut 2),jI (cut 3),jI (cut 4)]),(0,.var 81 (catV (cv39 o0_HairBook) [.fmp (List.map m107_47 mf)])),(1,.var 113 [.yld]),(2,.var 94 [.d (.fn 61)]),(3,.var 57 [.clo 45 [.agg [.d (.sl 4 (List.map e62 m0_HairBook.Hanks)),.d (.sl 3 (List.map e64 m0_HairBook.Horses)),jI m0_HairBook.Dark,jI m0_HairBook.Near,jI m0_HairBook.Match,.fmp (List.map m107_47 mf_1)]] []]),(4,.var 113 [.clo 64 [] [.ptr 0 0,.ptr 1 0,.ptr 2 0,.ptr 3 0,.ptr 4 0]])],6,(fr_ s_),[],5⟩ ?_
  refine RW.nil (hQ_3 _ ?_)
  refine AW.cond rfl (fun hb_4=>?_) (fun hb_4=>?_)
  ·have h:=ifT hb_4 h
   refine AW.srwK (fun Q_5 hQ_5=>?_)
   refine Au 3 ⟨[(24,.yld),(25,.d (.sl 1 (List.map e3 plan))),(26,.agg [jI (cut 0),jI (cut 1),jI (cut 2),jI (cut 3),jI (cut 4)])],[(0,.var 81 (catV (cv39 o0_HairBook) [.fmp (List.map m107_47 mf)])),(1,.var 113 [.yld]),(2,.var 94 [.d (.fn 61)]),(3,.var 57 [.clo 45 [.agg [.d (.sl 4 (List.map e62 m0_HairBook.Hanks)),.d (.sl 3 (List.map e64 m0_HairBook.Horses)),jI m0_HairBook.Dark,jI m0_HairBook.Near,jI m0_HairBook.Match,.fmp (List.map m107_47 mf_1)]] []]),(4,.var 113 [.clo 64 [] [.ptr 0 0,.ptr 1 0,.ptr 2 0,.ptr 3 0,.ptr 4 0]])],6,(fr_ s_),[],5⟩ ?_
   obtain ⟨⟨s_1,go⟩,hx_6,h⟩:=bsome h
   refine RW.one fokW (r_yield (zr:=[]) trivial rfl rfl (hc_ plan cut _ _ _ hx_6) trivial ⟨.refl _,.refl _,trivial⟩ rfl rfl rfl rfl (r_end ?_))
   refine Au 1 ⟨[(9,.d (.bool go))],[(0,.var 81 (catV (cv39 o0_HairBook) [.fmp (List.map m107_47 mf)])),(1,.var 113 [.yld]),(2,.var 94 [.d (.fn 61)]),(3,.var 57 [.clo 45 [.agg [.d (.sl 4 (List.map e62 m0_HairBook.Hanks)),.d (.sl 3 (List.map e64 m0_HairBook.Horses)),jI m0_HairBook.Dark,jI m0_HairBook.Near,jI m0_HairBook.Match,.fmp (List.map m107_47 mf_1)]] []]),(4,.var 113 [.clo 64 [] [.ptr 0 0,.ptr 1 0,.ptr 2 0,.ptr 3 0,.ptr 4 0]])],6,(fr_ s_1),[],5⟩ ?_
   refine RW.nil (hQ_5 _ ?_)
   obtain rfl:=Option.some.inj h
   exact rT hR_0 (.cons (.tmp rfl) .nil)
  ·have h:=ifF hb_4 h
   refine AW.skip (hK_2 _ ?_)
   obtain ⟨need,hx_7,h⟩:=bsome h
   refine AW.jnSK (fun (need:Int)=>⟨[(0,.d (.sl 1 (List.map e3 plan))),pR 2 0,pR 4 2,pR 5 3,pR 6 4,pR 8 5,(10,jI (plan.length:Int)),(11,jI need)],[(5,.var 89 [jI (cut 0),jI (cut 1),jI (cut 2),jI (cut 3),jI (cut 4)]),(0,.var 81 (catV (cv39 o0_HairBook) [.fmp (List.map m107_47 mf)])),(1,.var 113 [.yld]),(2,.var 94 [.d (.fn 61)]),(3,.var 57 [.clo 45 [.agg [.d (.sl 4 (List.map e62 m0_HairBook.Hanks)),.d (.sl 3 (List.map e64 m0_HairBook.Horses)),jI m0_HairBook.Dark,jI m0_HairBook.Near,jI m0_HairBook.Match,.fmp (List.map m107_47 mf_1)]] []]),(4,.var 113 [.clo 64 [] [.ptr 0 0,.ptr 1 0,.ptr 2 0,.ptr 3 0,.ptr 4 0]])],6,(fr_ s_),[],5⟩) (c:=need) (fun K_7 hK_7=>?_) ?_
   ·have h:=hx_7
    refine AW.drw fokW ?_
    refine aX 2 ⟨[(0,.d (.sl 1 (List.map e3 plan))),pR 2 0,pR 4 2,pR 5 3,pR 6 4,pR 8 5,(10,jI (plan.length:Int)),(29,jI ((plan.length:Int).tmod 2))],[(5,.var 89 [jI (cut 0),jI (cut 1),jI (cut 2),jI (cut 3),jI (cut 4)]),(0,.var 81 (catV (cv39 o0_HairBook) [.fmp (List.map m107_47 mf)])),(1,.var 113 [.yld]),(2,.var 94 [.d (.fn 61)]),(3,.var 57 [.clo 45 [.agg [.d (.sl 4 (List.map e62 m0_HairBook.Hanks)),.d (.sl 3 (List.map e64 m0_HairBook.Horses)),jI m0_HairBook.Dark,jI m0_HairBook.Near,jI m0_HairBook.Match,.fmp (List.map m107_47 mf_1)]] []]),(4,.var 113 [.clo 64 [] [.ptr 0 0,.ptr 1 0,.ptr 2 0,.ptr 3 0,.ptr 4 0]])],6,(fr_ s_),[],5⟩ ?_
    obtain ⟨j,hv_9,h⟩:=bsome h
    rcases j with _ | _ | j
    ·refine r_iaF trivial rfl rfl (ixN_ok hv_9).1 (ixN_ok hv_9).2.1 ?_
     refine r_loadF trivial rfl (u:=.fn 95) (by rw [(ixN_ok hv_9).2.2];rfl) ?_
     refine aX 5 ⟨[(0,.d (.sl 1 (List.map e3 plan))),pR 2 0,pR 4 2,pR 5 3,pR 6 4,pR 8 5,(10,jI (plan.length:Int)),(31,.d (.fn 95)),(34,.d (.sl 3 (List.map e64 o0_HairBook.Horses))),(36,jI (wr ((plan.length:Int).tdiv 2)))],[(5,.var 89 [jI (cut 0),jI (cut 1),jI (cut 2),jI (cut 3),jI (cut 4)]),(0,.var 81 (catV (cv39 o0_HairBook) [.fmp (List.map m107_47 mf)])),(1,.var 113 [.yld]),(2,.var 94 [.d (.fn 61)]),(3,.var 57 [.clo 45 [.agg [.d (.sl 4 (List.map e62 m0_HairBook.Hanks)),.d (.sl 3 (List.map e64 m0_HairBook.Horses)),jI m0_HairBook.Dark,jI m0_HairBook.Near,jI m0_HairBook.Match,.fmp (List.map m107_47 mf_1)]] []]),(4,.var 113 [.clo 64 [] [.ptr 0 0,.ptr 1 0,.ptr 2 0,.ptr 3 0,.ptr 4 0]])],6,(fr_ s_),[],5⟩ ?_
     obtain ⟨p,hv_10,h⟩:=bsome h
     refine r_iaD trivial rfl rfl (ixL_ok hv_10).1 (row:=e64 p) (mapget (ixL_ok hv_10).2) ?_
     refine aX 1 ⟨[(0,.d (.sl 1 (List.map e3 plan))),pR 2 0,pR 4 2,pR 5 3,pR 6 4,pR 8 5,(10,jI (plan.length:Int)),(31,.d (.fn 95)),(38,.agg [jI p.Mane,jI p.Tail,jI p.Shade])],[(5,.var 89 [jI (cut 0),jI (cut 1),jI (cut 2),jI (cut 3),jI (cut 4)]),(0,.var 81 (catV (cv39 o0_HairBook) [.fmp (List.map m107_47 mf)])),(1,.var 113 [.yld]),(2,.var 94 [.d (.fn 61)]),(3,.var 57 [.clo 45 [.agg [.d (.sl 4 (List.map e62 m0_HairBook.Hanks)),.d (.sl 3 (List.map e64 m0_HairBook.Horses)),jI m0_HairBook.Dark,jI m0_HairBook.Near,jI m0_HairBook.Match,.fmp (List.map m107_47 mf_1)]] []]),(4,.var 113 [.clo 64 [] [.ptr 0 0,.ptr 1 0,.ptr 2 0,.ptr 3 0,.ptr 4 0]])],6,(fr_ s_),[],5⟩ ?_
     obtain ⟨r0,hx_11,h⟩:=bsome h
     refine r_callvZ (zr:=[]) trivial rfl (.fn _) (by kernel_rfl) rfl (k95 p _ hx_11) trivial ⟨.refl _,trivial⟩ rfl rfl rfl rfl ?_
     refine aX 1 ⟨[(0,.d (.sl 1 (List.map e3 plan))),pR 2 0,pR 4 2,pR 5 3,pR 6 4,pR 8 5,(10,jI (plan.length:Int)),(11,jI r0)],[(5,.var 89 [jI (cut 0),jI (cut 1),jI (cut 2),jI (cut 3),jI (cut 4)]),(0,.var 81 (catV (cv39 o0_HairBook) [.fmp (List.map m107_47 mf)])),(1,.var 113 [.yld]),(2,.var 94 [.d (.fn 61)]),(3,.var 57 [.clo 45 [.agg [.d (.sl 4 (List.map e62 m0_HairBook.Hanks)),.d (.sl 3 (List.map e64 m0_HairBook.Horses)),jI m0_HairBook.Dark,jI m0_HairBook.Near,jI m0_HairBook.Match,.fmp (List.map m107_47 mf_1)]] []]),(4,.var 113 [.clo 64 [] [.ptr 0 0,.ptr 1 0,.ptr 2 0,.ptr 3 0,.ptr 4 0]])],6,(fr_ s_),[],5⟩ ?_
     refine Fi ⟨[(0,.d (.sl 1 (List.map e3 plan))),pR 2 0,pR 4 2,pR 5 3,pR 6 4,pR 8 5,(10,jI (plan.length:Int)),(11,jI r0)],[(5,.var 89 [jI (cut 0),jI (cut 1),jI (cut 2),jI (cut 3),jI (cut 4)]),(0,.var 81 (catV (cv39 o0_HairBook) [.fmp (List.map m107_47 mf)])),(1,.var 113 [.yld]),(2,.var 94 [.d (.fn 61)]),(3,.var 57 [.clo 45 [.agg [.d (.sl 4 (List.map e62 m0_HairBook.Hanks)),.d (.sl 3 (List.map e64 m0_HairBook.Horses)),jI m0_HairBook.Dark,jI m0_HairBook.Near,jI m0_HairBook.Match,.fmp (List.map m107_47 mf_1)]] []]),(4,.var 113 [.clo 64 [] [.ptr 0 0,.ptr 1 0,.ptr 2 0,.ptr 3 0,.ptr 4 0]])],6,(fr_ s_),[],5⟩ ?_
     obtain rfl:=Option.some.inj h
     exact hK_7 _ (Can.kp (by kernel_rfl))
    ·refine r_iaF trivial rfl rfl (ixN_ok hv_9).1 (ixN_ok hv_9).2.1 ?_
     refine r_loadF trivial rfl (u:=.fn 98) (by rw [(ixN_ok hv_9).2.2];rfl) ?_
     refine aX 5 ⟨[(0,.d (.sl 1 (List.map e3 plan))),pR 2 0,pR 4 2,pR 5 3,pR 6 4,pR 8 5,(10,jI (plan.length:Int)),(31,.d (.fn 98)),(34,.d (.sl 3 (List.map e64 o0_HairBook.Horses))),(36,jI (wr ((plan.length:Int).tdiv 2)))],[(5,.var 89 [jI (cut 0),jI (cut 1),jI (cut 2),jI (cut 3),jI (cut 4)]),(0,.var 81 (catV (cv39 o0_HairBook) [.fmp (List.map m107_47 mf)])),(1,.var 113 [.yld]),(2,.var 94 [.d (.fn 61)]),(3,.var 57 [.clo 45 [.agg [.d (.sl 4 (List.map e62 m0_HairBook.Hanks)),.d (.sl 3 (List.map e64 m0_HairBook.Horses)),jI m0_HairBook.Dark,jI m0_HairBook.Near,jI m0_HairBook.Match,.fmp (List.map m107_47 mf_1)]] []]),(4,.var 113 [.clo 64 [] [.ptr 0 0,.ptr 1 0,.ptr 2 0,.ptr 3 0,.ptr 4 0]])],6,(fr_ s_),[],5⟩ ?_
     obtain ⟨p1,hv_12,h⟩:=bsome h
     refine r_iaD trivial rfl rfl (ixL_ok hv_12).1 (row:=e64 p1) (mapget (ixL_ok hv_12).2) ?_
     refine aX 1 ⟨[(0,.d (.sl 1 (List.map e3 plan))),pR 2 0,pR 4 2,pR 5 3,pR 6 4,pR 8 5,(10,jI (plan.length:Int)),(31,.d (.fn 98)),(38,.agg [jI p1.Mane,jI p1.Tail,jI p1.Shade])],[(5,.var 89 [jI (cut 0),jI (cut 1),jI (cut 2),jI (cut 3),jI (cut 4)]),(0,.var 81 (catV (cv39 o0_HairBook) [.fmp (List.map m107_47 mf)])),(1,.var 113 [.yld]),(2,.var 94 [.d (.fn 61)]),(3,.var 57 [.clo 45 [.agg [.d (.sl 4 (List.map e62 m0_HairBook.Hanks)),.d (.sl 3 (List.map e64 m0_HairBook.Horses)),jI m0_HairBook.Dark,jI m0_HairBook.Near,jI m0_HairBook.Match,.fmp (List.map m107_47 mf_1)]] []]),(4,.var 113 [.clo 64 [] [.ptr 0 0,.ptr 1 0,.ptr 2 0,.ptr 3 0,.ptr 4 0]])],6,(fr_ s_),[],5⟩ ?_
     obtain ⟨r0_1,hx_13,h⟩:=bsome h
     refine r_callvZ (zr:=[]) trivial rfl (.fn _) (by kernel_rfl) rfl (k98 p1 _ hx_13) trivial ⟨.refl _,trivial⟩ rfl rfl rfl rfl ?_
     refine aX 1 ⟨[(0,.d (.sl 1 (List.map e3 plan))),pR 2 0,pR 4 2,pR 5 3,pR 6 4,pR 8 5,(10,jI (plan.length:Int)),(11,jI r0_1)],[(5,.var 89 [jI (cut 0),jI (cut 1),jI (cut 2),jI (cut 3),jI (cut 4)]),(0,.var 81 (catV (cv39 o0_HairBook) [.fmp (List.map m107_47 mf)])),(1,.var 113 [.yld]),(2,.var 94 [.d (.fn 61)]),(3,.var 57 [.clo 45 [.agg [.d (.sl 4 (List.map e62 m0_HairBook.Hanks)),.d (.sl 3 (List.map e64 m0_HairBook.Horses)),jI m0_HairBook.Dark,jI m0_HairBook.Near,jI m0_HairBook.Match,.fmp (List.map m107_47 mf_1)]] []]),(4,.var 113 [.clo 64 [] [.ptr 0 0,.ptr 1 0,.ptr 2 0,.ptr 3 0,.ptr 4 0]])],6,(fr_ s_),[],5⟩ ?_
     refine Fi ⟨[(0,.d (.sl 1 (List.map e3 plan))),pR 2 0,pR 4 2,pR 5 3,pR 6 4,pR 8 5,(10,jI (plan.length:Int)),(11,jI r0_1)],[(5,.var 89 [jI (cut 0),jI (cut 1),jI (cut 2),jI (cut 3),jI (cut 4)]),(0,.var 81 (catV (cv39 o0_HairBook) [.fmp (List.map m107_47 mf)])),(1,.var 113 [.yld]),(2,.var 94 [.d (.fn 61)]),(3,.var 57 [.clo 45 [.agg [.d (.sl 4 (List.map e62 m0_HairBook.Hanks)),.d (.sl 3 (List.map e64 m0_HairBook.Horses)),jI m0_HairBook.Dark,jI m0_HairBook.Near,jI m0_HairBook.Match,.fmp (List.map m107_47 mf_1)]] []]),(4,.var 113 [.clo 64 [] [.ptr 0 0,.ptr 1 0,.ptr 2 0,.ptr 3 0,.ptr 4 0]])],6,(fr_ s_),[],5⟩ ?_
     obtain rfl:=Option.some.inj h
     exact hK_7 _ (Can.kp (by kernel_rfl))
    ·cases h
   ·refine AW.seq (AW.skip ?_)
    refine AW.seqK fun K_14 hK_14=>AW.srwK fun Q_15 hQ_15=>?_
    refine Au 3 ⟨[(0,.d (.sl 1 (List.map e3 plan))),pR 4 2,pR 5 3,pR 6 4,pR 8 5,(10,jI (plan.length:Int)),(11,jI need),(42,.d (.sl 4 (List.map e62 o0_HairBook.Hanks)))],[(5,.var 89 [jI (cut 0),jI (cut 1),jI (cut 2),jI (cut 3),jI (cut 4)]),(0,.var 81 (catV (cv39 o0_HairBook) [.fmp (List.map m107_47 mf)])),(1,.var 113 [.yld]),(2,.var 94 [.d (.fn 61)]),(3,.var 57 [.clo 45 [.agg [.d (.sl 4 (List.map e62 m0_HairBook.Hanks)),.d (.sl 3 (List.map e64 m0_HairBook.Horses)),jI m0_HairBook.Dark,jI m0_HairBook.Near,jI m0_HairBook.Match,.fmp (List.map m107_47 mf_1)]] []]),(4,.var 113 [.clo 64 [] [.ptr 0 0,.ptr 1 0,.ptr 2 0,.ptr 3 0,.ptr 4 0]])],6,(fr_ s_),[],5⟩ ?_
    refine rL rfl ?_
    refine Au 1 ⟨[(0,.d (.sl 1 (List.map e3 plan))),pR 4 2,pR 5 3,pR 6 4,pR 8 5,(10,jI (plan.length:Int)),(11,jI need),(42,.d (.sl 4 (List.map e62 o0_HairBook.Hanks))),(43,jI (o0_HairBook.Hanks.length:Int)),(44,jI 0)],[(5,.var 89 [jI (cut 0),jI (cut 1),jI (cut 2),jI (cut 3),jI (cut 4)]),(0,.var 81 (catV (cv39 o0_HairBook) [.fmp (List.map m107_47 mf)])),(1,.var 113 [.yld]),(2,.var 94 [.d (.fn 61)]),(3,.var 57 [.clo 45 [.agg [.d (.sl 4 (List.map e62 m0_HairBook.Hanks)),.d (.sl 3 (List.map e64 m0_HairBook.Horses)),jI m0_HairBook.Dark,jI m0_HairBook.Near,jI m0_HairBook.Match,.fmp (List.map m107_47 mf_1)]] []]),(4,.var 113 [.clo 64 [] [.ptr 0 0,.ptr 1 0,.ptr 2 0,.ptr 3 0,.ptr 4 0]])],6,(fr_ s_),[],5⟩ ?_
    refine RW.nil (hQ_15 _ ?_)
    refine AW.block ?_
    refine AW.sln (t:=42) rfl (fun hN_16=>?_)
    rw [List.length_map] at hN_16
    obtain ⟨out_16,hx_16,hk_16⟩:=bsomeC h
    refine AW.evCK (fun (v:Int) (s_2:S_)=>⟨[(0,.d (.sl 1 (List.map e3 plan))),pR 4 2,pR 5 3,pR 6 4,pR 8 5,(10,jI (plan.length:Int)),(11,jI need),(42,.d (.sl 4 (List.map e62 o0_HairBook.Hanks))),(43,jI (o0_HairBook.Hanks.length:Int)),(44,jI v)],[(5,.var 89 [jI (cut 0),jI (cut 1),jI (cut 2),jI (cut 3),jI (cut 4)]),(0,.var 81 (catV (cv39 o0_HairBook) [.fmp (List.map m107_47 mf)])),(1,.var 113 [.yld]),(2,.var 94 [.d (.fn 61)]),(3,.var 57 [.clo 45 [.agg [.d (.sl 4 (List.map e62 m0_HairBook.Hanks)),.d (.sl 3 (List.map e64 m0_HairBook.Horses)),jI m0_HairBook.Dark,jI m0_HairBook.Near,jI m0_HairBook.Match,.fmp (List.map m107_47 mf_1)]] []]),(4,.var 113 [.clo 64 [] [.ptr 0 0,.ptr 1 0,.ptr 2 0,.ptr 3 0,.ptr 4 0]])],6,(fr_ s_2),[],5⟩) (g64a_16 (g64a c_ n_) plan cut o0_HairBook mf m0_HairBook mf_1 need) hx_16 (Can.kp (by kernel_rfl)) (fun v p2 s_2 hi_16 hl_16 hp_16 c_16 h hb_16 K_16 hK_16=>?_) (fun v s_2 hi_16 hl_16 hout=>?_)
    ·unfold g64a_16 at h
     refine Sa ⟨[(0,.d (.sl 1 (List.map e3 plan))),pR 4 2,pR 5 3,pR 6 4,pR 8 5,(10,jI (plan.length:Int)),(11,jI need),(42,.d (.sl 4 (List.map e62 o0_HairBook.Hanks))),(43,jI (o0_HairBook.Hanks.length:Int)),(44,jI v),(45,.d (.bool (decide (v<(o0_HairBook.Hanks.length:Int)))))],[(5,.var 89 [jI (cut 0),jI (cut 1),jI (cut 2),jI (cut 3),jI (cut 4)]),(0,.var 81 (catV (cv39 o0_HairBook) [.fmp (List.map m107_47 mf)])),(1,.var 113 [.yld]),(2,.var 94 [.d (.fn 61)]),(3,.var 57 [.clo 45 [.agg [.d (.sl 4 (List.map e62 m0_HairBook.Hanks)),.d (.sl 3 (List.map e64 m0_HairBook.Horses)),jI m0_HairBook.Dark,jI m0_HairBook.Near,jI m0_HairBook.Match,.fmp (List.map m107_47 mf_1)]] []]),(4,.var 113 [.clo 64 [] [.ptr 0 0,.ptr 1 0,.ptr 2 0,.ptr 3 0,.ptr 4 0]])],6,(fr_ s_2),[],5⟩ ?_
     refine AW.seqK (fun K_17 hK_17=>?_)
     refine AW.cond rfl (fun hb_18=>?_) (fun hb_18=>False.elim (by have:=of_decide_eq_false hb_18;omega))
     refine AW.skip (hK_17 _ ?_)
     refine AW.seqK (fun K_19 hK_19=>?_)
     refine AW.block ?_
     refine AW.srwK (fun Q_20 hQ_20=>?_)
     refine Au 1 ⟨[(0,.d (.sl 1 (List.map e3 plan))),pR 4 2,pR 5 3,pR 6 4,pR 8 5,(10,jI (plan.length:Int)),(11,jI need),(42,.d (.sl 4 (List.map e62 o0_HairBook.Hanks))),(43,jI (o0_HairBook.Hanks.length:Int)),(44,jI v),(46,jI v)],[(5,.var 89 [jI (cut 0),jI (cut 1),jI (cut 2),jI (cut 3),jI (cut 4)]),(0,.var 81 (catV (cv39 o0_HairBook) [.fmp (List.map m107_47 mf)])),(1,.var 113 [.yld]),(2,.var 94 [.d (.fn 61)]),(3,.var 57 [.clo 45 [.agg [.d (.sl 4 (List.map e62 m0_HairBook.Hanks)),.d (.sl 3 (List.map e64 m0_HairBook.Horses)),jI m0_HairBook.Dark,jI m0_HairBook.Near,jI m0_HairBook.Match,.fmp (List.map m107_47 mf_1)]] []]),(4,.var 113 [.clo 64 [] [.ptr 0 0,.ptr 1 0,.ptr 2 0,.ptr 3 0,.ptr 4 0]])],6,(fr_ s_2),[],5⟩ ?_
     refine RW.one fokW (r_iaD trivial rfl rfl hi_16 (row:=e62 p2) (mapget hp_16) (r_end ?_))
     refine Au 4 ⟨[(0,.d (.sl 1 (List.map e3 plan))),pR 4 2,pR 5 3,pR 6 4,pR 8 5,(10,jI (plan.length:Int)),(11,jI need),(12,jI v),pR 13 6,(42,.d (.sl 4 (List.map e62 o0_HairBook.Hanks))),(43,jI (o0_HairBook.Hanks.length:Int)),(44,jI v)],[(6,.var 62 (cv62 p2)),(5,.var 89 [jI (cut 0),jI (cut 1),jI (cut 2),jI (cut 3),jI (cut 4)]),(0,.var 81 (catV (cv39 o0_HairBook) [.fmp (List.map m107_47 mf)])),(1,.var 113 [.yld]),(2,.var 94 [.d (.fn 61)]),(3,.var 57 [.clo 45 [.agg [.d (.sl 4 (List.map e62 m0_HairBook.Hanks)),.d (.sl 3 (List.map e64 m0_HairBook.Horses)),jI m0_HairBook.Dark,jI m0_HairBook.Near,jI m0_HairBook.Match,.fmp (List.map m107_47 mf_1)]] []]),(4,.var 113 [.clo 64 [] [.ptr 0 0,.ptr 1 0,.ptr 2 0,.ptr 3 0,.ptr 4 0]])],7,(fr_ s_2),[],5⟩ ?_
     refine RW.nil (hQ_20 _ ?_)
     obtain ⟨c_21,hx_21,hk_21⟩:=bsomeC h
     refine AW.jnK (fun (_:Unit)=>⟨[(0,.d (.sl 1 (List.map e3 plan))),pR 4 2,pR 5 3,pR 6 4,pR 8 5,(10,jI (plan.length:Int)),(11,jI need),(12,jI v),(42,.d (.sl 4 (List.map e62 o0_HairBook.Hanks))),(43,jI (o0_HairBook.Hanks.length:Int)),(44,jI v)],[(5,.var 89 [jI (cut 0),jI (cut 1),jI (cut 2),jI (cut 3),jI (cut 4)]),(0,.var 81 (catV (cv39 o0_HairBook) [.fmp (List.map m107_47 mf)])),(1,.var 113 [.yld]),(2,.var 94 [.d (.fn 61)]),(3,.var 57 [.clo 45 [.agg [.d (.sl 4 (List.map e62 m0_HairBook.Hanks)),.d (.sl 3 (List.map e64 m0_HairBook.Horses)),jI m0_HairBook.Dark,jI m0_HairBook.Near,jI m0_HairBook.Match,.fmp (List.map m107_47 mf_1)]] []]),(4,.var 113 [.clo 64 [] [.ptr 0 0,.ptr 1 0,.ptr 2 0,.ptr 3 0,.ptr 4 0]])],7,(fr_ s_2),[],5⟩) (c:=c_21) (fun K_21 hK_21=>?_) (fun j_21 hj_21=>?_)
     ·have h:=hx_21
      refine AW.sdrwK fokW (fun Q_22 hQ_22=>?_)
      refine aX 1 ⟨[(0,.d (.sl 1 (List.map e3 plan))),pR 4 2,pR 5 3,pR 6 4,pR 8 5,(10,jI (plan.length:Int)),(11,jI need),(12,jI v),pR 13 6,(42,.d (.sl 4 (List.map e62 o0_HairBook.Hanks))),(43,jI (o0_HairBook.Hanks.length:Int)),(44,jI v),(49,jI v)],[(6,.var 62 (cv62 p2)),(5,.var 89 [jI (cut 0),jI (cut 1),jI (cut 2),jI (cut 3),jI (cut 4)]),(0,.var 81 (catV (cv39 o0_HairBook) [.fmp (List.map m107_47 mf)])),(1,.var 113 [.yld]),(2,.var 94 [.d (.fn 61)]),(3,.var 57 [.clo 45 [.agg [.d (.sl 4 (List.map e62 m0_HairBook.Hanks)),.d (.sl 3 (List.map e64 m0_HairBook.Horses)),jI m0_HairBook.Dark,jI m0_HairBook.Near,jI m0_HairBook.Match,.fmp (List.map m107_47 mf_1)]] []]),(4,.var 113 [.clo 64 [] [.ptr 0 0,.ptr 1 0,.ptr 2 0,.ptr 3 0,.ptr 4 0]])],7,(fr_ s_2),[],5⟩ ?_
      obtain ⟨j1,hv_23,h⟩:=bsome h
      refine r_iaV trivial rfl rfl rfl (ixN_ok hv_23).1 (ixN_ok hv_23).2.1 ?_
      refine r_loadV trivial rfl rfl (u:=jI (cut j1)) (agt (f:=fun k=>jI (cut k)) hv_23) ?_
      refine aX 6 ⟨[(0,.d (.sl 1 (List.map e3 plan))),pR 4 2,pR 5 3,pR 6 4,pR 8 5,(10,jI (plan.length:Int)),(11,jI need),(12,jI v),(42,.d (.sl 4 (List.map e62 o0_HairBook.Hanks))),(43,jI (o0_HairBook.Hanks.length:Int)),(44,jI v),(53,jI (wr ((cut j1)+need))),(55,.d (.fn 61)),(57,.agg [jI p2.Weight.Low,jI p2.Weight.High])],[(6,.var 62 (cv62 p2)),(5,.var 89 [jI (cut 0),jI (cut 1),jI (cut 2),jI (cut 3),jI (cut 4)]),(0,.var 81 (catV (cv39 o0_HairBook) [.fmp (List.map m107_47 mf)])),(1,.var 113 [.yld]),(2,.var 94 [.d (.fn 61)]),(3,.var 57 [.clo 45 [.agg [.d (.sl 4 (List.map e62 m0_HairBook.Hanks)),.d (.sl 3 (List.map e64 m0_HairBook.Horses)),jI m0_HairBook.Dark,jI m0_HairBook.Near,jI m0_HairBook.Match,.fmp (List.map m107_47 mf_1)]] []]),(4,.var 113 [.clo 64 [] [.ptr 0 0,.ptr 1 0,.ptr 2 0,.ptr 3 0,.ptr 4 0]])],7,(fr_ s_2),[],5⟩ ?_
      obtain ⟨r0_2,hx_24,h⟩:=bsome h
      refine r_callvZ (zr:=[]) trivial rfl (.fn _) (by kernel_rfl) rfl (k61 p2.Weight _ hx_24) trivial ⟨.refl _,trivial⟩ rfl rfl rfl rfl ?_
      refine aX 2 ⟨[(0,.d (.sl 1 (List.map e3 plan))),pR 4 2,pR 5 3,pR 6 4,pR 8 5,(10,jI (plan.length:Int)),(11,jI need),(12,jI v),(42,.d (.sl 4 (List.map e62 o0_HairBook.Hanks))),(43,jI (o0_HairBook.Hanks.length:Int)),(44,jI v),(60,.d (.bool (decide (r0_2<(wr ((cut j1)+need))))))],[(6,.var 62 (cv62 p2)),(5,.var 89 [jI (cut 0),jI (cut 1),jI (cut 2),jI (cut 3),jI (cut 4)]),(0,.var 81 (catV (cv39 o0_HairBook) [.fmp (List.map m107_47 mf)])),(1,.var 113 [.yld]),(2,.var 94 [.d (.fn 61)]),(3,.var 57 [.clo 45 [.agg [.d (.sl 4 (List.map e62 m0_HairBook.Hanks)),.d (.sl 3 (List.map e64 m0_HairBook.Horses)),jI m0_HairBook.Dark,jI m0_HairBook.Near,jI m0_HairBook.Match,.fmp (List.map m107_47 mf_1)]] []]),(4,.var 113 [.clo 64 [] [.ptr 0 0,.ptr 1 0,.ptr 2 0,.ptr 3 0,.ptr 4 0]])],7,(fr_ s_2),[],5⟩ ?_
      refine r_split 60 rfl (fun hb_25=>?_) (fun hb_25=>?_)
      ·have h:=ifT hb_25 h
       refine aX 17 ⟨[(0,.d (.sl 1 (List.map e3 plan))),pR 4 2,pR 5 3,pR 6 4,pR 8 5,(10,jI (plan.length:Int)),(11,jI need),(12,jI v),(42,.d (.sl 4 (List.map e62 o0_HairBook.Hanks))),(43,jI (o0_HairBook.Hanks.length:Int)),(44,jI v),(77,.d (.bool true))],[(6,.var 62 (cv62 p2)),(5,.var 89 [jI (cut 0),jI (cut 1),jI (cut 2),jI (cut 3),jI (cut 4)]),(0,.var 81 (catV (cv39 o0_HairBook) [.fmp (List.map m107_47 mf)])),(1,.var 113 [.yld]),(2,.var 94 [.d (.fn 61)]),(3,.var 57 [.clo 45 [.agg [.d (.sl 4 (List.map e62 m0_HairBook.Hanks)),.d (.sl 3 (List.map e64 m0_HairBook.Horses)),jI m0_HairBook.Dark,jI m0_HairBook.Near,jI m0_HairBook.Match,.fmp (List.map m107_47 mf_1)]] []]),(4,.var 113 [.clo 64 [] [.ptr 0 0,.ptr 1 0,.ptr 2 0,.ptr 3 0,.ptr 4 0]])],7,(fr_ s_2),[],5⟩ ?_
       refine Fi ⟨[(0,.d (.sl 1 (List.map e3 plan))),pR 4 2,pR 5 3,pR 6 4,pR 8 5,(10,jI (plan.length:Int)),(11,jI need),(12,jI v),(42,.d (.sl 4 (List.map e62 o0_HairBook.Hanks))),(43,jI (o0_HairBook.Hanks.length:Int)),(44,jI v),(77,.d (.bool true))],[(5,.var 89 [jI (cut 0),jI (cut 1),jI (cut 2),jI (cut 3),jI (cut 4)]),(0,.var 81 (catV (cv39 o0_HairBook) [.fmp (List.map m107_47 mf)])),(1,.var 113 [.yld]),(2,.var 94 [.d (.fn 61)]),(3,.var 57 [.clo 45 [.agg [.d (.sl 4 (List.map e62 m0_HairBook.Hanks)),.d (.sl 3 (List.map e64 m0_HairBook.Horses)),jI m0_HairBook.Dark,jI m0_HairBook.Near,jI m0_HairBook.Match,.fmp (List.map m107_47 mf_1)]] []]),(4,.var 113 [.clo 64 [] [.ptr 0 0,.ptr 1 0,.ptr 2 0,.ptr 3 0,.ptr 4 0]])],7,(fr_ s_2),[],5⟩ ?_
       refine hQ_22 _ ?_
       refine AW.condT rfl ?_
       refine AW.exit ?_
       refine hK_19 _ ?_
       refine Ra ⟨[(0,.d (.sl 1 (List.map e3 plan))),pR 4 2,pR 5 3,pR 6 4,pR 8 5,(10,jI (plan.length:Int)),(11,jI need),(42,.d (.sl 4 (List.map e62 o0_HairBook.Hanks))),(43,jI (o0_HairBook.Hanks.length:Int)),(44,jI (wr (v+1)))],[(5,.var 89 [jI (cut 0),jI (cut 1),jI (cut 2),jI (cut 3),jI (cut 4)]),(0,.var 81 (catV (cv39 o0_HairBook) [.fmp (List.map m107_47 mf)])),(1,.var 113 [.yld]),(2,.var 94 [.d (.fn 61)]),(3,.var 57 [.clo 45 [.agg [.d (.sl 4 (List.map e62 m0_HairBook.Hanks)),.d (.sl 3 (List.map e64 m0_HairBook.Horses)),jI m0_HairBook.Dark,jI m0_HairBook.Near,jI m0_HairBook.Match,.fmp (List.map m107_47 mf_1)]] []]),(4,.var 113 [.clo 64 [] [.ptr 0 0,.ptr 1 0,.ptr 2 0,.ptr 3 0,.ptr 4 0]])],7,(fr_ s_2),[],5⟩ ?_
       obtain rfl:=Option.some.inj h
       obtain rfl:=Aft.bk hk_21
       have ew:wr (v+1)=v+1:=inext (N:=(o0_HairBook.Hanks.length:Int)) (by omega) (by omega) (by omega)
       rw [ew]
       exact hK_16 _ _ rfl (Can.kp (by kernel_rfl))
      ·have h:=ifF hb_25 h
       refine aX 4 ⟨[(0,.d (.sl 1 (List.map e3 plan))),pR 4 2,pR 5 3,pR 6 4,pR 8 5,(10,jI (plan.length:Int)),(11,jI need),(12,jI v),(42,.d (.sl 4 (List.map e62 o0_HairBook.Hanks))),(43,jI (o0_HairBook.Hanks.length:Int)),(44,jI v),(60,.d (.bool false)),(64,.d (.bool (decide (((plan.length:Int).tmod 2)=1))))],[(6,.var 62 (cv62 p2)),(5,.var 89 [jI (cut 0),jI (cut 1),jI (cut 2),jI (cut 3),jI (cut 4)]),(0,.var 81 (catV (cv39 o0_HairBook) [.fmp (List.map m107_47 mf)])),(1,.var 113 [.yld]),(2,.var 94 [.d (.fn 61)]),(3,.var 57 [.clo 45 [.agg [.d (.sl 4 (List.map e62 m0_HairBook.Hanks)),.d (.sl 3 (List.map e64 m0_HairBook.Horses)),jI m0_HairBook.Dark,jI m0_HairBook.Near,jI m0_HairBook.Match,.fmp (List.map m107_47 mf_1)]] []]),(4,.var 113 [.clo 64 [] [.ptr 0 0,.ptr 1 0,.ptr 2 0,.ptr 3 0,.ptr 4 0]])],7,(fr_ s_2),[],5⟩ ?_
       refine r_split 64 rfl (fun hb_26=>?_) (fun hb_26=>?_)
       ·have h:=ifT hb_26 h
        refine aX 6 ⟨[(0,.d (.sl 1 (List.map e3 plan))),pR 4 2,pR 5 3,pR 6 4,pR 8 5,(10,jI (plan.length:Int)),(11,jI need),(12,jI v),(42,.d (.sl 4 (List.map e62 o0_HairBook.Hanks))),(43,jI (o0_HairBook.Hanks.length:Int)),(44,jI v),(60,.d (.bool false)),(64,.d (.bool true)),(65,.clo 45 [.agg [.d (.sl 4 (List.map e62 m0_HairBook.Hanks)),.d (.sl 3 (List.map e64 m0_HairBook.Horses)),jI m0_HairBook.Dark,jI m0_HairBook.Near,jI m0_HairBook.Match,.fmp (List.map m107_47 mf_1)]] []),(67,jI (wr ((plan.length:Int).tdiv 2))),(68,.d (.sl 1 (List.map e3 plan))),(70,jI (wr ((plan.length:Int) - 1)))],[(6,.var 62 (cv62 p2)),(5,.var 89 [jI (cut 0),jI (cut 1),jI (cut 2),jI (cut 3),jI (cut 4)]),(0,.var 81 (catV (cv39 o0_HairBook) [.fmp (List.map m107_47 mf)])),(1,.var 113 [.yld]),(2,.var 94 [.d (.fn 61)]),(3,.var 57 [.clo 45 [.agg [.d (.sl 4 (List.map e62 m0_HairBook.Hanks)),.d (.sl 3 (List.map e64 m0_HairBook.Horses)),jI m0_HairBook.Dark,jI m0_HairBook.Near,jI m0_HairBook.Match,.fmp (List.map m107_47 mf_1)]] []]),(4,.var 113 [.clo 64 [] [.ptr 0 0,.ptr 1 0,.ptr 2 0,.ptr 3 0,.ptr 4 0]])],7,(fr_ s_2),[],5⟩ ?_
        obtain ⟨p3,hv_27,h⟩:=bsome h
        refine r_iaD rfl rfl rfl (ixL_ok hv_27).1 (row:=e3 p3) (mapget (ixL_ok hv_27).2) ?_
        refine aX 2 ⟨[(0,.d (.sl 1 (List.map e3 plan))),pR 4 2,pR 5 3,pR 6 4,pR 8 5,(10,jI (plan.length:Int)),(11,jI need),(12,jI v),(42,.d (.sl 4 (List.map e62 o0_HairBook.Hanks))),(43,jI (o0_HairBook.Hanks.length:Int)),(44,jI v),(60,.d (.bool false)),(64,.d (.bool true)),(65,.clo 45 [.agg [.d (.sl 4 (List.map e62 m0_HairBook.Hanks)),.d (.sl 3 (List.map e64 m0_HairBook.Horses)),jI m0_HairBook.Dark,jI m0_HairBook.Near,jI m0_HairBook.Match,.fmp (List.map m107_47 mf_1)]] []),(67,jI (wr ((plan.length:Int).tdiv 2))),(72,jI p3),(73,jI v)],[(6,.var 62 (cv62 p2)),(5,.var 89 [jI (cut 0),jI (cut 1),jI (cut 2),jI (cut 3),jI (cut 4)]),(0,.var 81 (catV (cv39 o0_HairBook) [.fmp (List.map m107_47 mf)])),(1,.var 113 [.yld]),(2,.var 94 [.d (.fn 61)]),(3,.var 57 [.clo 45 [.agg [.d (.sl 4 (List.map e62 m0_HairBook.Hanks)),.d (.sl 3 (List.map e64 m0_HairBook.Horses)),jI m0_HairBook.Dark,jI m0_HairBook.Near,jI m0_HairBook.Match,.fmp (List.map m107_47 mf_1)]] []]),(4,.var 113 [.clo 64 [] [.ptr 0 0,.ptr 1 0,.ptr 2 0,.ptr 3 0,.ptr 4 0]])],7,(fr_ s_2),[],5⟩ ?_
        obtain ⟨r0_3,hx_28,h⟩:=bsome h
        refine r_callvZ (zr:=[]) rfl rfl (.clo _ _ _) (by kernel_rfl) rfl (k45 m0_HairBook mf_1 (wr ((plan.length:Int).tdiv 2)) p3 v _ hx_28) trivial ⟨.refl _,.refl _,.refl _,.refl _,trivial⟩ rfl rfl rfl rfl ?_
        refine aX 3 ⟨[(0,.d (.sl 1 (List.map e3 plan))),pR 4 2,pR 5 3,pR 6 4,pR 8 5,(10,jI (plan.length:Int)),(11,jI need),(12,jI v),(42,.d (.sl 4 (List.map e62 o0_HairBook.Hanks))),(43,jI (o0_HairBook.Hanks.length:Int)),(44,jI v),(77,.d (.bool (!r0_3)))],[(6,.var 62 (cv62 p2)),(5,.var 89 [jI (cut 0),jI (cut 1),jI (cut 2),jI (cut 3),jI (cut 4)]),(0,.var 81 (catV (cv39 o0_HairBook) [.fmp (List.map m107_47 mf)])),(1,.var 113 [.yld]),(2,.var 94 [.d (.fn 61)]),(3,.var 57 [.clo 45 [.agg [.d (.sl 4 (List.map e62 m0_HairBook.Hanks)),.d (.sl 3 (List.map e64 m0_HairBook.Horses)),jI m0_HairBook.Dark,jI m0_HairBook.Near,jI m0_HairBook.Match,.fmp (List.map m107_47 mf_1)]] []]),(4,.var 113 [.clo 64 [] [.ptr 0 0,.ptr 1 0,.ptr 2 0,.ptr 3 0,.ptr 4 0]])],7,(fr_ s_2),[],5⟩ ?_
        refine Fi ⟨[(0,.d (.sl 1 (List.map e3 plan))),pR 4 2,pR 5 3,pR 6 4,pR 8 5,(10,jI (plan.length:Int)),(11,jI need),(12,jI v),(42,.d (.sl 4 (List.map e62 o0_HairBook.Hanks))),(43,jI (o0_HairBook.Hanks.length:Int)),(44,jI v),(77,.d (.bool (!r0_3)))],[(5,.var 89 [jI (cut 0),jI (cut 1),jI (cut 2),jI (cut 3),jI (cut 4)]),(0,.var 81 (catV (cv39 o0_HairBook) [.fmp (List.map m107_47 mf)])),(1,.var 113 [.yld]),(2,.var 94 [.d (.fn 61)]),(3,.var 57 [.clo 45 [.agg [.d (.sl 4 (List.map e62 m0_HairBook.Hanks)),.d (.sl 3 (List.map e64 m0_HairBook.Horses)),jI m0_HairBook.Dark,jI m0_HairBook.Near,jI m0_HairBook.Match,.fmp (List.map m107_47 mf_1)]] []]),(4,.var 113 [.clo 64 [] [.ptr 0 0,.ptr 1 0,.ptr 2 0,.ptr 3 0,.ptr 4 0]])],7,(fr_ s_2),[],5⟩ ?_
        refine hQ_22 _ ?_
        refine AW.cond rfl (fun hb_29=>?_) (fun hb_29=>?_)
        ·have h:=ifT hb_29 h
         refine AW.exit ?_
         refine hK_19 _ ?_
         refine Ra ⟨[(0,.d (.sl 1 (List.map e3 plan))),pR 4 2,pR 5 3,pR 6 4,pR 8 5,(10,jI (plan.length:Int)),(11,jI need),(42,.d (.sl 4 (List.map e62 o0_HairBook.Hanks))),(43,jI (o0_HairBook.Hanks.length:Int)),(44,jI (wr (v+1)))],[(5,.var 89 [jI (cut 0),jI (cut 1),jI (cut 2),jI (cut 3),jI (cut 4)]),(0,.var 81 (catV (cv39 o0_HairBook) [.fmp (List.map m107_47 mf)])),(1,.var 113 [.yld]),(2,.var 94 [.d (.fn 61)]),(3,.var 57 [.clo 45 [.agg [.d (.sl 4 (List.map e62 m0_HairBook.Hanks)),.d (.sl 3 (List.map e64 m0_HairBook.Horses)),jI m0_HairBook.Dark,jI m0_HairBook.Near,jI m0_HairBook.Match,.fmp (List.map m107_47 mf_1)]] []]),(4,.var 113 [.clo 64 [] [.ptr 0 0,.ptr 1 0,.ptr 2 0,.ptr 3 0,.ptr 4 0]])],7,(fr_ s_2),[],5⟩ ?_
         obtain rfl:=Option.some.inj h
         obtain rfl:=Aft.bk hk_21
         have ew:wr (v+1)=v+1:=inext (N:=(o0_HairBook.Hanks.length:Int)) (by omega) (by omega) (by omega)
         rw [ew]
         exact hK_16 _ _ rfl (Can.kp (by kernel_rfl))
        ·have h:=ifF hb_29 h
         refine AW.skip ?_
         obtain rfl:=Option.some.inj h
         exact hK_21 _ _ rfl (Can.kp (by kernel_rfl))
       ·have h:=ifF hb_26 h
        refine aX 13 ⟨[(0,.d (.sl 1 (List.map e3 plan))),pR 4 2,pR 5 3,pR 6 4,pR 8 5,(10,jI (plan.length:Int)),(11,jI need),(12,jI v),(42,.d (.sl 4 (List.map e62 o0_HairBook.Hanks))),(43,jI (o0_HairBook.Hanks.length:Int)),(44,jI v),(77,.d (.bool false))],[(6,.var 62 (cv62 p2)),(5,.var 89 [jI (cut 0),jI (cut 1),jI (cut 2),jI (cut 3),jI (cut 4)]),(0,.var 81 (catV (cv39 o0_HairBook) [.fmp (List.map m107_47 mf)])),(1,.var 113 [.yld]),(2,.var 94 [.d (.fn 61)]),(3,.var 57 [.clo 45 [.agg [.d (.sl 4 (List.map e62 m0_HairBook.Hanks)),.d (.sl 3 (List.map e64 m0_HairBook.Horses)),jI m0_HairBook.Dark,jI m0_HairBook.Near,jI m0_HairBook.Match,.fmp (List.map m107_47 mf_1)]] []]),(4,.var 113 [.clo 64 [] [.ptr 0 0,.ptr 1 0,.ptr 2 0,.ptr 3 0,.ptr 4 0]])],7,(fr_ s_2),[],5⟩ ?_
        refine Fi ⟨[(0,.d (.sl 1 (List.map e3 plan))),pR 4 2,pR 5 3,pR 6 4,pR 8 5,(10,jI (plan.length:Int)),(11,jI need),(12,jI v),(42,.d (.sl 4 (List.map e62 o0_HairBook.Hanks))),(43,jI (o0_HairBook.Hanks.length:Int)),(44,jI v),(77,.d (.bool false))],[(5,.var 89 [jI (cut 0),jI (cut 1),jI (cut 2),jI (cut 3),jI (cut 4)]),(0,.var 81 (catV (cv39 o0_HairBook) [.fmp (List.map m107_47 mf)])),(1,.var 113 [.yld]),(2,.var 94 [.d (.fn 61)]),(3,.var 57 [.clo 45 [.agg [.d (.sl 4 (List.map e62 m0_HairBook.Hanks)),.d (.sl 3 (List.map e64 m0_HairBook.Horses)),jI m0_HairBook.Dark,jI m0_HairBook.Near,jI m0_HairBook.Match,.fmp (List.map m107_47 mf_1)]] []]),(4,.var 113 [.clo 64 [] [.ptr 0 0,.ptr 1 0,.ptr 2 0,.ptr 3 0,.ptr 4 0]])],7,(fr_ s_2),[],5⟩ ?_
        refine hQ_22 _ ?_
        refine AW.condF rfl ?_
        refine AW.skip ?_
        obtain rfl:=Option.some.inj h
        exact hK_21 _ _ rfl (Can.kp (by kernel_rfl))
     ·subst hj_21
      have h:=Aft.nx hk_21
      refine Sa ⟨[(0,.d (.sl 1 (List.map e3 plan))),pR 4 2,pR 5 3,pR 6 4,pR 8 5,(10,jI (plan.length:Int)),(11,jI need),(12,jI v),pR 14 7,(42,.d (.sl 4 (List.map e62 o0_HairBook.Hanks))),(43,jI (o0_HairBook.Hanks.length:Int)),(44,jI v)],[(7,.var 89 [jI (cut 0),jI (cut 1),jI (cut 2),jI (cut 3),jI (cut 4)]),(5,.var 89 [jI (cut 0),jI (cut 1),jI (cut 2),jI (cut 3),jI (cut 4)]),(0,.var 81 (catV (cv39 o0_HairBook) [.fmp (List.map m107_47 mf)])),(1,.var 113 [.yld]),(2,.var 94 [.d (.fn 61)]),(3,.var 57 [.clo 45 [.agg [.d (.sl 4 (List.map e62 m0_HairBook.Hanks)),.d (.sl 3 (List.map e64 m0_HairBook.Horses)),jI m0_HairBook.Dark,jI m0_HairBook.Near,jI m0_HairBook.Match,.fmp (List.map m107_47 mf_1)]] []]),(4,.var 113 [.clo 64 [] [.ptr 0 0,.ptr 1 0,.ptr 2 0,.ptr 3 0,.ptr 4 0]])],8,(fr_ s_2),[],5⟩ ?_
      refine AW.srwK (fun Q_30 hQ_30=>?_)
      refine Au 1 ⟨[(0,.d (.sl 1 (List.map e3 plan))),pR 4 2,pR 5 3,pR 6 4,pR 8 5,(10,jI (plan.length:Int)),(11,jI need),(12,jI v),pR 14 7,(42,.d (.sl 4 (List.map e62 o0_HairBook.Hanks))),(43,jI (o0_HairBook.Hanks.length:Int)),(44,jI v),(79,jI v)],[(7,.var 89 [jI (cut 0),jI (cut 1),jI (cut 2),jI (cut 3),jI (cut 4)]),(5,.var 89 [jI (cut 0),jI (cut 1),jI (cut 2),jI (cut 3),jI (cut 4)]),(0,.var 81 (catV (cv39 o0_HairBook) [.fmp (List.map m107_47 mf)])),(1,.var 113 [.yld]),(2,.var 94 [.d (.fn 61)]),(3,.var 57 [.clo 45 [.agg [.d (.sl 4 (List.map e62 m0_HairBook.Hanks)),.d (.sl 3 (List.map e64 m0_HairBook.Horses)),jI m0_HairBook.Dark,jI m0_HairBook.Near,jI m0_HairBook.Match,.fmp (List.map m107_47 mf_1)]] []]),(4,.var 113 [.clo 64 [] [.ptr 0 0,.ptr 1 0,.ptr 2 0,.ptr 3 0,.ptr 4 0]])],8,(fr_ s_2),[],5⟩ ?_
      obtain ⟨j2,hv_31,h⟩:=bsome h
      refine RW.one fokW (r_iaV trivial rfl rfl rfl (ixN_ok hv_31).1 (ixN_ok hv_31).2.1 (r_end ?_))
      refine RW.one fokW (r_loadV trivial rfl rfl (u:=jI (cut j2)) (agt (f:=fun k=>jI (cut k)) hv_31) (r_end ?_))
      refine Au 2 ⟨[(0,.d (.sl 1 (List.map e3 plan))),pR 4 2,pR 5 3,pR 6 4,pR 8 5,(10,jI (plan.length:Int)),(11,jI need),(12,jI v),pR 14 7,(42,.d (.sl 4 (List.map e62 o0_HairBook.Hanks))),(43,jI (o0_HairBook.Hanks.length:Int)),(44,jI v),(79,jI v),(83,jI (wr ((cut j2)+need)))],[(7,.var 89 [jI (cut 0),jI (cut 1),jI (cut 2),jI (cut 3),jI (cut 4)]),(5,.var 89 [jI (cut 0),jI (cut 1),jI (cut 2),jI (cut 3),jI (cut 4)]),(0,.var 81 (catV (cv39 o0_HairBook) [.fmp (List.map m107_47 mf)])),(1,.var 113 [.yld]),(2,.var 94 [.d (.fn 61)]),(3,.var 57 [.clo 45 [.agg [.d (.sl 4 (List.map e62 m0_HairBook.Hanks)),.d (.sl 3 (List.map e64 m0_HairBook.Horses)),jI m0_HairBook.Dark,jI m0_HairBook.Near,jI m0_HairBook.Match,.fmp (List.map m107_47 mf_1)]] []]),(4,.var 113 [.clo 64 [] [.ptr 0 0,.ptr 1 0,.ptr 2 0,.ptr 3 0,.ptr 4 0]])],8,(fr_ s_2),[],5⟩ ?_
      obtain ⟨j3,hv_32,h⟩:=bsome h
      refine RW.one fokW (r_iaV trivial rfl rfl rfl (ixN_ok hv_32).1 (ixN_ok hv_32).2.1 (r_end ?_))
      refine RW.one fokW (r_stX trivial rfl rfl rfl rfl rfl (aslot hv_32 rfl) (cs':=[jI ((aset cut j3 (wr ((cut j2)+need))) 0),jI ((aset cut j3 (wr ((cut j2)+need))) 1),jI ((aset cut j3 (wr ((cut j2)+need))) 2),jI ((aset cut j3 (wr ((cut j2)+need))) 3),jI ((aset cut j3 (wr ((cut j2)+need))) 4)]) (ast (w:=cut) (c:=fun z=>jI z) hv_32) (r_end ?_))
      refine RW.nil (hQ_30 _ ?_)
      refine AW.sdrwK fokW (fun Q_33 hQ_33=>?_)
      refine aX 4 ⟨[(0,.d (.sl 1 (List.map e3 plan))),pR 4 2,pR 5 3,pR 6 4,pR 8 5,(10,jI (plan.length:Int)),(11,jI need),(12,jI v),pR 14 7,(42,.d (.sl 4 (List.map e62 o0_HairBook.Hanks))),(43,jI (o0_HairBook.Hanks.length:Int)),(44,jI v),(85,.clo 64 [] [.ptr 0 0,.ptr 1 0,.ptr 2 0,.ptr 3 0,.ptr 4 0]),(86,.d (.sl 1 (List.map e3 plan))),(87,jI (plan.length:Int)),(88,jI (plan.length:Int))],[(7,.var 89 [jI ((aset cut j3 (wr ((cut j2)+need))) 0),jI ((aset cut j3 (wr ((cut j2)+need))) 1),jI ((aset cut j3 (wr ((cut j2)+need))) 2),jI ((aset cut j3 (wr ((cut j2)+need))) 3),jI ((aset cut j3 (wr ((cut j2)+need))) 4)]),(5,.var 89 [jI (cut 0),jI (cut 1),jI (cut 2),jI (cut 3),jI (cut 4)]),(0,.var 81 (catV (cv39 o0_HairBook) [.fmp (List.map m107_47 mf)])),(1,.var 113 [.yld]),(2,.var 94 [.d (.fn 61)]),(3,.var 57 [.clo 45 [.agg [.d (.sl 4 (List.map e62 m0_HairBook.Hanks)),.d (.sl 3 (List.map e64 m0_HairBook.Horses)),jI m0_HairBook.Dark,jI m0_HairBook.Near,jI m0_HairBook.Match,.fmp (List.map m107_47 mf_1)]] []]),(4,.var 113 [.clo 64 [] [.ptr 0 0,.ptr 1 0,.ptr 2 0,.ptr 3 0,.ptr 4 0]])],8,(fr_ s_2),[],5⟩ ?_
      obtain ⟨l,hv_34,h⟩:=bsome h
      refine r_slN trivial rfl rfl rfl DSl.d (slcL_ok hv_34).2.1 (by rw [List.length_map];exact (slcL_ok hv_34).2.2.1) rfl (slz hv_34 e3) ?_
      refine aX 2 ⟨[(0,.d (.sl 1 (List.map e3 plan))),pR 4 2,pR 5 3,pR 6 4,pR 8 5,(10,jI (plan.length:Int)),(11,jI need),pR 14 7,(42,.d (.sl 4 (List.map e62 o0_HairBook.Hanks))),(43,jI (o0_HairBook.Hanks.length:Int)),(44,jI v),(85,.clo 64 [] [.ptr 0 0,.ptr 1 0,.ptr 2 0,.ptr 3 0,.ptr 4 0]),(89,.fsl 1 (List.map e3 l)),(91,.own 8 (List.map e3 [v]).length)],[(8,.row 3 1 (List.map e3 [v])),(7,.var 89 [jI ((aset cut j3 (wr ((cut j2)+need))) 0),jI ((aset cut j3 (wr ((cut j2)+need))) 1),jI ((aset cut j3 (wr ((cut j2)+need))) 2),jI ((aset cut j3 (wr ((cut j2)+need))) 3),jI ((aset cut j3 (wr ((cut j2)+need))) 4)]),(5,.var 89 [jI (cut 0),jI (cut 1),jI (cut 2),jI (cut 3),jI (cut 4)]),(0,.var 81 (catV (cv39 o0_HairBook) [.fmp (List.map m107_47 mf)])),(1,.var 113 [.yld]),(2,.var 94 [.d (.fn 61)]),(3,.var 57 [.clo 45 [.agg [.d (.sl 4 (List.map e62 m0_HairBook.Hanks)),.d (.sl 3 (List.map e64 m0_HairBook.Horses)),jI m0_HairBook.Dark,jI m0_HairBook.Near,jI m0_HairBook.Match,.fmp (List.map m107_47 mf_1)]] []]),(4,.var 113 [.clo 64 [] [.ptr 0 0,.ptr 1 0,.ptr 2 0,.ptr 3 0,.ptr 4 0]])],9,(fr_ s_2),[],5⟩ ?_
      obtain ⟨l1,hv_35,h⟩:=bsome h
      refine r_apF trivial rfl rfl rfl rfl (by simp) (zs:=List.map e3 l1) (apz hv_35 e3) (apr hv_35 e3) ?_
      refine aX 1 ⟨[(0,.d (.sl 1 (List.map e3 plan))),pR 4 2,pR 5 3,pR 6 4,pR 8 5,(10,jI (plan.length:Int)),(11,jI need),(42,.d (.sl 4 (List.map e62 o0_HairBook.Hanks))),(43,jI (o0_HairBook.Hanks.length:Int)),(44,jI v),(85,.clo 64 [] [.ptr 0 0,.ptr 1 0,.ptr 2 0,.ptr 3 0,.ptr 4 0]),(92,.own 9 (List.map e3 l1).length),(93,.agg [jI ((aset cut j3 (wr ((cut j2)+need))) 0),jI ((aset cut j3 (wr ((cut j2)+need))) 1),jI ((aset cut j3 (wr ((cut j2)+need))) 2),jI ((aset cut j3 (wr ((cut j2)+need))) 3),jI ((aset cut j3 (wr ((cut j2)+need))) 4)])],[(9,.row 3 1 (List.map e3 l1)),(8,.row 3 1 (List.map e3 [v])),(7,.var 89 [jI ((aset cut j3 (wr ((cut j2)+need))) 0),jI ((aset cut j3 (wr ((cut j2)+need))) 1),jI ((aset cut j3 (wr ((cut j2)+need))) 2),jI ((aset cut j3 (wr ((cut j2)+need))) 3),jI ((aset cut j3 (wr ((cut j2)+need))) 4)]),(5,.var 89 [jI (cut 0),jI (cut 1),jI (cut 2),jI (cut 3),jI (cut 4)]),(0,.var 81 (catV (cv39 o0_HairBook) [.fmp (List.map m107_47 mf)])),(1,.var 113 [.yld]),(2,.var 94 [.d (.fn 61)]),(3,.var 57 [.clo 45 [.agg [.d (.sl 4 (List.map e62 m0_HairBook.Hanks)),.d (.sl 3 (List.map e64 m0_HairBook.Horses)),jI m0_HairBook.Dark,jI m0_HairBook.Near,jI m0_HairBook.Match,.fmp (List.map m107_47 mf_1)]] []]),(4,.var 113 [.clo 64 [] [.ptr 0 0,.ptr 1 0,.ptr 2 0,.ptr 3 0,.ptr 4 0]])],10,(fr_ s_2),[],5⟩ ?_
      obtain ⟨⟨r0_7_1,s_5_1⟩,hx_36,h⟩:=bsome h
      refine r_callvS (zr:=[(9,.row 3 1 (List.map e3 l1))]) [0,1,2,3,4] trivial rfl (.clo _ _ _) (by kernel_rfl) rfl (ih l1 (aset cut j3 (wr ((cut j2)+need))) o0_HairBook mf m0_HairBook mf_1 s_2 _ hx_36) ⟨rfl,rfl,rfl,rfl,rfl,rfl,trivial⟩ rfl rfl ⟨(.own rfl rfl),.refl _,.refl _,.refl _,.refl _,.refl _,.refl _,trivial⟩ rfl rfl rfl ?_
      refine aX 1 ⟨[(0,.d (.sl 1 (List.map e3 plan))),pR 4 2,pR 5 3,pR 6 4,pR 8 5,(10,jI (plan.length:Int)),(11,jI need),(42,.d (.sl 4 (List.map e62 o0_HairBook.Hanks))),(43,jI (o0_HairBook.Hanks.length:Int)),(44,jI v),(95,.d (.bool (!r0_7_1)))],[(0,.var 81 (catV (cv39 o0_HairBook) [.fmp (List.map m107_47 mf)])),(1,.var 113 [.yld]),(2,.var 94 [.d (.fn 61)]),(3,.var 57 [.clo 45 [.agg [.d (.sl 4 (List.map e62 m0_HairBook.Hanks)),.d (.sl 3 (List.map e64 m0_HairBook.Horses)),jI m0_HairBook.Dark,jI m0_HairBook.Near,jI m0_HairBook.Match,.fmp (List.map m107_47 mf_1)]] []]),(4,.var 113 [.clo 64 [] [.ptr 0 0,.ptr 1 0,.ptr 2 0,.ptr 3 0,.ptr 4 0]]),(9,.dead),(8,.row 3 1 (List.map e3 [v])),(7,.var 89 [jI ((aset cut j3 (wr ((cut j2)+need))) 0),jI ((aset cut j3 (wr ((cut j2)+need))) 1),jI ((aset cut j3 (wr ((cut j2)+need))) 2),jI ((aset cut j3 (wr ((cut j2)+need))) 3),jI ((aset cut j3 (wr ((cut j2)+need))) 4)]),(5,.var 89 [jI (cut 0),jI (cut 1),jI (cut 2),jI (cut 3),jI (cut 4)])],10,(fr_ s_5_1),[],5⟩ ?_
      refine Fi ⟨[(0,.d (.sl 1 (List.map e3 plan))),pR 4 2,pR 5 3,pR 6 4,pR 8 5,(10,jI (plan.length:Int)),(11,jI need),(42,.d (.sl 4 (List.map e62 o0_HairBook.Hanks))),(43,jI (o0_HairBook.Hanks.length:Int)),(44,jI v),(95,.d (.bool (!r0_7_1)))],[(0,.var 81 (catV (cv39 o0_HairBook) [.fmp (List.map m107_47 mf)])),(1,.var 113 [.yld]),(2,.var 94 [.d (.fn 61)]),(3,.var 57 [.clo 45 [.agg [.d (.sl 4 (List.map e62 m0_HairBook.Hanks)),.d (.sl 3 (List.map e64 m0_HairBook.Horses)),jI m0_HairBook.Dark,jI m0_HairBook.Near,jI m0_HairBook.Match,.fmp (List.map m107_47 mf_1)]] []]),(4,.var 113 [.clo 64 [] [.ptr 0 0,.ptr 1 0,.ptr 2 0,.ptr 3 0,.ptr 4 0]]),(5,.var 89 [jI (cut 0),jI (cut 1),jI (cut 2),jI (cut 3),jI (cut 4)])],10,(fr_ s_5_1),[],5⟩ ?_
      refine hQ_33 _ ?_
      refine AW.cond rfl (fun hb_37=>?_) (fun hb_37=>?_)
      ·have h:=ifT hb_37 h
       refine Sa ⟨[(9,.d (.bool false))],[(0,.var 81 (catV (cv39 o0_HairBook) [.fmp (List.map m107_47 mf)])),(1,.var 113 [.yld]),(2,.var 94 [.d (.fn 61)]),(3,.var 57 [.clo 45 [.agg [.d (.sl 4 (List.map e62 m0_HairBook.Hanks)),.d (.sl 3 (List.map e64 m0_HairBook.Horses)),jI m0_HairBook.Dark,jI m0_HairBook.Near,jI m0_HairBook.Match,.fmp (List.map m107_47 mf_1)]] []]),(4,.var 113 [.clo 64 [] [.ptr 0 0,.ptr 1 0,.ptr 2 0,.ptr 3 0,.ptr 4 0]])],10,(fr_ s_5_1),[],5⟩ ?_
       obtain rfl:=Option.some.inj h
       have e_1:=hb_16 _ rfl
       subst e_1
       obtain rfl:=Aft.bk hk_16
       exact rT hR_0 (.cons (.tmp rfl) .nil)
      ·have h:=ifF hb_37 h
       refine AW.skip (hK_19 _ ?_)
       refine Ra ⟨[(0,.d (.sl 1 (List.map e3 plan))),pR 4 2,pR 5 3,pR 6 4,pR 8 5,(10,jI (plan.length:Int)),(11,jI need),(42,.d (.sl 4 (List.map e62 o0_HairBook.Hanks))),(43,jI (o0_HairBook.Hanks.length:Int)),(44,jI (wr (v+1)))],[(0,.var 81 (catV (cv39 o0_HairBook) [.fmp (List.map m107_47 mf)])),(1,.var 113 [.yld]),(2,.var 94 [.d (.fn 61)]),(3,.var 57 [.clo 45 [.agg [.d (.sl 4 (List.map e62 m0_HairBook.Hanks)),.d (.sl 3 (List.map e64 m0_HairBook.Horses)),jI m0_HairBook.Dark,jI m0_HairBook.Near,jI m0_HairBook.Match,.fmp (List.map m107_47 mf_1)]] []]),(4,.var 113 [.clo 64 [] [.ptr 0 0,.ptr 1 0,.ptr 2 0,.ptr 3 0,.ptr 4 0]]),(5,.var 89 [jI (cut 0),jI (cut 1),jI (cut 2),jI (cut 3),jI (cut 4)])],10,(fr_ s_5_1),[],5⟩ ?_
       obtain rfl:=Option.some.inj h
       have ew:wr (v+1)=v+1:=inext (N:=(o0_HairBook.Hanks.length:Int)) (by omega) (by omega) (by omega)
       rw [ew]
       exact hK_16 _ _ rfl (Can.kp (by kernel_rfl))
    ·subst hout
     have h:=Aft.nx hk_16
     refine Sa ⟨[(0,.d (.sl 1 (List.map e3 plan))),pR 4 2,pR 5 3,pR 6 4,pR 8 5,(10,jI (plan.length:Int)),(11,jI need),(42,.d (.sl 4 (List.map e62 o0_HairBook.Hanks))),(43,jI (o0_HairBook.Hanks.length:Int)),(44,jI v),(45,.d (.bool (decide (v<(o0_HairBook.Hanks.length:Int)))))],[(5,.var 89 [jI (cut 0),jI (cut 1),jI (cut 2),jI (cut 3),jI (cut 4)]),(0,.var 81 (catV (cv39 o0_HairBook) [.fmp (List.map m107_47 mf)])),(1,.var 113 [.yld]),(2,.var 94 [.d (.fn 61)]),(3,.var 57 [.clo 45 [.agg [.d (.sl 4 (List.map e62 m0_HairBook.Hanks)),.d (.sl 3 (List.map e64 m0_HairBook.Horses)),jI m0_HairBook.Dark,jI m0_HairBook.Near,jI m0_HairBook.Match,.fmp (List.map m107_47 mf_1)]] []]),(4,.var 113 [.clo 64 [] [.ptr 0 0,.ptr 1 0,.ptr 2 0,.ptr 3 0,.ptr 4 0]])],6,(fr_ s_2),[],5⟩ ?_
     refine AW.seqK (fun K_38 hK_38=>?_)
     refine AW.cond rfl (fun hb_39=>False.elim (by have:=of_decide_eq_true hb_39;omega)) (fun hb_39=>?_)
     refine AW.exit ?_
     refine hK_14 _ ?_
     refine Sa ⟨[(9,.d (.bool true))],[(0,.var 81 (catV (cv39 o0_HairBook) [.fmp (List.map m107_47 mf)])),(1,.var 113 [.yld]),(2,.var 94 [.d (.fn 61)]),(3,.var 57 [.clo 45 [.agg [.d (.sl 4 (List.map e62 m0_HairBook.Hanks)),.d (.sl 3 (List.map e64 m0_HairBook.Horses)),jI m0_HairBook.Dark,jI m0_HairBook.Near,jI m0_HairBook.Match,.fmp (List.map m107_47 mf_1)]] []]),(4,.var 113 [.clo 64 [] [.ptr 0 0,.ptr 1 0,.ptr 2 0,.ptr 3 0,.ptr 4 0]])],6,(fr_ s_2),[],5⟩ ?_
     obtain rfl:=Option.some.inj h
     exact rT hR_0 (.cons (.tmp rfl) .nil)
def g63a {S_:Type} (c_:(List Int)→(Nat→Int)→S_→Option (S_×Bool)) (o0_HairBook:HairBook) (mf:List (Hair_dye×Span)) (m0_HairBook:HairBook) (mf_1:List (Hair_dye×Span)) (s_:S_):Option S_:=(g59).bind fun r0=>(g64a c_ 1000 ([]:(List Int)) r0 o0_HairBook mf m0_HairBook mf_1 s_).bind fun (r0_7,s_5)=>some s_5
theorem k63a {S_:Type} (fr_:S_→Fr) (c_:(List Int)→(Nat→Int)→S_→Option (S_×Bool)) (hc_:∀ (a0:(List Int)) (a1:(Nat→Int)) s s2 b,c_ a0 a1 s=some (s2,b)→YCall Tryd.prog Gs (fr_ s) [.d (.sl 1 (List.map e3 a0)),.agg [jI (a1 0),jI (a1 1),jI (a1 2),jI (a1 3),jI (a1 4)]] (.d (.bool b)) (fr_ s2)) (o0_HairBook:HairBook) (mf:List (Hair_dye×Span)) (m0_HairBook:HairBook) (mf_1:List (Hair_dye×Span)) (s_:S_) (r:S_) (h:g63a c_ o0_HairBook mf m0_HairBook mf_1 s_=some r):SCall Tryd.prog Gs 63 [.yld,.ptr 0 0,.ptr 1 0,.ptr 2 0] [(0,.var 81 (catV (cv39 o0_HairBook) [.fmp (List.map m107_47 mf)])),(1,.var 94 [.d (.fn 61)]),(2,.var 57 [.clo 45 [.agg [.d (.sl 4 (List.map e62 m0_HairBook.Hanks)),.d (.sl 3 (List.map e64 m0_HairBook.Horses)),jI m0_HairBook.Dark,jI m0_HairBook.Near,jI m0_HairBook.Match,.fmp (List.map m107_47 mf_1)]] []])] 3 (fr_ s_) (.tup []) [(0,.var 81 (catV (cv39 o0_HairBook) [.fmp (List.map m107_47 mf)])),(1,.var 94 [.d (.fn 61)]),(2,.var 57 [.clo 45 [.agg [.d (.sl 4 (List.map e62 m0_HairBook.Hanks)),.d (.sl 3 (List.map e64 m0_HairBook.Horses)),jI m0_HairBook.Dark,jI m0_HairBook.Near,jI m0_HairBook.Match,.fmp (List.map m107_47 mf_1)]] []])] 3 (fr_ r):=by
 unfold g63a at h
 refine SCall.mkK Tryd.func63 c63 rfl rfl (by kernel_rfl) (fun Q_0 hR_0 hN_0=>?_)
 refine Sa ⟨[pR 1 0,pR 2 1,pR 3 2,pR 4 3],[(3,.var 113 [.yld]),(0,.var 81 (catV (cv39 o0_HairBook) [.fmp (List.map m107_47 mf)])),(1,.var 94 [.d (.fn 61)]),(2,.var 57 [.clo 45 [.agg [.d (.sl 4 (List.map e62 m0_HairBook.Hanks)),.d (.sl 3 (List.map e64 m0_HairBook.Horses)),jI m0_HairBook.Dark,jI m0_HairBook.Near,jI m0_HairBook.Match,.fmp (List.map m107_47 mf_1)]] []])],4,(fr_ s_),[],3⟩ ?_
 refine Sa ⟨[pR 1 0,pR 2 1,pR 3 2,pR 4 3,pR 5 4],[(4,.var 113 [.d (.nilFn)]),(3,.var 113 [.yld]),(0,.var 81 (catV (cv39 o0_HairBook) [.fmp (List.map m107_47 mf)])),(1,.var 94 [.d (.fn 61)]),(2,.var 57 [.clo 45 [.agg [.d (.sl 4 (List.map e62 m0_HairBook.Hanks)),.d (.sl 3 (List.map e64 m0_HairBook.Horses)),jI m0_HairBook.Dark,jI m0_HairBook.Near,jI m0_HairBook.Match,.fmp (List.map m107_47 mf_1)]] []])],5,(fr_ s_),[],3⟩ ?_
 refine Sa ⟨[pR 5 4],[(4,.var 113 [.clo 64 [] [.ptr 0 0,.ptr 3 0,.ptr 1 0,.ptr 2 0,.ptr 4 0]]),(3,.var 113 [.yld]),(0,.var 81 (catV (cv39 o0_HairBook) [.fmp (List.map m107_47 mf)])),(1,.var 94 [.d (.fn 61)]),(2,.var 57 [.clo 45 [.agg [.d (.sl 4 (List.map e62 m0_HairBook.Hanks)),.d (.sl 3 (List.map e64 m0_HairBook.Horses)),jI m0_HairBook.Dark,jI m0_HairBook.Near,jI m0_HairBook.Match,.fmp (List.map m107_47 mf_1)]] []])],5,(fr_ s_),[],3⟩ ?_
 refine AW.drw fokW ?_
 refine aX 1 ⟨[(7,.clo 64 [] [.ptr 0 0,.ptr 3 0,.ptr 1 0,.ptr 2 0,.ptr 4 0])],[(4,.var 113 [.clo 64 [] [.ptr 0 0,.ptr 3 0,.ptr 1 0,.ptr 2 0,.ptr 4 0]]),(3,.var 113 [.yld]),(0,.var 81 (catV (cv39 o0_HairBook) [.fmp (List.map m107_47 mf)])),(1,.var 94 [.d (.fn 61)]),(2,.var 57 [.clo 45 [.agg [.d (.sl 4 (List.map e62 m0_HairBook.Hanks)),.d (.sl 3 (List.map e64 m0_HairBook.Horses)),jI m0_HairBook.Dark,jI m0_HairBook.Near,jI m0_HairBook.Match,.fmp (List.map m107_47 mf_1)]] []])],5,(fr_ s_),[],3⟩ ?_
 obtain ⟨r0,hx_2,h⟩:=bsome h
 refine r_call trivial rfl (k59 _ hx_2) rfl rfl ?_
 obtain ⟨⟨r0_7,s_5⟩,hx_3,h⟩:=bsome h
 refine r_callvS (zr:=[]) [0,3,1,2,4] trivial rfl (.clo _ _ _) (by kernel_rfl) rfl (k64a fr_ c_ hc_ 1000 ([]:(List Int)) r0 o0_HairBook mf m0_HairBook mf_1 s_ _ hx_3) ⟨rfl,rfl,rfl,rfl,rfl,trivial⟩ rfl rfl ⟨(.nil 1),.refl _,.refl _,.refl _,.refl _,.refl _,.refl _,trivial⟩ rfl rfl rfl ?_
 refine Fi ⟨[],[(0,.var 81 (catV (cv39 o0_HairBook) [.fmp (List.map m107_47 mf)])),(1,.var 94 [.d (.fn 61)]),(2,.var 57 [.clo 45 [.agg [.d (.sl 4 (List.map e62 m0_HairBook.Hanks)),.d (.sl 3 (List.map e64 m0_HairBook.Horses)),jI m0_HairBook.Dark,jI m0_HairBook.Near,jI m0_HairBook.Match,.fmp (List.map m107_47 mf_1)]] []])],5,(fr_ s_5),[],3⟩ ?_
 obtain rfl:=Option.some.inj h
 exact hN_0 _ (retX .nil (.refl _) rfl (by kernel_rfl) (by kernel_rfl))
def g43_r11:((List Int)×(Nat→Int))→(Unit)→Option (Ctl (Unit) (Unit)):=fun (a,a1) _=>some (.brk ())
def g43_16 (rec_:(List HairHank)→HairBook→Option Bool) (hanks:(List HairHank)) (o0:HairBook) (p:HairHank):Int→Unit→Option (Ctl (Unit) (Ctl (Unit) (Ctl (Unit) (Bool)))):=fun v _=>(slcL hanks 0 (hanks.length:Int)).bind fun l=>(appL 32 l [(HairHank.mk p.Weight (Span.mk (wr (p.Shade.Low+v)) (wr (p.Shade.Low+v))))]).bind fun l1=>(rec_ l1 o0).bind fun r0_4_1=>bif r0_4_1 then (some (.brk (.brk (.brk true)))) else (some (.next ()))
def g43:Nat→(List HairHank)→HairBook→Option Bool
 | 0,_,_=>none
 | n_+1,hanks,o0=>bif (decide ((hanks.length:Int)=(o0.Hanks.length:Int))) then ((g31 (HairBook.mk hanks o0.Horses o0.Dark o0.Near o0.Match)).bind fun (r0_HairBook,mf)=>(g40).bind fun _=>(g44a r0_HairBook mf r0_HairBook mf).bind fun (o0_HairBook,mf1)=>(g63a (fun a a1 s=>rndC g43_r11 (a,a1) s) o0_HairBook mf1 r0_HairBook mf (.next ())).bind fun out_11=>match out_11 with | .next _=>some false | .brk _=>some true) else ((ixL o0.Hanks (hanks.length:Int)).bind fun p=>bindC (bindC (bindC (forC (g43_16 (g43 n_) hanks o0 p) ((((wr ((wr (p.Shade.High - p.Shade.Low))+1)):Int) - 0).toNat) 0 ()) fun _=>some (.next ()):Option (Ctl (Unit) (Ctl (Unit) (Bool)))) fun _=>some (.next ()):Option (Ctl (Unit) (Bool))) fun _=>some false)
theorem k43:∀ (n_:Nat) (hanks:(List HairHank)) (o0:HairBook) (r:Bool) (h:g43 n_ hanks o0=some r),SCall Tryd.prog Gs 43 [.d (.sl 4 (List.map e62 hanks)),.ptr 0 0,.ptr 1 0] [(0,.var 39 (cv39 o0)),(1,.var 97 [.clo 43 [] [.ptr 0 0,.ptr 1 0]])] 2 Fr.emp (.d (.bool r)) [(0,.var 39 (cv39 o0)),(1,.var 97 [.clo 43 [] [.ptr 0 0,.ptr 1 0]])] 2 Fr.emp:=by
 intro n_
 induction n_ with
 | zero=>intro hanks o0 r h;cases h
 | succ n_ ih=>
  intro hanks o0 r h
  rw [g43] at h
  refine SCall.mkK Tryd.func43 c43 rfl rfl (by kernel_rfl) (fun Q_0 hR_0 hN_0=>?_)
  refine Sa (sT [(0,.d (.sl 4 (List.map e62 hanks))),pR 1 0,pR 2 1,pR 4 2] [(2,.var 4 [.d (.bool false)]),(0,.var 39 (cv39 o0)),(1,.var 97 [.clo 43 [] [.ptr 0 0,.ptr 1 0]])] 3 2) ?_
  refine AW.srwK (fun Q_1 hQ_1=>?_)
  refine Au 1 (sT [(0,.d (.sl 4 (List.map e62 hanks))),pR 1 0,pR 2 1,pR 4 2,(11,.d (.sl 4 (List.map e62 hanks)))] [(2,.var 4 [.d (.bool false)]),(0,.var 39 (cv39 o0)),(1,.var 97 [.clo 43 [] [.ptr 0 0,.ptr 1 0]])] 3 2) ?_
  refine rL rfl ?_
  refine Au 1 (sT [(0,.d (.sl 4 (List.map e62 hanks))),pR 1 0,pR 2 1,pR 4 2,(5,jI (hanks.length:Int))] [(2,.var 4 [.d (.bool false)]),(0,.var 39 (cv39 o0)),(1,.var 97 [.clo 43 [] [.ptr 0 0,.ptr 1 0]])] 3 2) ?_
  refine RW.nil (hQ_1 _ ?_)
  refine AW.seqK fun K_2 hK_2=>AW.srwK fun Q_3 hQ_3=>?_
  refine Au 3 (sT [(0,.d (.sl 4 (List.map e62 hanks))),pR 1 0,pR 2 1,pR 4 2,(5,jI (hanks.length:Int)),(13,jI (hanks.length:Int)),(15,.d (.sl 4 (List.map e62 o0.Hanks)))] [(2,.var 4 [.d (.bool false)]),(0,.var 39 (cv39 o0)),(1,.var 97 [.clo 43 [] [.ptr 0 0,.ptr 1 0]])] 3 2) ?_
  refine rL rfl ?_
  refine Au 1 (sT [(0,.d (.sl 4 (List.map e62 hanks))),pR 1 0,pR 2 1,pR 4 2,(5,jI (hanks.length:Int)),(17,.d (.bool (decide ((hanks.length:Int)=(o0.Hanks.length:Int)))))] [(2,.var 4 [.d (.bool false)]),(0,.var 39 (cv39 o0)),(1,.var 97 [.clo 43 [] [.ptr 0 0,.ptr 1 0]])] 3 2) ?_
  refine RW.nil (hQ_3 _ ?_)
  refine AW.cond rfl (fun hb_4=>?_) (fun hb_4=>?_)
  ·have h:=ifT hb_4 h
   refine Sa (sT [(0,.d (.sl 4 (List.map e62 hanks))),pR 4 2,pR 6 3] [(3,.var 39 (cv39 o0)),(2,.var 4 [.d (.bool false)]),(0,.var 39 (cv39 o0)),(1,.var 97 [.clo 43 [] [.ptr 0 0,.ptr 1 0]])] 4 2) ?_
   refine Sa (sT [pR 4 2,pR 6 3] [(3,.var 39 [.d (.sl 4 (List.map e62 hanks)),.d (.sl 3 (List.map e64 o0.Horses)),jI o0.Dark,jI o0.Near,jI o0.Match]),(2,.var 4 [.d (.bool false)]),(0,.var 39 (cv39 o0)),(1,.var 97 [.clo 43 [] [.ptr 0 0,.ptr 1 0]])] 4 2) ?_
   refine AW.srwK (fun Q_5 hQ_5=>?_)
   refine Au 1 (sT [pR 4 2,(21,.agg [.d (.sl 4 (List.map e62 hanks)),.d (.sl 3 (List.map e64 o0.Horses)),jI o0.Dark,jI o0.Near,jI o0.Match])] [(2,.var 4 [.d (.bool false)]),(0,.var 39 (cv39 o0)),(1,.var 97 [.clo 43 [] [.ptr 0 0,.ptr 1 0]])] 4 2) ?_
   obtain ⟨⟨r0_HairBook,mf⟩,hx_6,h⟩:=bsome h
   refine rC (k31 (HairBook.mk hanks o0.Horses o0.Dark o0.Near o0.Match) _ hx_6) ?_
   refine Au 2 (sT [pR 4 2,pR 7 4] [(4,.var 81 (catV (cv39 r0_HairBook) [.fmp (List.map m107_47 mf)])),(2,.var 4 [.d (.bool false)]),(0,.var 39 (cv39 o0)),(1,.var 97 [.clo 43 [] [.ptr 0 0,.ptr 1 0]])] 5 2) ?_
   refine RW.nil (hQ_5 _ ?_)
   refine AW.seqK (fun K_7 hK_7=>?_)
   refine AW.sdrwK fokW (fun Q_8 hQ_8=>?_)
   refine aX 1 (sT [pR 4 2,pR 7 4,(23,.agg [.d (.sl 4 (List.map e62 r0_HairBook.Hanks)),.d (.sl 3 (List.map e64 r0_HairBook.Horses)),jI r0_HairBook.Dark,jI r0_HairBook.Near,jI r0_HairBook.Match,.fmp (List.map m107_47 mf)])] [(4,.var 81 (catV (cv39 r0_HairBook) [.fmp (List.map m107_47 mf)])),(2,.var 4 [.d (.bool false)]),(0,.var 39 (cv39 o0)),(1,.var 97 [.clo 43 [] [.ptr 0 0,.ptr 1 0]])] 5 2) ?_
   obtain ⟨⟨⟩,hx_9,h⟩:=bsome h
   refine r_call trivial rfl (k40 _ hx_9) rfl rfl ?_
   refine aX 2 (sT [pR 4 2,(23,.agg [.d (.sl 4 (List.map e62 r0_HairBook.Hanks)),.d (.sl 3 (List.map e64 r0_HairBook.Horses)),jI r0_HairBook.Dark,jI r0_HairBook.Near,jI r0_HairBook.Match,.fmp (List.map m107_47 mf)]),(24,.agg [.d (.fn 61)]),(26,.clo 45 [.agg [.d (.sl 4 (List.map e62 r0_HairBook.Hanks)),.d (.sl 3 (List.map e64 r0_HairBook.Horses)),jI r0_HairBook.Dark,jI r0_HairBook.Near,jI r0_HairBook.Match,.fmp (List.map m107_47 mf)]] [])] [(4,.var 81 (catV (cv39 r0_HairBook) [.fmp (List.map m107_47 mf)])),(2,.var 4 [.d (.bool false)]),(0,.var 39 (cv39 o0)),(1,.var 97 [.clo 43 [] [.ptr 0 0,.ptr 1 0]])] 5 2) ?_
   obtain ⟨⟨o0_HairBook,mf1⟩,hx_10,h⟩:=bsome h
   refine r_callS (zr:=[]) [] trivial rfl (k44a r0_HairBook mf r0_HairBook mf _ hx_10) trivial rfl rfl ⟨.refl _,.refl _,.refl _,trivial⟩ rfl rfl rfl ?_
   refine Fi (sT [pR 4 2,(27,.clo 63 [] [.ptr 5 0,.ptr 6 0,.ptr 7 0])] [(5,.var 81 (catV (cv39 o0_HairBook) [.fmp (List.map m107_47 mf1)])),(6,.var 94 [.d (.fn 61)]),(7,.var 57 [.clo 45 [.agg [.d (.sl 4 (List.map e62 r0_HairBook.Hanks)),.d (.sl 3 (List.map e64 r0_HairBook.Horses)),jI r0_HairBook.Dark,jI r0_HairBook.Near,jI r0_HairBook.Match,.fmp (List.map m107_47 mf)]] []]),(2,.var 4 [.d (.bool false)]),(0,.var 39 (cv39 o0)),(1,.var 97 [.clo 43 [] [.ptr 0 0,.ptr 1 0]])] 8 2) ?_
   refine hQ_8 _ ?_
   refine AW.block ?_
   obtain ⟨out_11,hx_11,h⟩:=bsome h
   refine AW.rfX (fun (_:Unit)=>[(8,.dm),(2,.var 4 [.d (.bool false)]),(0,.var 39 (cv39 o0)),(1,.var 97 [.clo 43 [] [.ptr 0 0,.ptr 1 0]])]) (fun (_:Unit)=>[(8,.dm),(2,.var 4 [.d (.bool true)]),(0,.var 39 (cv39 o0)),(1,.var 97 [.clo 43 [] [.ptr 0 0,.ptr 1 0]])]) (fun _=>some .ret) g43_r11 (fun (⟨a,a1⟩:(List Int)×(Nat→Int))=>[.d (.sl 1 (List.map e3 a)),.agg [jI (a1 0),jI (a1 1),jI (a1 2),jI (a1 3),jI (a1 4)]]) (s0:=()) (out:=out_11) [pR 4 2] [(2,.var 4 [.d (.bool false)]),(0,.var 39 (cv39 o0)),(1,.var 97 [.clo 43 [] [.ptr 0 0,.ptr 1 0]])] [5,6,7] rfl (.clo _ _ _) (by kernel_rfl) (by kernel_rfl) (fun fr_ hY_11=>k63a fr_ _ (fun a a1 s s2 b h=>hY_11 (a,a1) s s2 b h) o0_HairBook mf1 r0_HairBook mf (.next ()) _ hx_11) (by kernel_rfl) ⟨rfl,rfl,rfl,trivial⟩ rfl ⟨rfl,rfl⟩ rfl rfl (fun _=>rfl) (fun _=>rfl) (fun a_11 s_11 c_11 h l_11=>?_) (fun _=>rfl) ?_
   ·obtain ⟨a,a1⟩:=a_11
    unfold g43_r11 at h
    refine AW.skip ?_
    refine AW.block ?_
    refine AW.sa (fokR l_11) [] (sT [pR 4 2] [(2,.var 4 [.d (.bool true)]),(8,.dm),(0,.var 39 (cv39 o0)),(1,.var 97 [.clo 43 [] [.ptr 0 0,.ptr 1 0]])] 9 9) (by kernel_rfl) ?_
    refine AW.ret ?_
    obtain rfl:=Option.some.inj h
    exact ⟨(sT [] [(8,.dm),(2,.var 4 [.d (.bool true)]),(0,.var 39 (cv39 o0)),(1,.var 97 [.clo 43 [] [.ptr 0 0,.ptr 1 0]])] 9 9),Can.kp (by kernel_rfl),rdX trivial rfl (by kernel_rfl) (by kernel_rfl)⟩
   ·rcases out_11 with _ | _
    ·refine hK_7 _ ?_
     refine Sa ⟨[pR 4 2],[(2,.var 4 [.d (.bool false)]),(8,.dm),(0,.var 39 (cv39 o0)),(1,.var 97 [.clo 43 [] [.ptr 0 0,.ptr 1 0]])],9,Fr.emp,[8],2⟩ ?_
     obtain rfl:=Option.some.inj h
     exact rT hR_0 (.cons (.one rfl rfl rfl) .nil)
    ·obtain rfl:=Option.some.inj h
     exact hR_0 _ (retX (.cons (.one rfl rfl rfl) .nil) (.refl _) rfl (by kernel_rfl) (by kernel_rfl))
  ·have h:=ifF hb_4 h
   refine AW.skip (hK_2 _ ?_)
   refine AW.srwK (fun Q_12 hQ_12=>?_)
   refine Au 3 (sT [(0,.d (.sl 4 (List.map e62 hanks))),pR 1 0,pR 2 1,pR 4 2,(5,jI (hanks.length:Int)),(31,.d (.sl 4 (List.map e62 o0.Hanks))),(32,jI (hanks.length:Int))] [(2,.var 4 [.d (.bool false)]),(0,.var 39 (cv39 o0)),(1,.var 97 [.clo 43 [] [.ptr 0 0,.ptr 1 0]])] 3 2) ?_
   obtain ⟨p,hv_13,h⟩:=bsome h
   refine RW.one fokW (r_iaD trivial rfl rfl (ixL_ok hv_13).1 (row:=e62 p) (mapget (ixL_ok hv_13).2) (r_end ?_))
   refine Au 4 (sT [(0,.d (.sl 4 (List.map e62 hanks))),pR 1 0,pR 2 1,pR 4 2,(5,jI (hanks.length:Int)),pR 8 3] [(3,.var 47 [jI p.Shade.Low,jI p.Shade.High]),(2,.var 4 [.d (.bool false)]),(0,.var 39 (cv39 o0)),(1,.var 97 [.clo 43 [] [.ptr 0 0,.ptr 1 0]])] 4 2) ?_
   refine RW.nil (hQ_12 _ ?_)
   obtain ⟨c_14,hx_14,hk_14⟩:=bsomeC h
   refine AW.jnK (fun (_:Unit)=>(sT [pR 4 2] [(2,.var 4 [.d (.bool false)]),(0,.var 39 (cv39 o0)),(1,.var 97 [.clo 43 [] [.ptr 0 0,.ptr 1 0]])] 4 2)) (c:=c_14) (fun K_14 hK_14=>?_) (fun j_14 hj_14=>?_)
   ·have h:=hx_14
    refine Sa (sT [(0,.d (.sl 4 (List.map e62 hanks))),pR 1 0,pR 2 1,pR 4 2,(5,jI (hanks.length:Int)),pR 8 3,(41,jI (wr ((wr (p.Shade.High - p.Shade.Low))+1))),(42,jI 0)] [(3,.var 47 [jI p.Shade.Low,jI p.Shade.High]),(2,.var 4 [.d (.bool false)]),(0,.var 39 (cv39 o0)),(1,.var 97 [.clo 43 [] [.ptr 0 0,.ptr 1 0]])] 4 2) ?_
    obtain ⟨c_15,hx_15,hk_15⟩:=bsomeC h
    refine AW.jqK (fun (_:Unit)=>(sT [pR 4 2] [(2,.var 4 [.d (.bool false)]),(0,.var 39 (cv39 o0)),(1,.var 97 [.clo 43 [] [.ptr 0 0,.ptr 1 0]])] 4 2)) (c:=c_15) (fun K_15 hK_15=>?_) (fun j_15 hj_15=>?_)
    ·have h:=hx_15
     refine AW.block ?_
     have hN_16:(wr ((wr (p.Shade.High - p.Shade.Low))+1))≤9223372036854775807:=(wr_range _).2
     obtain ⟨out_16,hx_16,hk_16⟩:=bsomeC h
     refine AW.lpCK (fun (v:Int) (_:Unit)=>(sT [(0,.d (.sl 4 (List.map e62 hanks))),pR 1 0,pR 2 1,pR 4 2,(5,jI (hanks.length:Int)),pR 8 3,(41,jI (wr ((wr (p.Shade.High - p.Shade.Low))+1))),(42,jI v)] [(3,.var 47 [jI p.Shade.Low,jI p.Shade.High]),(2,.var 4 [.d (.bool false)]),(0,.var 39 (cv39 o0)),(1,.var 97 [.clo 43 [] [.ptr 0 0,.ptr 1 0]])] 4 2)) (g43_16 (g43 n_) hanks o0 p) ((wr ((wr (p.Shade.High - p.Shade.Low))+1))) hx_16 (Can.kp (by kernel_rfl)) (fun v s_16 hi_16 hl_16 c_16 h hb_16 K_16 hK_16=>?_) (fun v s_16 hi_16 hl_16 hout=>?_)
     ·unfold g43_16 at h
      refine Sa (sT [(0,.d (.sl 4 (List.map e62 hanks))),pR 1 0,pR 2 1,pR 4 2,(5,jI (hanks.length:Int)),pR 8 3,(41,jI (wr ((wr (p.Shade.High - p.Shade.Low))+1))),(42,jI v),(43,.d (.bool (decide (v<(wr ((wr (p.Shade.High - p.Shade.Low))+1))))))] [(3,.var 47 [jI p.Shade.Low,jI p.Shade.High]),(2,.var 4 [.d (.bool false)]),(0,.var 39 (cv39 o0)),(1,.var 97 [.clo 43 [] [.ptr 0 0,.ptr 1 0]])] 4 2) ?_
      refine AW.seqK (fun K_17 hK_17=>?_)
      refine AW.cond rfl (fun hb_18=>?_) (fun hb_18=>False.elim (by have:=of_decide_eq_false hb_18;omega))
      refine AW.skip (hK_17 _ ?_)
      refine AW.seqK (fun K_19 hK_19=>?_)
      refine AW.block ?_
      refine Sa (sT [(0,.d (.sl 4 (List.map e62 hanks))),pR 1 0,pR 2 1,pR 4 2,(5,jI (hanks.length:Int)),pR 8 3,(9,jI v),(41,jI (wr ((wr (p.Shade.High - p.Shade.Low))+1))),(42,jI v)] [(3,.var 47 [jI p.Shade.Low,jI p.Shade.High]),(2,.var 4 [.d (.bool false)]),(0,.var 39 (cv39 o0)),(1,.var 97 [.clo 43 [] [.ptr 0 0,.ptr 1 0]])] 4 2) ?_
      refine Sa (sT [(0,.d (.sl 4 (List.map e62 hanks))),pR 1 0,pR 2 1,pR 4 2,(5,jI (hanks.length:Int)),pR 8 3,pR 10 4,(41,jI (wr ((wr (p.Shade.High - p.Shade.Low))+1))),(42,jI v)] [(4,.var 47 [jI (wr (p.Shade.Low+v)),jI (wr (p.Shade.Low+v))]),(3,.var 47 [jI p.Shade.Low,jI p.Shade.High]),(2,.var 4 [.d (.bool false)]),(0,.var 39 (cv39 o0)),(1,.var 97 [.clo 43 [] [.ptr 0 0,.ptr 1 0]])] 5 2) ?_
      refine AW.sdrwK fokW (fun Q_20 hQ_20=>?_)
      refine aX 4 (sT [(0,.d (.sl 4 (List.map e62 hanks))),pR 1 0,pR 2 1,pR 4 2,(5,jI (hanks.length:Int)),pR 8 3,pR 10 4,(41,jI (wr ((wr (p.Shade.High - p.Shade.Low))+1))),(42,jI v),(54,.clo 43 [] [.ptr 0 0,.ptr 1 0]),(55,.d (.sl 4 (List.map e62 hanks))),(56,jI (hanks.length:Int)),(57,jI (hanks.length:Int))] [(4,.var 47 [jI (wr (p.Shade.Low+v)),jI (wr (p.Shade.Low+v))]),(3,.var 47 [jI p.Shade.Low,jI p.Shade.High]),(2,.var 4 [.d (.bool false)]),(0,.var 39 (cv39 o0)),(1,.var 97 [.clo 43 [] [.ptr 0 0,.ptr 1 0]])] 5 2) ?_
      obtain ⟨l,hv_21,h⟩:=bsome h
      refine r_slN trivial rfl rfl rfl DSl.d (slcL_ok hv_21).2.1 (by rw [List.length_map];exact (slcL_ok hv_21).2.2.1) rfl (slz hv_21 e62) ?_
      refine aX 3 (sT [(0,.d (.sl 4 (List.map e62 hanks))),pR 1 0,pR 2 1,pR 4 2,(5,jI (hanks.length:Int)),pR 8 3,pR 10 4,(41,jI (wr ((wr (p.Shade.High - p.Shade.Low))+1))),(42,jI v),(54,.clo 43 [] [.ptr 0 0,.ptr 1 0]),(58,.fsl 4 (List.map e62 l)),(60,.d (.sl 4 (List.map e62 o0.Hanks))),(61,jI (hanks.length:Int))] [(4,.var 47 [jI (wr (p.Shade.Low+v)),jI (wr (p.Shade.Low+v))]),(3,.var 47 [jI p.Shade.Low,jI p.Shade.High]),(2,.var 4 [.d (.bool false)]),(0,.var 39 (cv39 o0)),(1,.var 97 [.clo 43 [] [.ptr 0 0,.ptr 1 0]])] 5 2) ?_
      refine r_iaD trivial rfl rfl (ixL_ok hv_13).1 (row:=e62 p) (mapget (ixL_ok hv_13).2) ?_
      refine aX 5 (sT [(0,.d (.sl 4 (List.map e62 hanks))),pR 1 0,pR 2 1,pR 4 2,(5,jI (hanks.length:Int)),pR 8 3,(41,jI (wr ((wr (p.Shade.High - p.Shade.Low))+1))),(42,jI v),(54,.clo 43 [] [.ptr 0 0,.ptr 1 0]),(58,.fsl 4 (List.map e62 l)),(67,.own 5 (List.map e62 [(HairHank.mk p.Weight (Span.mk (wr (p.Shade.Low+v)) (wr (p.Shade.Low+v))))]).length)] [(5,.row 62 4 (List.map e62 [(HairHank.mk p.Weight (Span.mk (wr (p.Shade.Low+v)) (wr (p.Shade.Low+v))))])),(4,.var 47 [jI (wr (p.Shade.Low+v)),jI (wr (p.Shade.Low+v))]),(3,.var 47 [jI p.Shade.Low,jI p.Shade.High]),(2,.var 4 [.d (.bool false)]),(0,.var 39 (cv39 o0)),(1,.var 97 [.clo 43 [] [.ptr 0 0,.ptr 1 0]])] 6 2) ?_
      obtain ⟨l1,hv_22,h⟩:=bsome h
      refine r_apF trivial rfl rfl rfl rfl (by simp) (zs:=List.map e62 l1) (apz hv_22 e62) (apr hv_22 e62) ?_
      obtain ⟨r0_4_1,hx_23,h⟩:=bsome h
      refine r_callvE (zr:=[(6,.row 62 4 (List.map e62 l1))]) [0,1] trivial rfl (.clo _ _ _) (by kernel_rfl) rfl (ih l1 o0 _ hx_23) ⟨rfl,rfl,rfl,trivial⟩ rfl rfl ⟨(.own rfl rfl),.refl _,.refl _,trivial⟩ rfl rfl rfl ?_
      refine Fi (sT [(0,.d (.sl 4 (List.map e62 hanks))),pR 1 0,pR 2 1,pR 4 2,(5,jI (hanks.length:Int)),pR 8 3,(41,jI (wr ((wr (p.Shade.High - p.Shade.Low))+1))),(42,jI v),(69,.d (.bool r0_4_1))] [(0,.var 39 (cv39 o0)),(1,.var 97 [.clo 43 [] [.ptr 0 0,.ptr 1 0]]),(3,.var 47 [jI p.Shade.Low,jI p.Shade.High]),(2,.var 4 [.d (.bool false)])] 7 2) ?_
      refine hQ_20 _ ?_
      refine AW.cond rfl (fun hb_24=>?_) (fun hb_24=>?_)
      ·have h:=ifT hb_24 h
       refine Sa (sT [pR 4 2] [(2,.var 4 [.d (.bool true)]),(0,.var 39 (cv39 o0)),(1,.var 97 [.clo 43 [] [.ptr 0 0,.ptr 1 0]])] 7 2) ?_
       obtain rfl:=Option.some.inj h
       have e_3:=hb_16 _ rfl
       subst e_3
       obtain rfl:=Aft.bk hk_16
       obtain rfl:=Aft.bk hk_15
       obtain rfl:=Aft.bk hk_14
       exact rT hR_0 (.cons (.one rfl rfl rfl) .nil)
      ·have h:=ifF hb_24 h
       refine AW.skip (hK_19 _ ?_)
       refine Ra (sT [(0,.d (.sl 4 (List.map e62 hanks))),pR 1 0,pR 2 1,pR 4 2,(5,jI (hanks.length:Int)),pR 8 3,(41,jI (wr ((wr (p.Shade.High - p.Shade.Low))+1))),(42,jI (wr (v+1)))] [(0,.var 39 (cv39 o0)),(1,.var 97 [.clo 43 [] [.ptr 0 0,.ptr 1 0]]),(3,.var 47 [jI p.Shade.Low,jI p.Shade.High]),(2,.var 4 [.d (.bool false)])] 7 2) ?_
       obtain rfl:=Option.some.inj h
       have ew:wr (v+1)=v+1:=inext (N:=(wr ((wr (p.Shade.High - p.Shade.Low))+1))) (by omega) (by omega) (by omega)
       rw [ew]
       exact hK_16 _ _ rfl (Can.kp (by kernel_rfl))
     ·subst hout
      have h:=Aft.nx hk_16
      refine Sa (sT [(0,.d (.sl 4 (List.map e62 hanks))),pR 1 0,pR 2 1,pR 4 2,(5,jI (hanks.length:Int)),pR 8 3,(41,jI (wr ((wr (p.Shade.High - p.Shade.Low))+1))),(42,jI v),(43,.d (.bool (decide (v<(wr ((wr (p.Shade.High - p.Shade.Low))+1))))))] [(3,.var 47 [jI p.Shade.Low,jI p.Shade.High]),(2,.var 4 [.d (.bool false)]),(0,.var 39 (cv39 o0)),(1,.var 97 [.clo 43 [] [.ptr 0 0,.ptr 1 0]])] 4 2) ?_
      refine AW.seqK (fun K_25 hK_25=>?_)
      refine AW.cond rfl (fun hb_26=>False.elim (by have:=of_decide_eq_true hb_26;omega)) (fun hb_26=>?_)
      refine AW.exit ?_
      obtain rfl:=Option.some.inj h
      exact hK_15 _ _ rfl (Can.kp (by kernel_rfl))
    ·subst hj_15
     have h:=Aft.nx hk_15
     obtain rfl:=Option.some.inj h
     exact hK_14 _ _ rfl (Can.kp (by kernel_rfl))
   ·subst hj_14
    have h:=Aft.nx hk_14
    refine Sa (sT [pR 4 2] [(2,.var 4 [.d (.bool false)]),(0,.var 39 (cv39 o0)),(1,.var 97 [.clo 43 [] [.ptr 0 0,.ptr 1 0]])] 4 2) ?_
    obtain rfl:=Option.some.inj h
    exact rT hR_0 (.cons (.one rfl rfl rfl) .nil)
def g16 (x:HairBook):Option (Bool×Int):=(g30 x).bind fun r0_9=>bif (decide (r0_9≠0)) then (some (false,r0_9)) else ((g43 1000 ([]:(List HairHank)) x).bind fun r0_4=>some (r0_4,0))
theorem k16 (x:HairBook) (r:Bool×Int) (h:g16 x=some r):SCall Tryd.prog Gs 16 [.agg [.d (.sl 4 (List.map e62 x.Hanks)),.d (.sl 3 (List.map e64 x.Horses)),jI x.Dark,jI x.Near,jI x.Match]] [] 0 Fr.emp (match r with | (r0_1,r1_1)=>.tup [.d (.bool r0_1),jI r1_1]) [] 0 Fr.emp:=by
 unfold g16 at h
 refine SCall.mkK Tryd.func16 c16 rfl rfl (by kernel_rfl) (fun Q_0 hR_0 hN_0=>?_)
 refine Sa (sT [pR 1 0] [(0,.var 39 (cv39 x))] 1 0) ?_
 refine AW.seqK fun K_1 hK_1=>AW.srwK fun Q_2 hQ_2=>?_
 refine Au 1 (sT [pR 1 0,(6,.agg [.d (.sl 4 (List.map e62 x.Hanks)),.d (.sl 3 (List.map e64 x.Horses)),jI x.Dark,jI x.Near,jI x.Match])] [(0,.var 39 (cv39 x))] 1 0) ?_
 obtain ⟨r0_9,hx_3,h⟩:=bsome h
 refine rC (k30 x _ hx_3) ?_
 refine Au 1 (sT [pR 1 0,(4,jI r0_9)] [(0,.var 39 (cv39 x))] 1 0) ?_
 refine RW.nil (hQ_2 _ ?_)
 refine Sa (sT [pR 1 0,(4,jI r0_9),(9,.d (.bool (decide (r0_9≠0))))] [(0,.var 39 (cv39 x))] 1 0) ?_
 refine AW.cond rfl (fun hb_4=>?_) (fun hb_4=>?_)
 ·have h:=ifT hb_4 h
  refine Sa (sT [(2,.d (.bool false)),(3,jI r0_9)] [] 1 0) ?_
  obtain rfl:=Option.some.inj h
  exact rT hR_0 (.cons (.tmp rfl) (.cons (.tmp rfl) .nil))
 ·have h:=ifF hb_4 h
  refine AW.skip (hK_1 _ ?_)
  refine Sa (sT [pR 1 0,pR 5 1] [(1,.var 97 [.d (.nilFn)]),(0,.var 39 (cv39 x))] 2 0) ?_
  refine Sa (sT [pR 5 1] [(1,.var 97 [.clo 43 [] [.ptr 0 0,.ptr 1 0]]),(0,.var 39 (cv39 x))] 2 0) ?_
  refine AW.srwK (fun Q_5 hQ_5=>?_)
  refine Au 1 (sT [(12,.clo 43 [] [.ptr 0 0,.ptr 1 0])] [(1,.var 97 [.clo 43 [] [.ptr 0 0,.ptr 1 0]]),(0,.var 39 (cv39 x))] 2 0) ?_
  obtain ⟨r0_4,hx_6,h⟩:=bsome h
  refine RW.one fokW (r_callvE (zr:=[]) [0,1] trivial rfl (.clo _ _ _) (by kernel_rfl) rfl (k43 1000 ([]:(List HairHank)) x _ hx_6) ⟨rfl,rfl,trivial⟩ rfl rfl ⟨(.nil 4),.refl _,.refl _,trivial⟩ rfl rfl rfl (r_end ?_))
  refine Au 2 (sT [(2,.d (.bool r0_4)),(3,jI 0)] [] 2 0) ?_
  refine RW.nil (hQ_5 _ ?_)
  obtain rfl:=Option.some.inj h
  exact rT hR_0 (.cons (.tmp rfl) (.cons (.tmp rfl) .nil))
def g51 (x:PlankBook) (n:Int):Option Bool:=(g48 n 0 (wr ((x.Planks.length:Int) - 1))).bind fun r0=>some r0
theorem k51 (x:PlankBook) (n:Int) (r:Bool) (h:g51 x n=some r):SCall Tryd.prog Gs 51 [.agg [.d (.sl 2 (List.map e32 x.Planks)),.d (.sl 3 (List.map e35 x.Parts))],jI n] [] 0 Fr.emp (.d (.bool r)) [] 0 Fr.emp:=by
 unfold g51 at h
 refine SCall.mkK Tryd.func51 c51 rfl rfl (by kernel_rfl) (fun Q_0 hR_0 hN_0=>?_)
 refine Sa (sT [(1,jI n),pR 2 0] [(0,.var 25 [.d (.sl 2 (List.map e32 x.Planks)),.d (.sl 3 (List.map e35 x.Parts))])] 1 0) ?_
 refine AW.srwK (fun Q_1 hQ_1=>?_)
 refine Au 3 (sT [(5,jI n),(7,.d (.sl 2 (List.map e32 x.Planks)))] [] 1 0) ?_
 refine rL rfl ?_
 refine Au 1 (sT [(5,jI n),(9,jI (wr ((x.Planks.length:Int) - 1)))] [] 1 0) ?_
 obtain ⟨r0,hx_2,h⟩:=bsome h
 refine rC (k48 n 0 (wr ((x.Planks.length:Int) - 1)) _ hx_2) ?_
 refine Au 1 (sT [(4,.d (.bool r0))] [] 1 0) ?_
 refine RW.nil (hQ_1 _ ?_)
 obtain rfl:=Option.some.inj h
 exact rT hR_0 (.cons (.tmp rfl) .nil)
def g52 (x:PlankBook) (n:Int):Option Bool:=(g48 n 0 (wr ((x.Parts.length:Int) - 1))).bind fun r0=>some r0
theorem k52 (x:PlankBook) (n:Int) (r:Bool) (h:g52 x n=some r):SCall Tryd.prog Gs 52 [.agg [.d (.sl 2 (List.map e32 x.Planks)),.d (.sl 3 (List.map e35 x.Parts))],jI n] [] 0 Fr.emp (.d (.bool r)) [] 0 Fr.emp:=by
 unfold g52 at h
 refine SCall.mkK Tryd.func52 c52 rfl rfl (by kernel_rfl) (fun Q_0 hR_0 hN_0=>?_)
 refine Sa (sT [(1,jI n),pR 2 0] [(0,.var 25 [.d (.sl 2 (List.map e32 x.Planks)),.d (.sl 3 (List.map e35 x.Parts))])] 1 0) ?_
 refine AW.srwK (fun Q_1 hQ_1=>?_)
 refine Au 3 (sT [(5,jI n),(7,.d (.sl 3 (List.map e35 x.Parts)))] [] 1 0) ?_
 refine rL rfl ?_
 refine Au 1 (sT [(5,jI n),(9,jI (wr ((x.Parts.length:Int) - 1)))] [] 1 0) ?_
 obtain ⟨r0,hx_2,h⟩:=bsome h
 refine rC (k48 n 0 (wr ((x.Parts.length:Int) - 1)) _ hx_2) ?_
 refine Au 1 (sT [(4,.d (.bool r0))] [] 1 0) ?_
 refine RW.nil (hQ_1 _ ?_)
 obtain rfl:=Option.some.inj h
 exact rT hR_0 (.cons (.tmp rfl) .nil)
def g21_9 (x:PlankBook):Int→Int→(Bool×Int)→Option (Bool×Int):=fun v p (ok,last)=>(bif ok then ((g52 x p).bind fun r0_1_1=>some r0_1_1) else (some false)).bind fun v1=>some ((v1&&(decide (last<p))),p)
def g21 (x:PlankBook) (plank:Int) (parts:(List Int)):Option ((List Int)×Int):=(g18 x).bind fun r0_4=>bif (decide (r0_4≠0)) then (some ([],r0_4)) else ((g51 x plank).bind fun r0_1=>(eachS (g21_9 x) parts 0 (r0_1,(-1))).bind fun (ok,last)=>bif (!ok) then (some ([],11)) else ((g23 x).bind fun (r0_PlankBook,m2)=>(must (wimB m2)).bind fun _=>(g53 r0_PlankBook plank parts).bind fun (r0_1_2,r1)=>bif (!r1) then (some ([],4)) else ((slcL r0_1_2 0 (r0_1_2.length:Int)).bind fun l=>some (l,0))))
def y29 (x:PlankBook):List (Nat×Blk):=[(0,.var 25 [.d (.sl 2 (List.map e32 x.Planks)),.d (.sl 3 (List.map e35 x.Parts))])]
theorem k21 (x:PlankBook) (plank:Int) (parts:(List Int)) (r:(List Int)×Int) (h:g21 x plank parts=some r):SCall Tryd.prog Gs 21 [.agg [.d (.sl 2 (List.map e32 x.Planks)),.d (.sl 3 (List.map e35 x.Parts))],jI plank,.d (.sl 1 (List.map e3 parts))] [] 0 Fr.emp (match r with | (r0_5,r1_4)=>.tup [.d (.sl 1 (List.map e3 r0_5)),jI r1_4]) [] 0 Fr.emp:=by
 unfold g21 at h
 refine SCall.mkK Tryd.func21 c21 rfl rfl (by kernel_rfl) (fun Q_0 hR_0 hN_0=>?_)
 refine Sa (sT [(1,jI plank),(2,.d (.sl 1 (List.map e3 parts))),pR 3 0] (y29 x) 1 0) ?_
 refine AW.seqK fun K_1 hK_1=>AW.srwK fun Q_2 hQ_2=>?_
 refine Au 1 (sT [(1,jI plank),(2,.d (.sl 1 (List.map e3 parts))),pR 3 0,(15,.agg [.d (.sl 2 (List.map e32 x.Planks)),.d (.sl 3 (List.map e35 x.Parts))])] (y29 x) 1 0) ?_
 obtain ⟨r0_4,hx_3,h⟩:=bsome h
 refine rC (k18 x _ hx_3) ?_
 refine Au 1 (sT [(1,jI plank),(2,.d (.sl 1 (List.map e3 parts))),pR 3 0,(8,jI r0_4)] (y29 x) 1 0) ?_
 refine RW.nil (hQ_2 _ ?_)
 refine Sa (sT [(1,jI plank),(2,.d (.sl 1 (List.map e3 parts))),pR 3 0,(8,jI r0_4),(18,.d (.bool (decide (r0_4≠0))))] (y29 x) 1 0) ?_
 refine AW.cond rfl (fun hb_4=>?_) (fun hb_4=>?_)
 ·have h:=ifT hb_4 h
  refine Sa (sT [(6,.d (.nilSl)),(7,jI r0_4)] [] 1 0) ?_
  obtain rfl:=Option.some.inj h
  exact AW.ret (hR_0 _ (retX (.cons (.tmp rfl) (.cons (.tmp rfl) .nil)) (Frz.tup_of ⟨.nil 1,.refl _,trivial⟩) rfl (by kernel_rfl) (by kernel_rfl)))
 ·have h:=ifF hb_4 h
  refine AW.skip (hK_1 _ ?_)
  refine AW.srwK (fun Q_5 hQ_5=>?_)
  refine Au 2 (sT [(1,jI plank),(2,.d (.sl 1 (List.map e3 parts))),pR 3 0,(20,.agg [.d (.sl 2 (List.map e32 x.Planks)),.d (.sl 3 (List.map e35 x.Parts))]),(21,jI plank)] (y29 x) 1 0) ?_
  obtain ⟨r0_1,hx_6,h⟩:=bsome h
  refine rC (k51 x plank _ hx_6) ?_
  refine Au 1 (sT [(1,jI plank),(2,.d (.sl 1 (List.map e3 parts))),pR 3 0,(9,.d (.bool r0_1))] (y29 x) 1 0) ?_
  refine RW.nil (hQ_5 _ ?_)
  refine Sa (sT [(1,jI plank),(2,.d (.sl 1 (List.map e3 parts))),pR 3 0,(9,.d (.bool r0_1)),(10,jI (-1))] (y29 x) 1 0) ?_
  refine AW.seqK fun K_7 hK_7=>AW.srwK fun Q_8 hQ_8=>?_
  refine Au 1 (sT [(1,jI plank),(2,.d (.sl 1 (List.map e3 parts))),pR 3 0,(9,.d (.bool r0_1)),(10,jI (-1)),(23,.d (.sl 1 (List.map e3 parts)))] (y29 x) 1 0) ?_
  refine rL rfl ?_
  refine Au 1 (sT [(1,jI plank),(2,.d (.sl 1 (List.map e3 parts))),pR 3 0,(9,.d (.bool r0_1)),(10,jI (-1)),(23,.d (.sl 1 (List.map e3 parts))),(24,jI (parts.length:Int)),(25,jI 0)] (y29 x) 1 0) ?_
  refine RW.nil (hQ_8 _ ?_)
  refine AW.block ?_
  refine AW.sln (t:=2) rfl (fun hN_9=>?_)
  rw [List.length_map] at hN_9
  obtain ⟨out_9,hx_9,h⟩:=bsome h
  refine AW.evSK (fun (v:Int) (⟨ok,last⟩:Bool×Int)=>(sT [(1,jI plank),(2,.d (.sl 1 (List.map e3 parts))),pR 3 0,(9,.d (.bool ok)),(10,jI last),(23,.d (.sl 1 (List.map e3 parts))),(24,jI (parts.length:Int)),(25,jI v)] (y29 x) 1 0)) (g21_9 x) hx_9 (Can.kp (by kernel_rfl)) (fun v p s_9 hi_9 hl_9 hp_9 c_9 h K_9 hK_9=>?_) (fun v s_9 hi_9 hl_9 hout=>?_)
  ·obtain ⟨ok,last⟩:=s_9
   unfold g21_9 at h
   refine Sa (sT [(1,jI plank),(2,.d (.sl 1 (List.map e3 parts))),pR 3 0,(9,.d (.bool ok)),(10,jI last),(23,.d (.sl 1 (List.map e3 parts))),(24,jI (parts.length:Int)),(25,jI v),(26,.d (.bool (decide (v<(parts.length:Int)))))] (y29 x) 1 0) ?_
   refine AW.seqK (fun K_10 hK_10=>?_)
   refine AW.cond rfl (fun hb_11=>?_) (fun hb_11=>False.elim (by have:=of_decide_eq_false hb_11;omega))
   refine AW.skip (hK_10 _ ?_)
   refine AW.seqK (fun K_12 hK_12=>?_)
   refine AW.block ?_
   refine AW.srwK (fun Q_13 hQ_13=>?_)
   refine RW.one fokW (r_iaD trivial rfl rfl hi_9 (row:=e3 p) (mapget hp_9) (r_end ?_))
   refine Au 2 (sT [(1,jI plank),(2,.d (.sl 1 (List.map e3 parts))),pR 3 0,(9,.d (.bool ok)),(10,jI last),(12,jI p),(23,.d (.sl 1 (List.map e3 parts))),(24,jI (parts.length:Int)),(25,jI v)] (y29 x) 1 0) ?_
   refine RW.nil (hQ_13 _ ?_)
   refine AW.srwK (fun Q_14 hQ_14=>?_)
   refine Au 2 (sT [(1,jI plank),(2,.d (.sl 1 (List.map e3 parts))),pR 3 0,(10,jI last),(12,jI p),(23,.d (.sl 1 (List.map e3 parts))),(24,jI (parts.length:Int)),(25,jI v),(30,.d (.bool ok))] (y29 x) 1 0) ?_
   obtain ⟨v1,hx_15,h⟩:=bsome h
   refine RW.cut fokW 4 ((sT [(1,jI plank),(2,.d (.sl 1 (List.map e3 parts))),pR 3 0,(10,jI last),(12,jI p),(23,.d (.sl 1 (List.map e3 parts))),(24,jI (parts.length:Int)),(25,jI v),(34,.d (.bool v1))] (y29 x) 1 0)) ?_ ?_
   ·refine r_split 30 rfl (fun hb_17=>?_) (fun hb_17=>?_)
    ·have h:=ifT hb_17 hx_15
     refine aX 2 (sT [(1,jI plank),(2,.d (.sl 1 (List.map e3 parts))),pR 3 0,(10,jI last),(12,jI p),(23,.d (.sl 1 (List.map e3 parts))),(24,jI (parts.length:Int)),(25,jI v),(30,.d (.bool true)),(31,.agg [.d (.sl 2 (List.map e32 x.Planks)),.d (.sl 3 (List.map e35 x.Parts))]),(32,jI p)] (y29 x) 1 0) ?_
     obtain ⟨r0_1_1,hx_16,h⟩:=bsome h
     refine r_call rfl rfl (k52 x p _ hx_16) rfl rfl ?_
     refine aX 1 (sT [(1,jI plank),(2,.d (.sl 1 (List.map e3 parts))),pR 3 0,(10,jI last),(12,jI p),(23,.d (.sl 1 (List.map e3 parts))),(24,jI (parts.length:Int)),(25,jI v),(34,.d (.bool r0_1_1))] (y29 x) 1 0) ?_
     obtain rfl:=Option.some.inj h
     refine RunC.finJ (Can.kp (by kernel_rfl))
    ·have h:=ifF hb_17 hx_15
     refine aX 4 (sT [(1,jI plank),(2,.d (.sl 1 (List.map e3 parts))),pR 3 0,(10,jI last),(12,jI p),(23,.d (.sl 1 (List.map e3 parts))),(24,jI (parts.length:Int)),(25,jI v),(34,.d (.bool false))] (y29 x) 1 0) ?_
     obtain rfl:=Option.some.inj h
     refine RunC.finJ (Can.kp (by kernel_rfl))
   ·refine RW.au fokW 6 [35] (sT [(1,jI plank),(2,.d (.sl 1 (List.map e3 parts))),pR 3 0,(9,.d (.bool (v1&&(decide (last<p))))),(12,jI p),(23,.d (.sl 1 (List.map e3 parts))),(24,jI (parts.length:Int)),(25,jI v)] (y29 x) 1 0) (by kernel_rfl) ?_
    refine RW.nil (hQ_14 _ ?_)
    refine Ra (sT [(1,jI plank),(2,.d (.sl 1 (List.map e3 parts))),pR 3 0,(9,.d (.bool (v1&&(decide (last<p))))),(10,jI p),(23,.d (.sl 1 (List.map e3 parts))),(24,jI (parts.length:Int)),(25,jI v)] (y29 x) 1 0) ?_
    refine hK_12 _ ?_
    refine Ra (sT [(1,jI plank),(2,.d (.sl 1 (List.map e3 parts))),pR 3 0,(9,.d (.bool (v1&&(decide (last<p))))),(10,jI p),(23,.d (.sl 1 (List.map e3 parts))),(24,jI (parts.length:Int)),(25,jI (wr (v+1)))] (y29 x) 1 0) ?_
    obtain rfl:=Option.some.inj h
    have ew:wr (v+1)=v+1:=inext (N:=(parts.length:Int)) (by omega) (by omega) (by omega)
    rw [ew]
    exact hK_9 _ (Can.kp (by kernel_rfl))
  ·obtain ⟨ok,last⟩:=s_9
   subst hout
   refine Sa (sT [(1,jI plank),(2,.d (.sl 1 (List.map e3 parts))),pR 3 0,(9,.d (.bool ok)),(10,jI last),(23,.d (.sl 1 (List.map e3 parts))),(24,jI (parts.length:Int)),(25,jI v),(26,.d (.bool (decide (v<(parts.length:Int)))))] (y29 x) 1 0) ?_
   refine AW.seqK (fun K_18 hK_18=>?_)
   refine AW.cond rfl (fun hb_19=>False.elim (by have:=of_decide_eq_true hb_19;omega)) (fun hb_19=>?_)
   refine AW.exit ?_
   refine hK_7 _ ?_
   refine AW.seqK (fun K_20 hK_20=>?_)
   refine Sa (sT [(1,jI plank),(2,.d (.sl 1 (List.map e3 parts))),pR 3 0,(43,.d (.bool (!ok)))] (y29 x) 1 0) ?_
   refine AW.cond rfl (fun hb_21=>?_) (fun hb_21=>?_)
   ·have h:=ifT hb_21 h
    refine Sa (sT [(6,.d (.nilSl)),(7,jI 11)] [] 1 0) ?_
    obtain rfl:=Option.some.inj h
    exact AW.ret (hR_0 _ (retX (.cons (.tmp rfl) (.cons (.tmp rfl) .nil)) (Frz.tup_of ⟨.nil 1,.refl _,trivial⟩) rfl (by kernel_rfl) (by kernel_rfl)))
   ·have h:=ifF hb_21 h
    refine AW.skip (hK_20 _ ?_)
    refine AW.srwK (fun Q_22 hQ_22=>?_)
    refine Au 1 (sT [(1,jI plank),(2,.d (.sl 1 (List.map e3 parts))),(45,.agg [.d (.sl 2 (List.map e32 x.Planks)),.d (.sl 3 (List.map e35 x.Parts))])] [] 1 0) ?_
    obtain ⟨⟨r0_PlankBook,m2⟩,hx_23,h⟩:=bsome h
    refine RW.one fokW (r_callS (zr:=[]) [] trivial rfl (k23 x _ hx_23) trivial rfl rfl ⟨.refl _,trivial⟩ rfl rfl rfl (r_end ?_))
    refine Au 2 (sT [(46,.agg [.d (.sl 2 (List.map e32 r0_PlankBook.Planks)),.d (.sl 3 (List.map e35 r0_PlankBook.Parts)),.map 3]),(47,jI plank),(48,.d (.sl 1 (List.map e3 parts)))] [(3,.mp (List.map m104_3 m2))] 4 0) ?_
    obtain ⟨_,hv_24,h⟩:=bsome h
    refine Au 0 (sT [(46,.agg [.d (.sl 2 (List.map e32 r0_PlankBook.Planks)),.d (.sl 3 (List.map e35 r0_PlankBook.Parts)),.map 3]),(47,jI plank),(48,.d (.sl 1 (List.map e3 parts)))] [(3,.mp (List.map m104_3 m2))] 4 0) ?_
    refine RW.hide 3 WIm_pl (WIm_of (must_ok hv_24)) rfl rfl (by kernel_rfl) (σ':=fun g_=>⟨[(46,.agg [.d (.sl 2 (List.map e32 r0_PlankBook.Planks)),.d (.sl 3 (List.map e35 r0_PlankBook.Parts)),.wmp g_]),(47,jI plank),(48,.d (.sl 1 (List.map e3 parts)))],[],4,(FrTop g_ WI),[],0⟩) (fun g_=>by kernel_rfl) (fun g_=>?_)
    obtain ⟨⟨r0_1_2,r1⟩,hx_25,h⟩:=bsome h
    refine RW.one fokW (r_callSW (zr:=[]) [] trivial rfl (k53 g_ (FrTop g_ WI) (FrTop.ok g_ WI) r0_PlankBook plank parts _ hx_25) trivial rfl rfl ⟨.refl _,.refl _,.refl _,trivial⟩ rfl rfl rfl (r_end ?_))
    refine Au 5 ⟨[(13,.d (.sl 1 (List.map e3 r0_1_2))),(14,.d (.bool r1))],[],4,(FrTop g_ WI),[],0⟩ ?_
    refine RW.nil (hQ_22 _ ?_)
    refine AW.can (σ1:=(sT [(13,.d (.sl 1 (List.map e3 r0_1_2))),(14,.d (.bool r1))] [] 4 0)) (Can.unhide (by kernel_rfl)) ?_
    refine AW.seqK (fun K_26 hK_26=>?_)
    refine Sa (sT [(13,.d (.sl 1 (List.map e3 r0_1_2))),(53,.d (.bool (!r1)))] [] 4 0) ?_
    refine AW.cond rfl (fun hb_27=>?_) (fun hb_27=>?_)
    ·have h:=ifT hb_27 h
     refine Sa (sT [(6,.d (.nilSl)),(7,jI 4)] [] 4 0) ?_
     obtain rfl:=Option.some.inj h
     exact AW.ret (hR_0 _ (retX (.cons (.tmp rfl) (.cons (.tmp rfl) .nil)) (Frz.tup_of ⟨.nil 1,.refl _,trivial⟩) rfl (by kernel_rfl) (by kernel_rfl)))
    ·have h:=ifF hb_27 h
     refine AW.skip (hK_26 _ ?_)
     refine AW.srwK (fun Q_28 hQ_28=>?_)
     refine Au 2 (sT [(13,.d (.sl 1 (List.map e3 r0_1_2))),(54,.d (.sl 1 (List.map e3 r0_1_2))),(55,.d (.sl 1 (List.map e3 r0_1_2)))] [] 4 0) ?_
     refine rL rfl ?_
     refine Au 1 (sT [(54,.d (.sl 1 (List.map e3 r0_1_2))),(56,jI (r0_1_2.length:Int)),(57,.d (.sl 1 (List.map e3 r0_1_2)))] [] 4 0) ?_
     refine rL rfl ?_
     obtain ⟨l,hv_29,h⟩:=bsome h
     refine RW.one fokW (r_slN trivial rfl rfl rfl DSl.d (slcL_ok hv_29).2.1 (by rw [List.length_map];exact (slcL_ok hv_29).2.2.1) rfl (slz hv_29 e3) (r_end ?_))
     refine Au 2 (sT [(6,.fsl 1 (List.map e3 l)),(7,jI 0)] [] 4 0) ?_
     refine RW.nil (hQ_28 _ ?_)
     obtain rfl:=Option.some.inj h
     exact AW.ret (hR_0 _ (retX (.cons (.tmp rfl) (.cons (.tmp rfl) .nil)) (Frz.tup_of ⟨.fsl _ _,.refl _,trivial⟩) rfl (by kernel_rfl) (by kernel_rfl)))
end Go.Proofs.Tp
namespace Go.Proofs.Tp
open Go Go.Abs Go.Proofs
def g22_4 (l:(List Int)) (m:(List Int)):(Bool×Int)→Option (Ctl (Bool×Int) (Bool)):=fun  (is2,i)=>(bif is2 then (some (decide (i<(l.length:Int)))) else (some false)).bind fun v=>bif v then ((ixL l i).bind fun p=>(ixL m i).bind fun p1=>some (.next ((decide (p=p1)),(wr (i+1))))) else (some (.brk is2))
def g22 (l:(List Int)) (m:(List Int)):Option Bool:=((whileC (g22_4 l m) 1000 ((decide ((l.length:Int)=(m.length:Int))),0)).bind fun is1=>some is1).bind fun is=>some is
theorem k22 (l:(List Int)) (m:(List Int)) (r:Bool) (h:g22 l m=some r):SCall Tryd.prog Gs 22 [.d (.sl 1 (List.map e3 l)),.d (.sl 1 (List.map e3 m))] [] 0 Fr.emp (.d (.bool r)) [] 0 Fr.emp:=by
 unfold g22 at h
 refine SCall.mkK Tryd.func22 c22 rfl rfl (by kernel_rfl) (fun Q_0 hR_0 hN_0=>?_)
 refine Sa (sT [(0,.d (.sl 1 (List.map e3 l))),(1,.d (.sl 1 (List.map e3 m)))] [] 0 0) ?_
 refine AW.srwK (fun Q_1 hQ_1=>?_)
 refine Au 1 (sT [(0,.d (.sl 1 (List.map e3 l))),(1,.d (.sl 1 (List.map e3 m))),(7,.d (.sl 1 (List.map e3 l)))] [] 0 0) ?_
 refine rL rfl ?_
 refine Au 1 (sT [(0,.d (.sl 1 (List.map e3 l))),(1,.d (.sl 1 (List.map e3 m))),(8,jI (l.length:Int)),(9,.d (.sl 1 (List.map e3 m)))] [] 0 0) ?_
 refine rL rfl ?_
 refine Au 2 (sT [(0,.d (.sl 1 (List.map e3 l))),(1,.d (.sl 1 (List.map e3 m))),(5,.d (.bool (decide ((l.length:Int)=(m.length:Int)))))] [] 0 0) ?_
 refine RW.nil (hQ_1 _ ?_)
 obtain ⟨is,hx_2,h⟩:=bsome h
 refine AW.jnSK (fun (is:Bool)=>(sT [(5,.d (.bool is))] [] 0 0)) (c:=is) (fun K_2 hK_2=>?_) ?_
 ·have h:=hx_2
  refine Sa (sT [(0,.d (.sl 1 (List.map e3 l))),(1,.d (.sl 1 (List.map e3 m))),(5,.d (.bool (decide ((l.length:Int)=(m.length:Int))))),(6,jI 0)] [] 0 0) ?_
  obtain ⟨is1,hx_3,h⟩:=bsome h
  refine AW.jqSK (fun (is1:Bool)=>(sT [(5,.d (.bool is1))] [] 0 0)) (c:=is1) (fun K_3 hK_3=>?_) ?_
  ·have h:=hx_3
   refine AW.block ?_
   refine AW.whK (fun (⟨is2,i⟩:Bool×Int)=>(sT [(0,.d (.sl 1 (List.map e3 l))),(1,.d (.sl 1 (List.map e3 m))),(5,.d (.bool is2)),(6,jI i)] [] 0 0)) (g22_4 l m) h (Can.kp (by kernel_rfl)) (fun s_4 c_4 h hb_4 K_4 hK_4=>?_)
   obtain ⟨is2,i⟩:=s_4
   unfold g22_4 at h
   refine AW.seqK fun K_5 hK_5=>AW.srwK fun Q_6 hQ_6=>?_
   refine Au 2 (sT [(0,.d (.sl 1 (List.map e3 l))),(1,.d (.sl 1 (List.map e3 m))),(5,.d (.bool is2)),(6,jI i),(13,.d (.bool is2))] [] 0 0) ?_
   obtain ⟨v,hx_7,h⟩:=bsome h
   refine RW.cut fokW 5 ((sT [(0,.d (.sl 1 (List.map e3 l))),(1,.d (.sl 1 (List.map e3 m))),(5,.d (.bool is2)),(6,jI i),(18,.d (.bool v))] [] 0 0)) ?_ ?_
   ·refine r_split 13 rfl (fun hb_8=>?_) (fun hb_8=>?_)
    ·have h:=ifT hb_8 hx_7
     refine aX 2 (sT [(0,.d (.sl 1 (List.map e3 l))),(1,.d (.sl 1 (List.map e3 m))),(5,.d (.bool is2)),(6,jI i),(13,.d (.bool true)),(14,jI i),(15,.d (.sl 1 (List.map e3 l)))] [] 0 0) ?_
     refine r_lenX rfl rfl lenm ?_
     refine aX 2 (sT [(0,.d (.sl 1 (List.map e3 l))),(1,.d (.sl 1 (List.map e3 m))),(5,.d (.bool is2)),(6,jI i),(18,.d (.bool (decide (i<(l.length:Int)))))] [] 0 0) ?_
     obtain rfl:=Option.some.inj h
     refine RunC.finJ (Can.kp (by kernel_rfl))
    ·have h:=ifF hb_8 hx_7
     refine aX 5 (sT [(0,.d (.sl 1 (List.map e3 l))),(1,.d (.sl 1 (List.map e3 m))),(5,.d (.bool is2)),(6,jI i),(18,.d (.bool false))] [] 0 0) ?_
     obtain rfl:=Option.some.inj h
     refine RunC.finJ (Can.kp (by kernel_rfl))
   ·refine RW.nil (hQ_6 _ ?_)
    refine AW.cond rfl (fun hb_9=>?_) (fun hb_9=>?_)
    ·have h:=ifT hb_9 h
     refine AW.skip (hK_5 _ ?_)
     refine AW.seqK (fun K_10 hK_10=>?_)
     refine AW.block ?_
     refine AW.drw fokW ?_
     refine aX 2 (sT [(0,.d (.sl 1 (List.map e3 l))),(1,.d (.sl 1 (List.map e3 m))),(6,jI i),(21,.d (.sl 1 (List.map e3 l))),(22,jI i)] [] 0 0) ?_
     obtain ⟨p,hv_12,h⟩:=bsome h
     refine r_iaD trivial rfl rfl (ixL_ok hv_12).1 (row:=e3 p) (mapget (ixL_ok hv_12).2) ?_
     refine aX 3 (sT [(0,.d (.sl 1 (List.map e3 l))),(1,.d (.sl 1 (List.map e3 m))),(6,jI i),(24,jI p),(25,.d (.sl 1 (List.map e3 m))),(26,jI i)] [] 0 0) ?_
     obtain ⟨p1,hv_13,h⟩:=bsome h
     refine r_iaD trivial rfl rfl (ixL_ok hv_13).1 (row:=e3 p1) (mapget (ixL_ok hv_13).2) ?_
     refine aX 3 (sT [(0,.d (.sl 1 (List.map e3 l))),(1,.d (.sl 1 (List.map e3 m))),(5,.d (.bool (decide (p=p1)))),(6,jI i)] [] 0 0) ?_
     refine Fi (sT [(0,.d (.sl 1 (List.map e3 l))),(1,.d (.sl 1 (List.map e3 m))),(5,.d (.bool (decide (p=p1)))),(6,jI i)] [] 0 0) ?_
     refine hK_10 _ ?_
     refine Ra (sT [(0,.d (.sl 1 (List.map e3 l))),(1,.d (.sl 1 (List.map e3 m))),(5,.d (.bool (decide (p=p1)))),(6,jI (wr (i+1)))] [] 0 0) ?_
     obtain rfl:=Option.some.inj h
     exact hK_4 _ _ rfl (Can.kp (by kernel_rfl))
    ·have h:=ifF hb_9 h
     refine AW.exit ?_
     obtain rfl:=Option.some.inj h
     obtain rfl:=hb_4 _ rfl
     exact hK_3 _ (Can.kp (by kernel_rfl))
  ·obtain rfl:=Option.some.inj h
   exact hK_2 _ (Can.kp (by kernel_rfl))
 ·refine Sa (sT [(4,.d (.bool is))] [] 0 0) ?_
  obtain rfl:=Option.some.inj h
  exact rT hR_0 (.cons (.tmp rfl) .nil)
def g6 :Option Bool:=(g20).bind fun r0=>(g10 r0).bind fun (r0_2,r1_3)=>(g20).bind fun r0_1=>(g9 r0_1).bind fun r0_1_1=>(g11 r0_1_1).bind fun (r0_3,r1_3_1)=>(g20).bind fun r0_4=>(g9 r0_4).bind fun r0_1_2=>(g13 r0_1_2 [0,1]).bind fun (r0_2_1,r1_4)=>(g20).bind fun r0_5=>(g9 r0_5).bind fun r0_1_3=>(g16 r0_1_3).bind fun (r0_1_4,r1_1)=>(g20).bind fun r0_6=>(g21 r0_6 1 [0,1]).bind fun (r0_5_1,r1_4_1)=>(bif (decide (r1_3=0)) then (bif (decide (r1_3_1=0)) then (bif (decide (r1_4=0)) then (bif (decide (r1_1=0)) then (bif (decide (r1_4_1=0)) then ((g22 r0_2 [1]).bind fun r0_7=>bif r0_7 then ((g22 r0_3 [1,1]).bind fun r0_8=>bif r0_8 then ((g14 5).bind fun r0_9=>bif (false != ((r0_2_1.Low==r0_9.Low)&&((r0_2_1.High==r0_9.High)&&true))) then (bif r0_1_4 then ((g22 r0_5_1 [0,4]).bind fun r0_10=>some r0_10) else (some false)) else (some false)) else (some false)) else (some false)) else (some false)) else (some false)) else (some false)) else (some false)) else (some false)).bind fun v=>some v
theorem k6  (r:Bool) (h:g6=some r):SCall Tryd.prog Gs 6 [] [] 0 Fr.emp (.d (.bool r)) [] 0 Fr.emp:=by
 unfold g6 at h
 refine SCall.mkK Tryd.func6 c6 rfl rfl (by kernel_rfl) (fun Q_0 hR_0 hN_0=>?_)
 refine Sa (sT [] [] 0 0) ?_
 refine AW.srwK (fun Q_1 hQ_1=>?_)
 obtain ⟨r0,hx_2,h⟩:=bsome h
 refine rC (k20 _ hx_2) ?_
 obtain ⟨⟨r0_2,r1_3⟩,hx_3,h⟩:=bsome h
 refine rC (k10 r0 _ hx_3) ?_
 refine Au 5 (sT [(1,.d (.sl 1 (List.map e3 r0_2))),(2,jI r1_3)] [] 0 0) ?_
 refine RW.nil (hQ_1 _ ?_)
 refine AW.srwK (fun Q_4 hQ_4=>?_)
 obtain ⟨r0_1,hx_5,h⟩:=bsome h
 refine rC (k20 _ hx_5) ?_
 obtain ⟨r0_1_1,hx_6,h⟩:=bsome h
 refine rC (k9 r0_1 _ hx_6) ?_
 obtain ⟨⟨r0_3,r1_3_1⟩,hx_7,h⟩:=bsome h
 refine rC (k11 r0_1_1 _ hx_7) ?_
 refine Au 5 (sT [(1,.d (.sl 1 (List.map e3 r0_2))),(2,jI r1_3),(3,.d (.sl 1 (List.map e3 r0_3))),(4,jI r1_3_1)] [] 0 0) ?_
 refine RW.nil (hQ_4 _ ?_)
 refine AW.srwK (fun Q_8 hQ_8=>?_)
 obtain ⟨r0_4,hx_9,h⟩:=bsome h
 refine rC (k20 _ hx_9) ?_
 obtain ⟨r0_1_2,hx_10,h⟩:=bsome h
 refine rC (k9 r0_4 _ hx_10) ?_
 refine Au 1 (sT [(1,.d (.sl 1 (List.map e3 r0_2))),(2,jI r1_3),(3,.d (.sl 1 (List.map e3 r0_3))),(4,jI r1_3_1),(24,.agg [.d (.sl 4 (List.map e62 r0_1_2.Hanks)),.d (.sl 3 (List.map e64 r0_1_2.Horses)),jI r0_1_2.Dark,jI r0_1_2.Near,jI r0_1_2.Match]),(25,.own 0 (List.map e3 [0,1]).length)] [(0,.row 3 1 (List.map e3 [0,1]))] 1 0) ?_
 obtain ⟨⟨r0_2_1,r1_4⟩,hx_11,h⟩:=bsome h
 refine RW.one fokW (r_callF (rs:=[(0,.row 3 1 (List.map e3 [0,1]))]) trivial rfl (k13 r0_1_2 [0,1] _ hx_11) ⟨rfl,trivial⟩ ⟨.refl _,(.own rfl rfl),trivial⟩ rfl rfl rfl (r_end ?_))
 refine Au 6 (sT [(1,.d (.sl 1 (List.map e3 r0_2))),(2,jI r1_3),(3,.d (.sl 1 (List.map e3 r0_3))),(4,jI r1_3_1),pR 5 1,(6,jI r1_4)] [(1,.var 47 [jI r0_2_1.Low,jI r0_2_1.High])] 2 0) ?_
 refine RW.nil (hQ_8 _ ?_)
 refine AW.srwK (fun Q_12 hQ_12=>?_)
 obtain ⟨r0_5,hx_13,h⟩:=bsome h
 refine rC (k20 _ hx_13) ?_
 obtain ⟨r0_1_3,hx_14,h⟩:=bsome h
 refine rC (k9 r0_5 _ hx_14) ?_
 obtain ⟨⟨r0_1_4,r1_1⟩,hx_15,h⟩:=bsome h
 refine rC (k16 r0_1_3 _ hx_15) ?_
 refine Au 5 (sT [(1,.d (.sl 1 (List.map e3 r0_2))),(2,jI r1_3),(3,.d (.sl 1 (List.map e3 r0_3))),(4,jI r1_3_1),pR 5 1,(6,jI r1_4),(7,.d (.bool r0_1_4)),(8,jI r1_1)] [(1,.var 47 [jI r0_2_1.Low,jI r0_2_1.High])] 2 0) ?_
 refine RW.nil (hQ_12 _ ?_)
 refine AW.srwK (fun Q_16 hQ_16=>?_)
 obtain ⟨r0_6,hx_17,h⟩:=bsome h
 refine rC (k20 _ hx_17) ?_
 refine Au 1 (sT [(1,.d (.sl 1 (List.map e3 r0_2))),(2,jI r1_3),(3,.d (.sl 1 (List.map e3 r0_3))),(4,jI r1_3_1),pR 5 1,(6,jI r1_4),(7,.d (.bool r0_1_4)),(8,jI r1_1),(36,.agg [.d (.sl 2 (List.map e32 r0_6.Planks)),.d (.sl 3 (List.map e35 r0_6.Parts))]),(37,.own 2 (List.map e3 [0,1]).length)] [(2,.row 3 1 (List.map e3 [0,1])),(1,.var 47 [jI r0_2_1.Low,jI r0_2_1.High])] 3 0) ?_
 obtain ⟨⟨r0_5_1,r1_4_1⟩,hx_18,h⟩:=bsome h
 refine RW.one fokW (r_callZ (zr:=[(2,.row 3 1 (List.map e3 [0,1]))]) trivial rfl (k21 r0_6 1 [0,1] _ hx_18) ⟨rfl,trivial⟩ ⟨.refl _,.refl _,(.own rfl rfl),trivial⟩ rfl rfl rfl rfl (r_end ?_))
 refine Au 5 (sT [(1,.d (.sl 1 (List.map e3 r0_2))),(2,jI r1_3),(3,.d (.sl 1 (List.map e3 r0_3))),(4,jI r1_3_1),pR 5 1,(6,jI r1_4),(7,.d (.bool r0_1_4)),(8,jI r1_1),(9,.d (.sl 1 (List.map e3 r0_5_1))),(10,jI r1_4_1)] [(1,.var 47 [jI r0_2_1.Low,jI r0_2_1.High])] 3 0) ?_
 refine RW.nil (hQ_16 _ ?_)
 obtain ⟨v,hx_19,h⟩:=bsome h
 refine AW.jnSK (fun (v:Bool)=>(sT [(0,.d (.bool v))] [] 3 0)) (c:=v) (fun K_19 hK_19=>?_) ?_
 ·have h:=hx_19
  refine AW.drw fokW ?_
  refine aX 3 (sT [(1,.d (.sl 1 (List.map e3 r0_2))),(3,.d (.sl 1 (List.map e3 r0_3))),(4,jI r1_3_1),pR 5 1,(6,jI r1_4),(7,.d (.bool r0_1_4)),(8,jI r1_1),(9,.d (.sl 1 (List.map e3 r0_5_1))),(10,jI r1_4_1),(43,.d (.bool (decide (r1_3=0))))] [(1,.var 47 [jI r0_2_1.Low,jI r0_2_1.High])] 3 0) ?_
  refine r_split 43 rfl (fun hb_21=>?_) (fun hb_21=>?_)
  ·have h:=ifT hb_21 h
   refine aX 4 (sT [(1,.d (.sl 1 (List.map e3 r0_2))),(3,.d (.sl 1 (List.map e3 r0_3))),pR 5 1,(6,jI r1_4),(7,.d (.bool r0_1_4)),(8,jI r1_1),(9,.d (.sl 1 (List.map e3 r0_5_1))),(10,jI r1_4_1),(47,.d (.bool (decide (r1_3_1=0))))] [(1,.var 47 [jI r0_2_1.Low,jI r0_2_1.High])] 3 0) ?_
   refine r_split 47 rfl (fun hb_22=>?_) (fun hb_22=>?_)
   ·have h:=ifT hb_22 h
    refine aX 4 (sT [(1,.d (.sl 1 (List.map e3 r0_2))),(3,.d (.sl 1 (List.map e3 r0_3))),pR 5 1,(7,.d (.bool r0_1_4)),(8,jI r1_1),(9,.d (.sl 1 (List.map e3 r0_5_1))),(10,jI r1_4_1),(51,.d (.bool (decide (r1_4=0))))] [(1,.var 47 [jI r0_2_1.Low,jI r0_2_1.High])] 3 0) ?_
    refine r_split 51 rfl (fun hb_23=>?_) (fun hb_23=>?_)
    ·have h:=ifT hb_23 h
     refine aX 4 (sT [(1,.d (.sl 1 (List.map e3 r0_2))),(3,.d (.sl 1 (List.map e3 r0_3))),pR 5 1,(7,.d (.bool r0_1_4)),(9,.d (.sl 1 (List.map e3 r0_5_1))),(10,jI r1_4_1),(55,.d (.bool (decide (r1_1=0))))] [(1,.var 47 [jI r0_2_1.Low,jI r0_2_1.High])] 3 0) ?_
     refine r_split 55 rfl (fun hb_24=>?_) (fun hb_24=>?_)
     ·have h:=ifT hb_24 h
      refine aX 4 (sT [(1,.d (.sl 1 (List.map e3 r0_2))),(3,.d (.sl 1 (List.map e3 r0_3))),pR 5 1,(7,.d (.bool r0_1_4)),(9,.d (.sl 1 (List.map e3 r0_5_1))),(59,.d (.bool (decide (r1_4_1=0))))] [(1,.var 47 [jI r0_2_1.Low,jI r0_2_1.High])] 3 0) ?_
      refine r_split 59 rfl (fun hb_25=>?_) (fun hb_25=>?_)
      ·have h:=ifT hb_25 h
       refine aX 2 (sT [(3,.d (.sl 1 (List.map e3 r0_3))),pR 5 1,(7,.d (.bool r0_1_4)),(9,.d (.sl 1 (List.map e3 r0_5_1))),(59,.d (.bool true)),(60,.d (.sl 1 (List.map e3 r0_2))),(61,.own 3 (List.map e3 [1]).length)] [(3,.row 3 1 (List.map e3 [1])),(1,.var 47 [jI r0_2_1.Low,jI r0_2_1.High])] 4 0) ?_
       obtain ⟨r0_7,hx_26,h⟩:=bsome h
       refine r_callF (rs:=[(3,.row 3 1 (List.map e3 [1]))]) rfl rfl (k22 r0_2 [1] _ hx_26) ⟨rfl,trivial⟩ ⟨.refl _,(.own rfl rfl),trivial⟩ rfl rfl rfl ?_
       refine aX 2 (sT [(3,.d (.sl 1 (List.map e3 r0_3))),pR 5 1,(7,.d (.bool r0_1_4)),(9,.d (.sl 1 (List.map e3 r0_5_1))),(64,.d (.bool r0_7))] [(3,.row 3 1 (List.map e3 [1])),(1,.var 47 [jI r0_2_1.Low,jI r0_2_1.High])] 4 0) ?_
       refine r_split 64 rfl (fun hb_27=>?_) (fun hb_27=>?_)
       ·have h:=ifT hb_27 h
        refine aX 2 (sT [pR 5 1,(7,.d (.bool r0_1_4)),(9,.d (.sl 1 (List.map e3 r0_5_1))),(64,.d (.bool true)),(65,.d (.sl 1 (List.map e3 r0_3))),(66,.own 4 (List.map e3 [1,1]).length)] [(4,.row 3 1 (List.map e3 [1,1])),(3,.row 3 1 (List.map e3 [1])),(1,.var 47 [jI r0_2_1.Low,jI r0_2_1.High])] 5 0) ?_
        obtain ⟨r0_8,hx_28,h⟩:=bsome h
        refine r_callF (rs:=[(4,.row 3 1 (List.map e3 [1,1]))]) rfl rfl (k22 r0_3 [1,1] _ hx_28) ⟨rfl,trivial⟩ ⟨.refl _,(.own rfl rfl),trivial⟩ rfl rfl rfl ?_
        refine aX 2 (sT [pR 5 1,(7,.d (.bool r0_1_4)),(9,.d (.sl 1 (List.map e3 r0_5_1))),(69,.d (.bool r0_8))] [(4,.row 3 1 (List.map e3 [1,1])),(3,.row 3 1 (List.map e3 [1])),(1,.var 47 [jI r0_2_1.Low,jI r0_2_1.High])] 5 0) ?_
        refine r_split 69 rfl (fun hb_29=>?_) (fun hb_29=>?_)
        ·have h:=ifT hb_29 h
         refine aX 1 (sT [(7,.d (.bool r0_1_4)),(9,.d (.sl 1 (List.map e3 r0_5_1))),(69,.d (.bool true)),(70,.agg [jI r0_2_1.Low,jI r0_2_1.High])] [(4,.row 3 1 (List.map e3 [1,1])),(3,.row 3 1 (List.map e3 [1])),(1,.var 47 [jI r0_2_1.Low,jI r0_2_1.High])] 5 0) ?_
         obtain ⟨r0_9,hx_30,h⟩:=bsome h
         refine r_call rfl rfl (k14 5 _ hx_30) rfl rfl ?_
         refine r_aeq rfl rfl rfl rfl rfl ft47 rfl rfl rfl ?_
         refine aX 2 (sT [(7,.d (.bool r0_1_4)),(9,.d (.sl 1 (List.map e3 r0_5_1))),(74,.d (.bool (false != ((r0_2_1.Low==r0_9.Low)&&((r0_2_1.High==r0_9.High)&&true)))))] [(4,.row 3 1 (List.map e3 [1,1])),(3,.row 3 1 (List.map e3 [1])),(1,.var 47 [jI r0_2_1.Low,jI r0_2_1.High])] 5 0) ?_
         refine r_split 74 rfl (fun hb_31=>?_) (fun hb_31=>?_)
         ·have h:=ifT hb_31 h
          refine aX 3 (sT [(9,.d (.sl 1 (List.map e3 r0_5_1))),(77,.d (.bool r0_1_4))] [(4,.row 3 1 (List.map e3 [1,1])),(3,.row 3 1 (List.map e3 [1])),(1,.var 47 [jI r0_2_1.Low,jI r0_2_1.High])] 5 0) ?_
          refine r_split 77 rfl (fun hb_32=>?_) (fun hb_32=>?_)
          ·have h:=ifT hb_32 h
           refine aX 2 (sT [(77,.d (.bool true)),(78,.d (.sl 1 (List.map e3 r0_5_1))),(79,.own 5 (List.map e3 [0,4]).length)] [(5,.row 3 1 (List.map e3 [0,4])),(4,.row 3 1 (List.map e3 [1,1])),(3,.row 3 1 (List.map e3 [1])),(1,.var 47 [jI r0_2_1.Low,jI r0_2_1.High])] 6 0) ?_
           obtain ⟨r0_10,hx_33,h⟩:=bsome h
           refine r_callF (rs:=[(5,.row 3 1 (List.map e3 [0,4]))]) rfl rfl (k22 r0_5_1 [0,4] _ hx_33) ⟨rfl,trivial⟩ ⟨.refl _,(.own rfl rfl),trivial⟩ rfl rfl rfl ?_
           refine aX 2 (sT [(0,.d (.bool r0_10))] [(5,.row 3 1 (List.map e3 [0,4])),(4,.row 3 1 (List.map e3 [1,1])),(3,.row 3 1 (List.map e3 [1])),(1,.var 47 [jI r0_2_1.Low,jI r0_2_1.High])] 6 0) ?_
           refine Fi (sT [(0,.d (.bool r0_10))] [] 6 0) ?_
           obtain rfl:=Option.some.inj h
           exact hK_19 _ (Can.kp (by kernel_rfl))
          ·have h:=ifF hb_32 h
           refine aX 5 (sT [(0,.d (.bool false))] [(4,.row 3 1 (List.map e3 [1,1])),(3,.row 3 1 (List.map e3 [1])),(1,.var 47 [jI r0_2_1.Low,jI r0_2_1.High])] 5 0) ?_
           refine Fi (sT [(0,.d (.bool false))] [] 5 0) ?_
           obtain rfl:=Option.some.inj h
           exact hK_19 _ (Can.kp (by kernel_rfl))
         ·have h:=ifF hb_31 h
          refine aX 8 (sT [(0,.d (.bool false))] [(4,.row 3 1 (List.map e3 [1,1])),(3,.row 3 1 (List.map e3 [1])),(1,.var 47 [jI r0_2_1.Low,jI r0_2_1.High])] 5 0) ?_
          refine Fi (sT [(0,.d (.bool false))] [] 5 0) ?_
          obtain rfl:=Option.some.inj h
          exact hK_19 _ (Can.kp (by kernel_rfl))
        ·have h:=ifF hb_29 h
         refine aX 13 (sT [(0,.d (.bool false))] [(4,.row 3 1 (List.map e3 [1,1])),(3,.row 3 1 (List.map e3 [1])),(1,.var 47 [jI r0_2_1.Low,jI r0_2_1.High])] 5 0) ?_
         refine Fi (sT [(0,.d (.bool false))] [] 5 0) ?_
         obtain rfl:=Option.some.inj h
         exact hK_19 _ (Can.kp (by kernel_rfl))
       ·have h:=ifF hb_27 h
        refine aX 18 (sT [(0,.d (.bool false))] [(3,.row 3 1 (List.map e3 [1])),(1,.var 47 [jI r0_2_1.Low,jI r0_2_1.High])] 4 0) ?_
        refine Fi (sT [(0,.d (.bool false))] [] 4 0) ?_
        obtain rfl:=Option.some.inj h
        exact hK_19 _ (Can.kp (by kernel_rfl))
      ·have h:=ifF hb_25 h
       refine aX 23 (sT [(0,.d (.bool false))] [(1,.var 47 [jI r0_2_1.Low,jI r0_2_1.High])] 3 0) ?_
       refine Fi (sT [(0,.d (.bool false))] [] 3 0) ?_
       obtain rfl:=Option.some.inj h
       exact hK_19 _ (Can.kp (by kernel_rfl))
     ·have h:=ifF hb_24 h
      refine aX 27 (sT [(0,.d (.bool false))] [(1,.var 47 [jI r0_2_1.Low,jI r0_2_1.High])] 3 0) ?_
      refine Fi (sT [(0,.d (.bool false))] [] 3 0) ?_
      obtain rfl:=Option.some.inj h
      exact hK_19 _ (Can.kp (by kernel_rfl))
    ·have h:=ifF hb_23 h
     refine aX 31 (sT [(0,.d (.bool false))] [(1,.var 47 [jI r0_2_1.Low,jI r0_2_1.High])] 3 0) ?_
     refine Fi (sT [(0,.d (.bool false))] [] 3 0) ?_
     obtain rfl:=Option.some.inj h
     exact hK_19 _ (Can.kp (by kernel_rfl))
   ·have h:=ifF hb_22 h
    refine aX 35 (sT [(0,.d (.bool false))] [(1,.var 47 [jI r0_2_1.Low,jI r0_2_1.High])] 3 0) ?_
    refine Fi (sT [(0,.d (.bool false))] [] 3 0) ?_
    obtain rfl:=Option.some.inj h
    exact hK_19 _ (Can.kp (by kernel_rfl))
  ·have h:=ifF hb_21 h
   refine aX 39 (sT [(0,.d (.bool false))] [(1,.var 47 [jI r0_2_1.Low,jI r0_2_1.High])] 3 0) ?_
   refine Fi (sT [(0,.d (.bool false))] [] 3 0) ?_
   obtain rfl:=Option.some.inj h
   exact hK_19 _ (Can.kp (by kernel_rfl))
 ·obtain rfl:=Option.some.inj h
  exact rT hR_0 (.cons (.tmp rfl) .nil)
def g7_13 (b:PlankBook):Int→(List PlankShape)→Option (List PlankShape):=fun i1 l2=>(ixL b.Parts i1).bind fun p1=>(appL 40 l2 ([(PlankShape.mk p1.Long [] false)])).bind fun l3=>some l3
def g7_2:Int→PlankWood→(List PlankWood)→Option (List PlankWood):=fun i p l=>(appL 32 l ([(PlankWood.mk p.Long [])])).bind fun l1=>some l1
def g7 (b:PlankBook):Option ((List PlankWood)×(List PlankShape)):=(eachS g7_2 b.Planks 0 ([]:List PlankWood)).bind fun l=>(forS (g7_13 b) ((((wr ((wr ((b.Parts.length:Int).tdiv 2))*2)):Int) - 0).toNat) 0 ([]:List PlankShape)).bind fun l2=>some (l,l2)
def y30 (b:PlankBook):List (Nat×Blk):=[(2,.var 25 [.d (.nilSl),.d (.nilSl)]),(1,.var 25 [.d (.nilSl),.d (.nilSl)]),(0,.var 25 [.d (.sl 2 (List.map e32 b.Planks)),.d (.sl 3 (List.map e35 b.Parts))])]
def y31 (l:List PlankWood) (b:PlankBook):List (Nat×Blk):=[(2,.var 25 [.own 3 (List.map e32 l).length,.d (.nilSl)]),(3,.row 32 2 (List.map e32 l)),(1,.var 25 [.d (.nilSl),.d (.nilSl)]),(0,.var 25 [.d (.sl 2 (List.map e32 b.Planks)),.d (.sl 3 (List.map e35 b.Parts))])]
def y32 (l1:List PlankWood) (b:PlankBook):List (Nat×Blk):=[(2,.var 25 [.own 3 (List.map e32 l1).length,.d (.nilSl)]),(3,.row 32 2 (List.map e32 l1)),(1,.var 25 [.d (.nilSl),.d (.nilSl)]),(0,.var 25 [.d (.sl 2 (List.map e32 b.Planks)),.d (.sl 3 (List.map e35 b.Parts))])]
def y33 (l:List PlankWood) (l2:List PlankShape) (b:PlankBook):List (Nat×Blk):=[(2,.var 25 [.own 3 (List.map e32 l).length,.own 4 (List.map e35 l2).length]),(4,.row 35 3 (List.map e35 l2)),(3,.row 32 2 (List.map e32 l)),(1,.var 25 [.d (.nilSl),.d (.nilSl)]),(0,.var 25 [.d (.sl 2 (List.map e32 b.Planks)),.d (.sl 3 (List.map e35 b.Parts))])]
def y34 (l:List PlankWood) (l3:List PlankShape) (b:PlankBook):List (Nat×Blk):=[(2,.var 25 [.own 3 (List.map e32 l).length,.own 4 (List.map e35 l3).length]),(4,.row 35 3 (List.map e35 l3)),(3,.row 32 2 (List.map e32 l)),(1,.var 25 [.d (.nilSl),.d (.nilSl)]),(0,.var 25 [.d (.sl 2 (List.map e32 b.Planks)),.d (.sl 3 (List.map e35 b.Parts))])]
theorem k7 (b:PlankBook) (r:(List PlankWood)×(List PlankShape)) (h:g7 b=some r):SCall Tryd.prog Gs 7 [.agg [.d (.sl 2 (List.map e32 b.Planks)),.d (.sl 3 (List.map e35 b.Parts))]] [] 0 Fr.emp (match r with | (r0_Planks,r0_Parts)=>.agg [.own 3 (List.map e32 r0_Planks).length,.own 4 (List.map e35 r0_Parts).length]) (match r with | (r0_Planks,r0_Parts)=>[(3,.row 32 2 (List.map e32 r0_Planks)),(4,.row 35 3 (List.map e35 r0_Parts))]) 5 Fr.emp:=by
 unfold g7 at h
 refine SCall.mkK Tryd.func7 c7 rfl rfl (by kernel_rfl) (fun Q_0 hR_0 hN_0=>?_)
 refine Sa (sT [pR 1 0,pR 2 1] [(1,.var 25 [.d (.nilSl),.d (.nilSl)]),(0,.var 25 [.d (.sl 2 (List.map e32 b.Planks)),.d (.sl 3 (List.map e35 b.Parts))])] 2 0) ?_
 refine Sa (sT [pR 1 0,pR 2 1,pR 3 2] (y30 b) 3 0) ?_
 refine AW.seqK (fun K_1 hK_1=>?_)
 refine Sa (sT [pR 1 0,pR 2 1,pR 3 2,(4,jI 0)] (y30 b) 3 0) ?_
 refine AW.block ?_
 refine AW.slh (r:=0) (off:=0) rfl rfl (fun hN_2=>?_)
 rw [List.length_map] at hN_2
 obtain ⟨out_2,hx_2,h⟩:=bsome h
 refine AW.evSK (fun (i:Int) (l:List PlankWood)=>(sT [pR 1 0,pR 2 1,pR 3 2,(4,jI i)] (y31 l b) 4 0)) g7_2 hx_2 (Can.trans (Can.thawH 2 0 25 32 2 rfl rfl rfl) (Can.kp (by kernel_rfl))) (fun i p l hi_2 hl_2 hp_2 c_2 h K_2 hK_2=>?_) (fun i l hi_2 hl_2 hout=>?_)
 ·unfold g7_2 at h
  refine AW.seqK fun K_3 hK_3=>AW.srwK fun Q_4 hQ_4=>?_
  refine Au 3 (sT [pR 1 0,pR 2 1,pR 3 2,(4,jI i),(7,jI i),(9,.d (.sl 2 (List.map e32 b.Planks)))] (y31 l b) 4 0) ?_
  refine rL rfl ?_
  refine Au 1 (sT [pR 1 0,pR 2 1,pR 3 2,(4,jI i),(11,.d (.bool (decide (i<(b.Planks.length:Int)))))] (y31 l b) 4 0) ?_
  refine RW.nil (hQ_4 _ ?_)
  refine AW.cond rfl (fun hb_5=>?_) (fun hb_5=>False.elim (by have:=of_decide_eq_false hb_5;omega))
  refine AW.skip (hK_3 _ ?_)
  refine AW.seqK (fun K_6 hK_6=>?_)
  refine AW.block ?_
  refine AW.drw fokW ?_
  refine aX 5 (sT [pR 1 0,pR 2 1,pR 3 2,(4,jI i),(15,.own 3 (List.map e32 l).length),(17,.d (.sl 2 (List.map e32 b.Planks))),(18,jI i)] (y31 l b) 4 0) ?_
  refine r_iaD trivial rfl rfl hi_2 (row:=e32 p) (mapget hp_2) ?_
  refine aX 3 (sT [pR 1 0,pR 2 1,pR 3 2,(4,jI i),(15,.own 3 (List.map e32 l).length),(22,.agg [jI p.Long,.d (.nilSl)])] (y31 l b) 4 0) ?_
  refine r_bslW (ds:=[I p.Long,.sl 2 []]) (ys:=List.map e32 [(PlankWood.mk p.Long [])]) (.eq _ (.wk 2 (.nil))) trivial rfl rfl rfl rfl rfl rfl rfl ?_
  obtain ⟨l1,hv_8,h⟩:=bsome h
  refine r_apO trivial rfl rfl rfl rfl rfl rfl (apz hv_8 e32) (apr hv_8 e32) ?_
  refine aX 2 (sT [pR 1 0,pR 2 1,pR 3 2,(4,jI i)] [(2,.var 25 [.own 3 (List.map e32 l1).length,.d (.nilSl)]),(3,.row 32 2 (List.map e32 l1)),(4,.row 32 2 (List.map e32 ([(PlankWood.mk p.Long [])]))),(1,.var 25 [.d (.nilSl),.d (.nilSl)]),(0,.var 25 [.d (.sl 2 (List.map e32 b.Planks)),.d (.sl 3 (List.map e35 b.Parts))])] 5 0) ?_
  refine Fi (sT [pR 1 0,pR 2 1,pR 3 2,(4,jI i)] (y32 l1 b) 5 0) ?_
  refine hK_6 _ ?_
  refine Ra (sT [pR 1 0,pR 2 1,pR 3 2,(4,jI (wr (i+1)))] (y32 l1 b) 5 0) ?_
  obtain rfl:=Option.some.inj h
  have ew:wr (i+1)=i+1:=inext (N:=(b.Planks.length:Int)) (by omega) (by omega) (by omega)
  rw [ew]
  exact hK_2 _ (Can.kp (by kernel_rfl))
 ·subst hout
  refine AW.seqK fun K_9 hK_9=>AW.srwK fun Q_10 hQ_10=>?_
  refine Au 3 (sT [pR 1 0,pR 2 1,pR 3 2,(4,jI i),(7,jI i),(9,.d (.sl 2 (List.map e32 b.Planks)))] (y31 l b) 4 0) ?_
  refine rL rfl ?_
  refine Au 1 (sT [pR 1 0,pR 2 1,pR 3 2,(4,jI i),(11,.d (.bool (decide (i<(b.Planks.length:Int)))))] (y31 l b) 4 0) ?_
  refine RW.nil (hQ_10 _ ?_)
  refine AW.cond rfl (fun hb_11=>False.elim (by have:=of_decide_eq_true hb_11;omega)) (fun hb_11=>?_)
  refine AW.exit ?_
  refine hK_1 _ ?_
  refine AW.seqK (fun K_12 hK_12=>?_)
  refine Sa (sT [pR 1 0,pR 2 1,pR 3 2,(5,jI 0)] (y31 l b) 4 0) ?_
  refine AW.block ?_
  have hN_13:(wr ((wr ((b.Parts.length:Int).tdiv 2))*2))≤9223372036854775807:=(wr_range _).2
  obtain ⟨out_13,hx_13,h⟩:=bsome h
  refine AW.lpSK (fun (i1:Int) (l2:List PlankShape)=>(sT [pR 1 0,pR 2 1,pR 3 2,(5,jI i1)] (y33 l l2 b) 5 0)) (g7_13 b) ((wr ((wr ((b.Parts.length:Int).tdiv 2))*2))) hx_13 (Can.trans (Can.thawH 2 1 25 35 3 rfl rfl rfl) (Can.kp (by kernel_rfl))) (fun i1 l2 hi_13 hl_13 c_13 h K_13 hK_13=>?_) (fun i1 l2 hi_13 hl_13 hout=>?_)
  ·unfold g7_13 at h
   refine AW.seqK fun K_14 hK_14=>AW.srwK fun Q_15 hQ_15=>?_
   refine Au 3 (sT [pR 1 0,pR 2 1,pR 3 2,(5,jI i1),(26,jI i1),(28,.d (.sl 3 (List.map e35 b.Parts)))] (y33 l l2 b) 5 0) ?_
   refine rL rfl ?_
   refine Au 3 (sT [pR 1 0,pR 2 1,pR 3 2,(5,jI i1),(32,.d (.bool (decide (i1<(wr ((wr ((b.Parts.length:Int).tdiv 2))*2))))))] (y33 l l2 b) 5 0) ?_
   refine RW.nil (hQ_15 _ ?_)
   refine AW.cond rfl (fun hb_16=>?_) (fun hb_16=>False.elim (by have:=of_decide_eq_false hb_16;omega))
   refine AW.skip (hK_14 _ ?_)
   refine AW.seqK (fun K_17 hK_17=>?_)
   refine AW.block ?_
   refine AW.drw fokW ?_
   refine aX 5 (sT [pR 1 0,pR 2 1,pR 3 2,(5,jI i1),(36,.own 4 (List.map e35 l2).length),(38,.d (.sl 3 (List.map e35 b.Parts))),(39,jI i1)] (y33 l l2 b) 5 0) ?_
   obtain ⟨p1,hv_19,h⟩:=bsome h
   refine r_iaD trivial rfl rfl (ixL_ok hv_19).1 (row:=e35 p1) (mapget (ixL_ok hv_19).2) ?_
   refine aX 3 (sT [pR 1 0,pR 2 1,pR 3 2,(5,jI i1),(36,.own 4 (List.map e35 l2).length),(43,.agg [jI p1.Long,.d (.nilSl),.d (.bool false)])] (y33 l l2 b) 5 0) ?_
   refine r_bslW (ds:=[I p1.Long,.sl 1 [],.bool false]) (ys:=List.map e35 [(PlankShape.mk p1.Long [] false)]) (.eq _ (.wk 1 (.eq _ (.nil)))) trivial rfl rfl rfl rfl rfl rfl rfl ?_
   obtain ⟨l3,hv_20,h⟩:=bsome h
   refine r_apO trivial rfl rfl rfl rfl rfl rfl (apz hv_20 e35) (apr hv_20 e35) ?_
   refine aX 2 (sT [pR 1 0,pR 2 1,pR 3 2,(5,jI i1)] [(2,.var 25 [.own 3 (List.map e32 l).length,.own 4 (List.map e35 l3).length]),(4,.row 35 3 (List.map e35 l3)),(5,.row 35 3 (List.map e35 ([(PlankShape.mk p1.Long [] false)]))),(3,.row 32 2 (List.map e32 l)),(1,.var 25 [.d (.nilSl),.d (.nilSl)]),(0,.var 25 [.d (.sl 2 (List.map e32 b.Planks)),.d (.sl 3 (List.map e35 b.Parts))])] 6 0) ?_
   refine Fi (sT [pR 1 0,pR 2 1,pR 3 2,(5,jI i1)] (y34 l l3 b) 6 0) ?_
   refine hK_17 _ ?_
   refine Ra (sT [pR 1 0,pR 2 1,pR 3 2,(5,jI (wr (i1+1)))] (y34 l l3 b) 6 0) ?_
   obtain rfl:=Option.some.inj h
   have ew:wr (i1+1)=i1+1:=inext (N:=(wr ((wr ((b.Parts.length:Int).tdiv 2))*2))) (by omega) (by omega) (by omega)
   rw [ew]
   exact hK_13 _ (Can.kp (by kernel_rfl))
  ·subst hout
   refine AW.seqK fun K_21 hK_21=>AW.srwK fun Q_22 hQ_22=>?_
   refine Au 3 (sT [pR 1 0,pR 2 1,pR 3 2,(5,jI i1),(26,jI i1),(28,.d (.sl 3 (List.map e35 b.Parts)))] (y33 l l2 b) 5 0) ?_
   refine rL rfl ?_
   refine Au 3 (sT [pR 1 0,pR 2 1,pR 3 2,(5,jI i1),(32,.d (.bool (decide (i1<(wr ((wr ((b.Parts.length:Int).tdiv 2))*2))))))] (y33 l l2 b) 5 0) ?_
   refine RW.nil (hQ_22 _ ?_)
   refine AW.cond rfl (fun hb_23=>False.elim (by have:=of_decide_eq_true hb_23;omega)) (fun hb_23=>?_)
   refine AW.exit ?_
   refine hK_12 _ ?_
   refine Sa (sT [pR 2 1] [(1,.var 25 [.own 3 (List.map e32 l).length,.own 4 (List.map e35 l2).length]),(4,.row 35 3 (List.map e35 l2)),(3,.row 32 2 (List.map e32 l))] 5 0) ?_
   obtain rfl:=Option.some.inj h
   exact rT hR_0 (.cons (.agg rfl rfl (Nat.le_of_ble_eq_true rfl)) .nil)
def g8 (n:Int) (many:Int):Option Int:=bif (decide (many<1)) then (some 0) else ((must (decide (many≠0))).bind fun _=>bif (decide ((n.tmod many)<0)) then (some (wr ((n.tmod many)+many))) else (some (n.tmod many)))
theorem k8 (n:Int) (many:Int) (r:Int) (h:g8 n many=some r):SCall Tryd.prog Gs 8 [jI n,jI many] [] 0 Fr.emp (jI r) [] 0 Fr.emp:=by
 unfold g8 at h
 refine SCall.mkK Tryd.func8 c8 rfl rfl (by kernel_rfl) (fun Q_0 hR_0 hN_0=>?_)
 refine Sa (sT [(0,jI n),(1,jI many)] [] 0 0) ?_
 refine AW.seqK (fun K_1 hK_1=>?_)
 refine Sa (sT [(0,jI n),(1,jI many),(7,.d (.bool (decide (many<1))))] [] 0 0) ?_
 refine AW.cond rfl (fun hb_2=>?_) (fun hb_2=>?_)
 ·have h:=ifT hb_2 h
  refine Sa (sT [(4,jI 0)] [] 0 0) ?_
  obtain rfl:=Option.some.inj h
  exact rT hR_0 (.cons (.tmp rfl) .nil)
 ·have h:=ifF hb_2 h
  refine AW.skip (hK_1 _ ?_)
  refine AW.srwK (fun Q_3 hQ_3=>?_)
  refine Au 2 (sT [(1,jI many),(8,jI n),(9,jI many)] [] 0 0) ?_
  obtain ⟨_,hv_4,h⟩:=bsome h
  refine RW.one fokW (r_rem trivial rfl rfl (of_decide_eq_true (must_ok hv_4)) (r_end ?_))
  refine Au 1 (sT [(1,jI many),(5,jI (n.tmod many))] [] 0 0) ?_
  refine RW.nil (hQ_3 _ ?_)
  refine AW.seqK (fun K_5 hK_5=>?_)
  refine Sa (sT [(1,jI many),(5,jI (n.tmod many)),(12,.d (.bool (decide ((n.tmod many)<0))))] [] 0 0) ?_
  refine AW.cond rfl (fun hb_6=>?_) (fun hb_6=>?_)
  ·have h:=ifT hb_6 h
   refine Ra (sT [(5,jI (wr ((n.tmod many)+many)))] [] 0 0) ?_
   refine hK_5 _ ?_
   refine Sa (sT [(4,jI (wr ((n.tmod many)+many)))] [] 0 0) ?_
   obtain rfl:=Option.some.inj h
   exact rT hR_0 (.cons (.tmp rfl) .nil)
  ·have h:=ifF hb_6 h
   refine AW.skip (hK_5 _ ?_)
   refine Sa (sT [(4,jI (n.tmod many))] [] 0 0) ?_
   obtain rfl:=Option.some.inj h
   exact rT hR_0 (.cons (.tmp rfl) .nil)
def g12_2 (n:Int):Int→Int→Unit→Option (Ctl (Unit) (Int)):=fun i p _=>bif (decide (p=n)) then (some (.brk i)) else (some (.next ()))
def g12 (l:(List Int)) (n:Int):Option Int:=bindC (eachC (g12_2 n) l 0 ()) fun _=>some (-1)
theorem k12 (l:(List Int)) (n:Int) (r:Int) (h:g12 l n=some r):SCall Tryd.prog Gs 12 [.d (.sl 1 (List.map e3 l)),jI n] [] 0 Fr.emp (jI r) [] 0 Fr.emp:=by
 unfold g12 at h
 refine SCall.mkK Tryd.func12 c12 rfl rfl (by kernel_rfl) (fun Q_0 hR_0 hN_0=>?_)
 refine Sa (sT [(0,.d (.sl 1 (List.map e3 l))),(1,jI n)] [] 0 0) ?_
 refine AW.seqK (fun K_1 hK_1=>?_)
 refine Sa (sT [(0,.d (.sl 1 (List.map e3 l))),(1,jI n),(5,jI 0)] [] 0 0) ?_
 refine AW.block ?_
 refine AW.sln (t:=0) rfl (fun hN_2=>?_)
 rw [List.length_map] at hN_2
 obtain ⟨out_2,hx_2,hk_2⟩:=bsomeC h
 refine AW.evCK (fun (i:Int) (_:Unit)=>(sT [(0,.d (.sl 1 (List.map e3 l))),(1,jI n),(5,jI i)] [] 0 0)) (g12_2 n) hx_2 (Can.kp (by kernel_rfl)) (fun i p s_2 hi_2 hl_2 hp_2 c_2 h hb_2 K_2 hK_2=>?_) (fun i s_2 hi_2 hl_2 hout=>?_)
 ·unfold g12_2 at h
  refine AW.seqK fun K_3 hK_3=>AW.srwK fun Q_4 hQ_4=>?_
  refine Au 2 (sT [(0,.d (.sl 1 (List.map e3 l))),(1,jI n),(5,jI i),(6,jI i),(7,.d (.sl 1 (List.map e3 l)))] [] 0 0) ?_
  refine rL rfl ?_
  refine Au 1 (sT [(0,.d (.sl 1 (List.map e3 l))),(1,jI n),(5,jI i),(9,.d (.bool (decide (i<(l.length:Int)))))] [] 0 0) ?_
  refine RW.nil (hQ_4 _ ?_)
  refine AW.cond rfl (fun hb_5=>?_) (fun hb_5=>False.elim (by have:=of_decide_eq_false hb_5;omega))
  refine AW.skip (hK_3 _ ?_)
  refine AW.seqK (fun K_6 hK_6=>?_)
  refine AW.block ?_
  refine AW.srwK (fun Q_7 hQ_7=>?_)
  refine Au 2 (sT [(0,.d (.sl 1 (List.map e3 l))),(1,jI n),(5,jI i),(12,.d (.sl 1 (List.map e3 l))),(13,jI i)] [] 0 0) ?_
  refine RW.one fokW (r_iaD trivial rfl rfl hi_2 (row:=e3 p) (mapget hp_2) (r_end ?_))
  refine Au 3 (sT [(0,.d (.sl 1 (List.map e3 l))),(1,jI n),(5,jI i),(17,.d (.bool (decide (p=n))))] [] 0 0) ?_
  refine RW.nil (hQ_7 _ ?_)
  refine AW.cond rfl (fun hb_8=>?_) (fun hb_8=>?_)
  ·have h:=ifT hb_8 h
   refine Sa (sT [(4,jI i)] [] 0 0) ?_
   obtain rfl:=Option.some.inj h
   have e_1:=hb_2 _ rfl
   subst e_1
   obtain rfl:=Aft.bk hk_2
   exact rT hR_0 (.cons (.tmp rfl) .nil)
  ·have h:=ifF hb_8 h
   refine AW.skip (hK_6 _ ?_)
   refine Ra (sT [(0,.d (.sl 1 (List.map e3 l))),(1,jI n),(5,jI (wr (i+1)))] [] 0 0) ?_
   obtain rfl:=Option.some.inj h
   have ew:wr (i+1)=i+1:=inext (N:=(l.length:Int)) (by omega) (by omega) (by omega)
   rw [ew]
   exact hK_2 _ _ rfl (Can.kp (by kernel_rfl))
 ·subst hout
  have h:=Aft.nx hk_2
  refine AW.seqK fun K_9 hK_9=>AW.srwK fun Q_10 hQ_10=>?_
  refine Au 2 (sT [(0,.d (.sl 1 (List.map e3 l))),(1,jI n),(5,jI i),(6,jI i),(7,.d (.sl 1 (List.map e3 l)))] [] 0 0) ?_
  refine rL rfl ?_
  refine Au 1 (sT [(0,.d (.sl 1 (List.map e3 l))),(1,jI n),(5,jI i),(9,.d (.bool (decide (i<(l.length:Int)))))] [] 0 0) ?_
  refine RW.nil (hQ_10 _ ?_)
  refine AW.cond rfl (fun hb_11=>False.elim (by have:=of_decide_eq_true hb_11;omega)) (fun hb_11=>?_)
  refine AW.exit ?_
  refine hK_1 _ ?_
  refine Sa (sT [(4,jI (-1))] [] 0 0) ?_
  obtain rfl:=Option.some.inj h
  exact rT hR_0 (.cons (.tmp rfl) .nil)
def g3_13 (r0_2:Int):(Int×(List PlankWood))→Option (Ctl (Int×(List PlankWood)) (List PlankWood)):=fun  (i,l2)=>bif (decide (i<(l2.length:Int))) then ((ixL l2 i).bind fun p=>some (.next ((wr (i+1)),(setL l2 i (PlankWood.mk (wr (1+r0_2)) p.Knots))))) else (some (.brk l2))
def g3_43 (r0_3:(List Int)):Int→HairHank→Int→Option Int:=fun h_ p2 used=>(g12 r0_3 h_).bind fun r0_1_1=>bif (decide (0≤r0_1_1)) then (some (wr (used+1))) else (some used)
def g3_21:Int→PlankShape→Int→Option Int:=fun i1 p1 all=>some (wr (all+p1.Long))
def g3 (b:PlankBook) (n:Int):Option Bool:=(g5 b).bind fun r0_5=>bif (!r0_5) then ((g6).bind fun r0_11=>some r0_11) else ((g7 b).bind fun (r0_Planks,r0_Parts)=>(g8 n 16).bind fun r0_2=>((whileC (g3_13 r0_2) 1000 (0,r0_Planks)).bind fun l1=>some l1).bind fun l=>(must (decide ((r0_Parts.length:Int)≤9223372036854775807))).bind fun _=>(eachS g3_21 r0_Parts 0 0).bind fun all=>(g9 (PlankBook.mk l r0_Parts)).bind fun r0_1=>(g10 (PlankBook.mk l r0_Parts)).bind fun (r0_2_1,r1_3)=>(g11 r0_1).bind fun (r0_3,r1_3_1)=>bif ((decide (r1_3≠r1_3_1))||(decide (r1_3≠0))) then ((bif ((decide (r1_3=r1_3_1))&&(decide (r1_3=4))) then ((g6).bind fun r0_11_1=>some r0_11_1) else (some false)).bind fun v=>some v) else ((eachS (g3_43 r0_3) r0_1.Hanks 0 0).bind fun used=>(g13 r0_1 r0_3).bind fun (r0_2_2,r1_4)=>bif (decide (r1_4=0)) then (bif (decide (used=(r0_2_1.length:Int))) then ((g14 (wr ((wr (used*(wr (1+r0_2)))) - all))).bind fun r0=>bif (false != ((r0_2_2.Low==r0.Low)&&((r0_2_2.High==r0.High)&&true))) then ((g6).bind fun r0_11_2=>some r0_11_2) else (some false)) else (some false)) else (some false)))
theorem k3 (b:PlankBook) (n:Int) (r:Bool) (h:g3 b n=some r):SCall Tryd.prog Gs 3 [.agg [.d (.sl 2 (List.map e32 b.Planks)),.d (.sl 3 (List.map e35 b.Parts))],jI n] [] 0 Fr.emp (.d (.bool r)) [] 0 Fr.emp:=by
 unfold g3 at h
 refine SCall.mkK Tryd.func3 c3 rfl rfl (by kernel_rfl) (fun Q_0 hR_0 hN_0=>?_)
 refine Sa (sT [(1,jI n),pR 2 0] [(0,.var 25 [.d (.sl 2 (List.map e32 b.Planks)),.d (.sl 3 (List.map e35 b.Parts))])] 1 0) ?_
 refine AW.seqK fun K_1 hK_1=>AW.srwK fun Q_2 hQ_2=>?_
 refine Au 1 (sT [(1,jI n),pR 2 0,(19,.agg [.d (.sl 2 (List.map e32 b.Planks)),.d (.sl 3 (List.map e35 b.Parts))])] [(0,.var 25 [.d (.sl 2 (List.map e32 b.Planks)),.d (.sl 3 (List.map e35 b.Parts))])] 1 0) ?_
 obtain ⟨r0_5,hx_3,h⟩:=bsome h
 refine rC (k5 b _ hx_3) ?_
 refine Au 1 (sT [(1,jI n),pR 2 0,(21,.d (.bool (!r0_5)))] [(0,.var 25 [.d (.sl 2 (List.map e32 b.Planks)),.d (.sl 3 (List.map e35 b.Parts))])] 1 0) ?_
 refine RW.nil (hQ_2 _ ?_)
 refine AW.cond rfl (fun hb_4=>?_) (fun hb_4=>?_)
 ·have h:=ifT hb_4 h
  refine AW.srwK (fun Q_5 hQ_5=>?_)
  obtain ⟨r0_11,hx_6,h⟩:=bsome h
  refine rC (k6 _ hx_6) ?_
  refine Au 1 (sT [(4,.d (.bool r0_11))] [] 1 0) ?_
  refine RW.nil (hQ_5 _ ?_)
  obtain rfl:=Option.some.inj h
  exact rT hR_0 (.cons (.tmp rfl) .nil)
 ·have h:=ifF hb_4 h
  refine AW.skip (hK_1 _ ?_)
  refine AW.srwK (fun Q_7 hQ_7=>?_)
  refine Au 1 (sT [(1,jI n),(23,.agg [.d (.sl 2 (List.map e32 b.Planks)),.d (.sl 3 (List.map e35 b.Parts))])] [] 1 0) ?_
  obtain ⟨⟨r0_Planks,r0_Parts⟩,hx_8,h⟩:=bsome h
  refine RW.one fokW (r_callS (zr:=[]) [] trivial rfl (k7 b _ hx_8) trivial rfl rfl ⟨.refl _,trivial⟩ rfl rfl rfl (r_end ?_))
  refine Au 2 (sT [(1,jI n),pR 5 6] [(6,.var 25 [.own 4 (List.map e32 r0_Planks).length,.own 5 (List.map e35 r0_Parts).length]),(4,.row 32 2 (List.map e32 r0_Planks)),(5,.row 35 3 (List.map e35 r0_Parts))] 7 0) ?_
  refine RW.nil (hQ_7 _ ?_)
  refine AW.srwK (fun Q_9 hQ_9=>?_)
  refine Au 1 (sT [pR 5 6,(25,jI n)] [(6,.var 25 [.own 4 (List.map e32 r0_Planks).length,.own 5 (List.map e35 r0_Parts).length]),(4,.row 32 2 (List.map e32 r0_Planks)),(5,.row 35 3 (List.map e35 r0_Parts))] 7 0) ?_
  obtain ⟨r0_2,hx_10,h⟩:=bsome h
  refine rC (k8 n 16 _ hx_10) ?_
  refine Au 3 (sT [pR 5 6,(6,jI (wr (1+r0_2))),(7,jI 0)] [(6,.var 25 [.own 4 (List.map e32 r0_Planks).length,.own 5 (List.map e35 r0_Parts).length]),(4,.row 32 2 (List.map e32 r0_Planks)),(5,.row 35 3 (List.map e35 r0_Parts))] 7 0) ?_
  refine RW.nil (hQ_9 _ ?_)
  obtain ⟨l,hx_11,h⟩:=bsome h
  refine AW.jnSK (fun (l:List PlankWood)=>(sT [pR 5 6,(6,jI (wr (1+r0_2))),(7,jI 0)] [(6,.var 25 [.own 4 (List.map e32 l).length,.own 5 (List.map e35 r0_Parts).length]),(4,.row 32 2 (List.map e32 l)),(5,.row 35 3 (List.map e35 r0_Parts))] 7 0)) (c:=l) (fun K_11 hK_11=>?_) ?_
  ·have h:=hx_11
   refine Sa (sT [pR 5 6,(6,jI (wr (1+r0_2))),(7,jI 0),(8,jI 0)] [(6,.var 25 [.own 4 (List.map e32 r0_Planks).length,.own 5 (List.map e35 r0_Parts).length]),(4,.row 32 2 (List.map e32 r0_Planks)),(5,.row 35 3 (List.map e35 r0_Parts))] 7 0) ?_
   obtain ⟨l1,hx_12,h⟩:=bsome h
   refine AW.jqSK (fun (l1:List PlankWood)=>(sT [pR 5 6,(6,jI (wr (1+r0_2))),(7,jI 0)] [(6,.var 25 [.own 4 (List.map e32 l1).length,.own 5 (List.map e35 r0_Parts).length]),(4,.row 32 2 (List.map e32 l1)),(5,.row 35 3 (List.map e35 r0_Parts))] 7 0)) (c:=l1) (fun K_12 hK_12=>?_) ?_
   ·have h:=hx_12
    refine AW.block ?_
    refine AW.whK (fun (⟨i,l2⟩:Int×(List PlankWood))=>(sT [pR 5 6,(6,jI (wr (1+r0_2))),(7,jI 0),(8,jI i)] [(6,.var 25 [.own 4 (List.map e32 l2).length,.own 5 (List.map e35 r0_Parts).length]),(4,.row 32 2 (List.map e32 l2)),(5,.row 35 3 (List.map e35 r0_Parts))] 7 0)) (g3_13 r0_2) h (Can.kp (by kernel_rfl)) (fun s_13 c_13 h hb_13 K_13 hK_13=>?_)
    obtain ⟨i,l2⟩:=s_13
    unfold g3_13 at h
    refine AW.seqK fun K_14 hK_14=>AW.srwK fun Q_15 hQ_15=>?_
    refine Au 3 (sT [pR 5 6,(6,jI (wr (1+r0_2))),(7,jI 0),(8,jI i),(28,jI i),(30,.own 4 (List.map e32 l2).length)] [(6,.var 25 [.own 4 (List.map e32 l2).length,.own 5 (List.map e35 r0_Parts).length]),(4,.row 32 2 (List.map e32 l2)),(5,.row 35 3 (List.map e35 r0_Parts))] 7 0) ?_
    refine RW.one fokW (r_lenY trivial rfl lenm (r_end ?_))
    refine Au 1 (sT [pR 5 6,(6,jI (wr (1+r0_2))),(7,jI 0),(8,jI i),(32,.d (.bool (decide (i<(l2.length:Int)))))] [(6,.var 25 [.own 4 (List.map e32 l2).length,.own 5 (List.map e35 r0_Parts).length]),(4,.row 32 2 (List.map e32 l2)),(5,.row 35 3 (List.map e35 r0_Parts))] 7 0) ?_
    refine RW.nil (hQ_15 _ ?_)
    refine AW.cond rfl (fun hb_16=>?_) (fun hb_16=>?_)
    ·have h:=ifT hb_16 h
     refine AW.skip (hK_14 _ ?_)
     refine AW.seqK (fun K_17 hK_17=>?_)
     refine AW.block ?_
     refine AW.rw ?_
     refine Au 4 (sT [pR 5 6,(6,jI (wr (1+r0_2))),(7,jI 0),(8,jI i),(36,.own 4 (List.map e32 l2).length),(37,jI i),(38,jI (wr (1+r0_2)))] [(6,.var 25 [.own 4 (List.map e32 l2).length,.own 5 (List.map e35 r0_Parts).length]),(4,.row 32 2 (List.map e32 l2)),(5,.row 35 3 (List.map e35 r0_Parts))] 7 0) ?_
     obtain ⟨p,hv_19,h⟩:=bsome h
     refine RW.one fokW (r_iaO trivial rfl rfl rfl (ixL_ok hv_19).1 (ix_lt (ixL_ok hv_19).2) rfl (r_end ?_))
     refine Au 1 (sT [pR 5 6,(6,jI (wr (1+r0_2))),(7,jI 0),(8,jI i),(38,jI (wr (1+r0_2))),(40,.eptr 4 (List.map e32 l2).length (i:Int).toNat 0)] [(6,.var 25 [.own 4 (List.map e32 l2).length,.own 5 (List.map e35 r0_Parts).length]),(4,.row 32 2 (List.map e32 l2)),(5,.row 35 3 (List.map e35 r0_Parts))] 7 0) ?_
     refine RW.one fokW (r_stE trivial rfl rfl rfl rfl (mapget (f:=e32) (ixL_ok hv_19).2) rfl rfl rfl (Nat.le_of_ble_eq_true rfl) (stz (f:=e32) (x:=(PlankWood.mk (wr (1+r0_2)) p.Knots)) rfl) (r_end ?_))
     rw [lenset (f:=e32) (xs:=l2) (i:=i) (x:=(PlankWood.mk (wr (1+r0_2)) p.Knots))]
     refine RW.nil ?_
     refine hK_17 _ ?_
     refine Ra (sT [pR 5 6,(6,jI (wr (1+r0_2))),(7,jI 0),(8,jI (wr (i+1)))] [(4,.row 32 2 (List.map e32 (setL l2 i (PlankWood.mk (wr (1+r0_2)) p.Knots)))),(6,.var 25 [.own 4 (List.map e32 (setL l2 i (PlankWood.mk (wr (1+r0_2)) p.Knots))).length,.own 5 (List.map e35 r0_Parts).length]),(5,.row 35 3 (List.map e35 r0_Parts))] 7 0) ?_
     obtain rfl:=Option.some.inj h
     exact hK_13 _ _ rfl (Can.kp (by kernel_rfl))
    ·have h:=ifF hb_16 h
     refine AW.exit ?_
     obtain rfl:=Option.some.inj h
     obtain rfl:=hb_13 _ rfl
     exact hK_12 _ (Can.kp (by kernel_rfl))
   ·obtain rfl:=Option.some.inj h
    exact hK_11 _ (Can.kp (by kernel_rfl))
  ·refine AW.seqK (fun K_20 hK_20=>?_)
   refine Sa (sT [pR 5 6,(6,jI (wr (1+r0_2))),(7,jI 0),(9,jI 0)] [(6,.var 25 [.own 4 (List.map e32 l).length,.own 5 (List.map e35 r0_Parts).length]),(4,.row 32 2 (List.map e32 l)),(5,.row 35 3 (List.map e35 r0_Parts))] 7 0) ?_
   refine AW.block ?_
   obtain ⟨_,hN_21,h⟩:=bsome h
   have hN_21:=of_decide_eq_true (must_ok hN_21)
   obtain ⟨out_21,hx_21,h⟩:=bsome h
   refine AW.evSK (fun (i1:Int) (all:Int)=>(sT [pR 5 6,(6,jI (wr (1+r0_2))),(7,jI all),(9,jI i1)] [(6,.var 25 [.own 4 (List.map e32 l).length,.own 5 (List.map e35 r0_Parts).length]),(4,.row 32 2 (List.map e32 l)),(5,.row 35 3 (List.map e35 r0_Parts))] 7 0)) g3_21 hx_21 (Can.kp (by kernel_rfl)) (fun i1 p1 all hi_21 hl_21 hp_21 c_21 h K_21 hK_21=>?_) (fun i1 all hi_21 hl_21 hout=>?_)
   ·unfold g3_21 at h
    refine AW.seqK fun K_22 hK_22=>AW.srwK fun Q_23 hQ_23=>?_
    refine Au 3 (sT [pR 5 6,(6,jI (wr (1+r0_2))),(7,jI all),(9,jI i1),(41,jI i1),(43,.own 5 (List.map e35 r0_Parts).length)] [(6,.var 25 [.own 4 (List.map e32 l).length,.own 5 (List.map e35 r0_Parts).length]),(4,.row 32 2 (List.map e32 l)),(5,.row 35 3 (List.map e35 r0_Parts))] 7 0) ?_
    refine RW.one fokW (r_lenY trivial rfl lenm (r_end ?_))
    refine Au 1 (sT [pR 5 6,(6,jI (wr (1+r0_2))),(7,jI all),(9,jI i1),(45,.d (.bool (decide (i1<(r0_Parts.length:Int)))))] [(6,.var 25 [.own 4 (List.map e32 l).length,.own 5 (List.map e35 r0_Parts).length]),(4,.row 32 2 (List.map e32 l)),(5,.row 35 3 (List.map e35 r0_Parts))] 7 0) ?_
    refine RW.nil (hQ_23 _ ?_)
    refine AW.cond rfl (fun hb_24=>?_) (fun hb_24=>False.elim (by have:=of_decide_eq_false hb_24;omega))
    refine AW.skip (hK_22 _ ?_)
    refine AW.seqK (fun K_25 hK_25=>?_)
    refine AW.block ?_
    refine AW.rw ?_
    refine Au 4 (sT [pR 5 6,(6,jI (wr (1+r0_2))),(9,jI i1),(48,jI all),(50,.own 5 (List.map e35 r0_Parts).length),(51,jI i1)] [(6,.var 25 [.own 4 (List.map e32 l).length,.own 5 (List.map e35 r0_Parts).length]),(4,.row 32 2 (List.map e32 l)),(5,.row 35 3 (List.map e35 r0_Parts))] 7 0) ?_
    refine RW.one fokW (r_iaO trivial rfl rfl rfl hi_21 (ix_lt hp_21) rfl (r_end ?_))
    refine Au 1 (sT [pR 5 6,(6,jI (wr (1+r0_2))),(9,jI i1),(48,jI all),(53,.eptr 5 (List.map e35 r0_Parts).length (i1:Int).toNat 0)] [(6,.var 25 [.own 4 (List.map e32 l).length,.own 5 (List.map e35 r0_Parts).length]),(4,.row 32 2 (List.map e32 l)),(5,.row 35 3 (List.map e35 r0_Parts))] 7 0) ?_
    refine RW.one fokW (r_loadE trivial rfl rfl rfl (mapget (f:=e35) hp_21) rfl (r_end ?_))
    refine Au 2 (sT [pR 5 6,(6,jI (wr (1+r0_2))),(7,jI (wr (all+p1.Long))),(9,jI i1)] [(6,.var 25 [.own 4 (List.map e32 l).length,.own 5 (List.map e35 r0_Parts).length]),(4,.row 32 2 (List.map e32 l)),(5,.row 35 3 (List.map e35 r0_Parts))] 7 0) ?_
    refine RW.nil ?_
    refine hK_25 _ ?_
    refine Ra (sT [pR 5 6,(6,jI (wr (1+r0_2))),(7,jI (wr (all+p1.Long))),(9,jI (wr (i1+1)))] [(6,.var 25 [.own 4 (List.map e32 l).length,.own 5 (List.map e35 r0_Parts).length]),(4,.row 32 2 (List.map e32 l)),(5,.row 35 3 (List.map e35 r0_Parts))] 7 0) ?_
    obtain rfl:=Option.some.inj h
    have ew:wr (i1+1)=i1+1:=inext (N:=(r0_Parts.length:Int)) (by omega) (by omega) (by omega)
    rw [ew]
    exact hK_21 _ (Can.kp (by kernel_rfl))
   ·subst hout
    refine AW.seqK fun K_27 hK_27=>AW.srwK fun Q_28 hQ_28=>?_
    refine Au 3 (sT [pR 5 6,(6,jI (wr (1+r0_2))),(7,jI all),(9,jI i1),(41,jI i1),(43,.own 5 (List.map e35 r0_Parts).length)] [(6,.var 25 [.own 4 (List.map e32 l).length,.own 5 (List.map e35 r0_Parts).length]),(4,.row 32 2 (List.map e32 l)),(5,.row 35 3 (List.map e35 r0_Parts))] 7 0) ?_
    refine RW.one fokW (r_lenY trivial rfl lenm (r_end ?_))
    refine Au 1 (sT [pR 5 6,(6,jI (wr (1+r0_2))),(7,jI all),(9,jI i1),(45,.d (.bool (decide (i1<(r0_Parts.length:Int)))))] [(6,.var 25 [.own 4 (List.map e32 l).length,.own 5 (List.map e35 r0_Parts).length]),(4,.row 32 2 (List.map e32 l)),(5,.row 35 3 (List.map e35 r0_Parts))] 7 0) ?_
    refine RW.nil (hQ_28 _ ?_)
    refine AW.cond rfl (fun hb_29=>False.elim (by have:=of_decide_eq_true hb_29;omega)) (fun hb_29=>?_)
    refine AW.exit ?_
    refine hK_20 _ ?_
    refine AW.can (Can.fzH 6 0 4 rfl rfl rfl rfl) ?_
    refine AW.kp (sT [pR 5 6,(6,jI (wr (1+r0_2))),(7,jI all),(9,jI i1),(45,.d (.bool (decide (i1<(r0_Parts.length:Int)))))] [(6,.var 25 [.d (.sl 2 (List.map e32 l)),.own 5 (List.map e35 r0_Parts).length]),(5,.row 35 3 (List.map e35 r0_Parts))] 7 0) (by kernel_rfl) ?_
    refine AW.can (Can.fzH 6 1 5 rfl rfl rfl rfl) ?_
    refine AW.kp (sT [pR 5 6,(6,jI (wr (1+r0_2))),(7,jI all),(9,jI i1),(45,.d (.bool (decide (i1<(r0_Parts.length:Int)))))] [(6,.var 25 [.d (.sl 2 (List.map e32 l)),.d (.sl 3 (List.map e35 r0_Parts))])] 7 0) (by kernel_rfl) ?_
    refine AW.srwK (fun Q_30 hQ_30=>?_)
    refine Au 1 (sT [pR 5 6,(6,jI (wr (1+r0_2))),(7,jI all),(56,.agg [.d (.sl 2 (List.map e32 l)),.d (.sl 3 (List.map e35 r0_Parts))])] [(6,.var 25 [.d (.sl 2 (List.map e32 l)),.d (.sl 3 (List.map e35 r0_Parts))])] 7 0) ?_
    obtain ⟨r0_1,hx_31,h⟩:=bsome h
    refine rC (k9 (PlankBook.mk l r0_Parts) _ hx_31) ?_
    refine Au 2 (sT [pR 5 6,(6,jI (wr (1+r0_2))),(7,jI all),pR 10 7] [(7,.var 39 (cv39 r0_1)),(6,.var 25 [.d (.sl 2 (List.map e32 l)),.d (.sl 3 (List.map e35 r0_Parts))])] 8 0) ?_
    refine RW.nil (hQ_30 _ ?_)
    refine AW.srwK (fun Q_32 hQ_32=>?_)
    refine Au 1 (sT [(6,jI (wr (1+r0_2))),(7,jI all),pR 10 7,(59,.agg [.d (.sl 2 (List.map e32 l)),.d (.sl 3 (List.map e35 r0_Parts))])] [(7,.var 39 (cv39 r0_1))] 8 0) ?_
    obtain ⟨⟨r0_2_1,r1_3⟩,hx_33,h⟩:=bsome h
    refine rC (k10 (PlankBook.mk l r0_Parts) _ hx_33) ?_
    refine Au 5 (sT [(6,jI (wr (1+r0_2))),(7,jI all),pR 10 7,(11,.d (.sl 1 (List.map e3 r0_2_1))),(12,jI r1_3)] [(7,.var 39 (cv39 r0_1))] 8 0) ?_
    refine RW.nil (hQ_32 _ ?_)
    refine AW.srwK (fun Q_34 hQ_34=>?_)
    refine Au 1 (sT [(6,jI (wr (1+r0_2))),(7,jI all),pR 10 7,(11,.d (.sl 1 (List.map e3 r0_2_1))),(12,jI r1_3),(64,.agg [.d (.sl 4 (List.map e62 r0_1.Hanks)),.d (.sl 3 (List.map e64 r0_1.Horses)),jI r0_1.Dark,jI r0_1.Near,jI r0_1.Match])] [(7,.var 39 (cv39 r0_1))] 8 0) ?_
    obtain ⟨⟨r0_3,r1_3_1⟩,hx_35,h⟩:=bsome h
    refine rC (k11 r0_1 _ hx_35) ?_
    refine Au 5 (sT [(6,jI (wr (1+r0_2))),(7,jI all),pR 10 7,(11,.d (.sl 1 (List.map e3 r0_2_1))),(12,jI r1_3),(13,.d (.sl 1 (List.map e3 r0_3))),(14,jI r1_3_1)] [(7,.var 39 (cv39 r0_1))] 8 0) ?_
    refine RW.nil (hQ_34 _ ?_)
    refine AW.seqK (fun K_36 hK_36=>?_)
    refine AW.sa fokW [71] (sT [(6,jI (wr (1+r0_2))),(7,jI all),pR 10 7,(11,.d (.sl 1 (List.map e3 r0_2_1))),(12,jI r1_3),(13,.d (.sl 1 (List.map e3 r0_3))),(14,jI r1_3_1),(74,.d (.bool ((decide (r1_3≠r1_3_1))||(decide (r1_3≠0)))))] [(7,.var 39 (cv39 r0_1))] 8 0) (by kernel_rfl) ?_
    refine AW.cond rfl (fun hb_37=>?_) (fun hb_37=>?_)
    ·have h:=ifT hb_37 h
     refine AW.srwK (fun Q_38 hQ_38=>?_)
     refine RW.au fokW 8 [78] (sT [(82,.d (.bool ((decide (r1_3=r1_3_1))&&(decide (r1_3=4)))))] [] 8 0) (by kernel_rfl) ?_
     obtain ⟨v,hx_39,h⟩:=bsome h
     refine RW.cut fokW 2 ((sT [(84,.d (.bool v))] [] 8 0)) ?_ ?_
     ·refine r_split 82 rfl (fun hb_41=>?_) (fun hb_41=>?_)
      ·have h:=ifT hb_41 hx_39
       obtain ⟨r0_11_1,hx_40,h⟩:=bsome h
       refine r_call rfl rfl (k6 _ hx_40) rfl rfl ?_
       refine aX 1 (sT [(84,.d (.bool r0_11_1))] [] 8 0) ?_
       obtain rfl:=Option.some.inj h
       refine RunC.finJ (Can.kp (by kernel_rfl))
      ·have h:=ifF hb_41 hx_39
       refine aX 2 (sT [(84,.d (.bool false))] [] 8 0) ?_
       obtain rfl:=Option.some.inj h
       refine RunC.finJ (Can.kp (by kernel_rfl))
     ·refine Au 1 (sT [(4,.d (.bool v))] [] 8 0) ?_
      refine RW.nil (hQ_38 _ ?_)
      obtain rfl:=Option.some.inj h
      exact rT hR_0 (.cons (.tmp rfl) .nil)
    ·have h:=ifF hb_37 h
     refine AW.skip (hK_36 _ ?_)
     refine Sa (sT [(6,jI (wr (1+r0_2))),(7,jI all),pR 10 7,(11,.d (.sl 1 (List.map e3 r0_2_1))),(13,.d (.sl 1 (List.map e3 r0_3))),(15,jI 0)] [(7,.var 39 (cv39 r0_1))] 8 0) ?_
     refine AW.seqK (fun K_42 hK_42=>?_)
     refine Sa (sT [(6,jI (wr (1+r0_2))),(7,jI all),pR 10 7,(11,.d (.sl 1 (List.map e3 r0_2_1))),(13,.d (.sl 1 (List.map e3 r0_3))),(15,jI 0),(16,jI 0)] [(7,.var 39 (cv39 r0_1))] 8 0) ?_
     refine AW.block ?_
     refine AW.slh (r:=7) (off:=0) rfl rfl (fun hN_43=>?_)
     rw [List.length_map] at hN_43
     obtain ⟨out_43,hx_43,h⟩:=bsome h
     refine AW.evSK (fun (h_:Int) (used:Int)=>(sT [(6,jI (wr (1+r0_2))),(7,jI all),pR 10 7,(11,.d (.sl 1 (List.map e3 r0_2_1))),(13,.d (.sl 1 (List.map e3 r0_3))),(15,jI used),(16,jI h_)] [(7,.var 39 (cv39 r0_1))] 8 0)) (g3_43 r0_3) hx_43 (Can.kp (by kernel_rfl)) (fun h_ p2 used hi_43 hl_43 hp_43 c_43 h K_43 hK_43=>?_) (fun h_ used hi_43 hl_43 hout=>?_)
     ·unfold g3_43 at h
      refine AW.seqK fun K_44 hK_44=>AW.srwK fun Q_45 hQ_45=>?_
      refine Au 3 (sT [(6,jI (wr (1+r0_2))),(7,jI all),pR 10 7,(11,.d (.sl 1 (List.map e3 r0_2_1))),(13,.d (.sl 1 (List.map e3 r0_3))),(15,jI used),(16,jI h_),(85,jI h_),(87,.d (.sl 4 (List.map e62 r0_1.Hanks)))] [(7,.var 39 (cv39 r0_1))] 8 0) ?_
      refine rL rfl ?_
      refine Au 1 (sT [(6,jI (wr (1+r0_2))),(7,jI all),pR 10 7,(11,.d (.sl 1 (List.map e3 r0_2_1))),(13,.d (.sl 1 (List.map e3 r0_3))),(15,jI used),(16,jI h_),(89,.d (.bool (decide (h_<(r0_1.Hanks.length:Int)))))] [(7,.var 39 (cv39 r0_1))] 8 0) ?_
      refine RW.nil (hQ_45 _ ?_)
      refine AW.cond rfl (fun hb_46=>?_) (fun hb_46=>False.elim (by have:=of_decide_eq_false hb_46;omega))
      refine AW.skip (hK_44 _ ?_)
      refine AW.seqK (fun K_47 hK_47=>?_)
      refine AW.block ?_
      refine AW.srwK (fun Q_48 hQ_48=>?_)
      refine Au 2 (sT [(6,jI (wr (1+r0_2))),(7,jI all),pR 10 7,(11,.d (.sl 1 (List.map e3 r0_2_1))),(13,.d (.sl 1 (List.map e3 r0_3))),(15,jI used),(16,jI h_),(92,.d (.sl 1 (List.map e3 r0_3))),(93,jI h_)] [(7,.var 39 (cv39 r0_1))] 8 0) ?_
      obtain ⟨r0_1_1,hx_49,h⟩:=bsome h
      refine rC (k12 r0_3 h_ _ hx_49) ?_
      refine Au 1 (sT [(6,jI (wr (1+r0_2))),(7,jI all),pR 10 7,(11,.d (.sl 1 (List.map e3 r0_2_1))),(13,.d (.sl 1 (List.map e3 r0_3))),(15,jI used),(16,jI h_),(95,.d (.bool (decide (0≤r0_1_1))))] [(7,.var 39 (cv39 r0_1))] 8 0) ?_
      refine RW.nil (hQ_48 _ ?_)
      refine AW.cond rfl (fun hb_50=>?_) (fun hb_50=>?_)
      ·have h:=ifT hb_50 h
       refine Ra (sT [(6,jI (wr (1+r0_2))),(7,jI all),pR 10 7,(11,.d (.sl 1 (List.map e3 r0_2_1))),(13,.d (.sl 1 (List.map e3 r0_3))),(15,jI (wr (used+1))),(16,jI h_)] [(7,.var 39 (cv39 r0_1))] 8 0) ?_
       refine hK_47 _ ?_
       refine Ra (sT [(6,jI (wr (1+r0_2))),(7,jI all),pR 10 7,(11,.d (.sl 1 (List.map e3 r0_2_1))),(13,.d (.sl 1 (List.map e3 r0_3))),(15,jI (wr (used+1))),(16,jI (wr (h_+1)))] [(7,.var 39 (cv39 r0_1))] 8 0) ?_
       obtain rfl:=Option.some.inj h
       have ew:wr (h_+1)=h_+1:=inext (N:=(r0_1.Hanks.length:Int)) (by omega) (by omega) (by omega)
       rw [ew]
       exact hK_43 _ (Can.kp (by kernel_rfl))
      ·have h:=ifF hb_50 h
       refine AW.skip (hK_47 _ ?_)
       refine Ra (sT [(6,jI (wr (1+r0_2))),(7,jI all),pR 10 7,(11,.d (.sl 1 (List.map e3 r0_2_1))),(13,.d (.sl 1 (List.map e3 r0_3))),(15,jI used),(16,jI (wr (h_+1)))] [(7,.var 39 (cv39 r0_1))] 8 0) ?_
       obtain rfl:=Option.some.inj h
       have ew:wr (h_+1)=h_+1:=inext (N:=(r0_1.Hanks.length:Int)) (by omega) (by omega) (by omega)
       rw [ew]
       exact hK_43 _ (Can.kp (by kernel_rfl))
     ·subst hout
      refine AW.seqK fun K_51 hK_51=>AW.srwK fun Q_52 hQ_52=>?_
      refine Au 3 (sT [(6,jI (wr (1+r0_2))),(7,jI all),pR 10 7,(11,.d (.sl 1 (List.map e3 r0_2_1))),(13,.d (.sl 1 (List.map e3 r0_3))),(15,jI used),(16,jI h_),(85,jI h_),(87,.d (.sl 4 (List.map e62 r0_1.Hanks)))] [(7,.var 39 (cv39 r0_1))] 8 0) ?_
      refine rL rfl ?_
      refine Au 1 (sT [(6,jI (wr (1+r0_2))),(7,jI all),pR 10 7,(11,.d (.sl 1 (List.map e3 r0_2_1))),(13,.d (.sl 1 (List.map e3 r0_3))),(15,jI used),(16,jI h_),(89,.d (.bool (decide (h_<(r0_1.Hanks.length:Int)))))] [(7,.var 39 (cv39 r0_1))] 8 0) ?_
      refine RW.nil (hQ_52 _ ?_)
      refine AW.cond rfl (fun hb_53=>False.elim (by have:=of_decide_eq_true hb_53;omega)) (fun hb_53=>?_)
      refine AW.exit ?_
      refine hK_42 _ ?_
      refine AW.srwK (fun Q_54 hQ_54=>?_)
      refine Au 2 (sT [(6,jI (wr (1+r0_2))),(7,jI all),(11,.d (.sl 1 (List.map e3 r0_2_1))),(15,jI used),(99,.agg [.d (.sl 4 (List.map e62 r0_1.Hanks)),.d (.sl 3 (List.map e64 r0_1.Horses)),jI r0_1.Dark,jI r0_1.Near,jI r0_1.Match]),(100,.d (.sl 1 (List.map e3 r0_3)))] [] 8 0) ?_
      obtain ⟨⟨r0_2_2,r1_4⟩,hx_55,h⟩:=bsome h
      refine rC (k13 r0_1 r0_3 _ hx_55) ?_
      refine Au 6 (sT [(6,jI (wr (1+r0_2))),(7,jI all),(11,.d (.sl 1 (List.map e3 r0_2_1))),(15,jI used),pR 17 8,(18,jI r1_4)] [(8,.var 47 [jI r0_2_2.Low,jI r0_2_2.High])] 9 0) ?_
      refine RW.nil (hQ_54 _ ?_)
      refine AW.sdrwK fokW (fun Q_56 hQ_56=>?_)
      refine aX 3 (sT [(6,jI (wr (1+r0_2))),(7,jI all),(11,.d (.sl 1 (List.map e3 r0_2_1))),(15,jI used),pR 17 8,(106,.d (.bool (decide (r1_4=0))))] [(8,.var 47 [jI r0_2_2.Low,jI r0_2_2.High])] 9 0) ?_
      refine r_split 106 rfl (fun hb_57=>?_) (fun hb_57=>?_)
      ·have h:=ifT hb_57 h
       refine aX 2 (sT [(6,jI (wr (1+r0_2))),(7,jI all),(15,jI used),pR 17 8,(106,.d (.bool true)),(107,jI used),(108,.d (.sl 1 (List.map e3 r0_2_1)))] [(8,.var 47 [jI r0_2_2.Low,jI r0_2_2.High])] 9 0) ?_
       refine r_lenX rfl rfl lenm ?_
       refine aX 3 (sT [(6,jI (wr (1+r0_2))),(7,jI all),(15,jI used),pR 17 8,(112,.d (.bool (decide (used=(r0_2_1.length:Int)))))] [(8,.var 47 [jI r0_2_2.Low,jI r0_2_2.High])] 9 0) ?_
       refine r_split 112 rfl (fun hb_58=>?_) (fun hb_58=>?_)
       ·have h:=ifT hb_58 h
        refine aX 6 (sT [(112,.d (.bool true)),(113,.agg [jI r0_2_2.Low,jI r0_2_2.High]),(118,jI (wr ((wr (used*(wr (1+r0_2)))) - all)))] [(8,.var 47 [jI r0_2_2.Low,jI r0_2_2.High])] 9 0) ?_
        obtain ⟨r0,hx_59,h⟩:=bsome h
        refine r_call rfl rfl (k14 (wr ((wr (used*(wr (1+r0_2)))) - all)) _ hx_59) rfl rfl ?_
        refine r_aeq rfl rfl rfl rfl rfl ft47 rfl rfl rfl ?_
        refine aX 2 (sT [(122,.d (.bool (false != ((r0_2_2.Low==r0.Low)&&((r0_2_2.High==r0.High)&&true)))))] [(8,.var 47 [jI r0_2_2.Low,jI r0_2_2.High])] 9 0) ?_
        refine r_split 122 rfl (fun hb_60=>?_) (fun hb_60=>?_)
        ·have h:=ifT hb_60 h
         obtain ⟨r0_11_2,hx_61,h⟩:=bsome h
         refine r_call rfl rfl (k6 _ hx_61) rfl rfl ?_
         refine aX 2 (sT [(4,.d (.bool r0_11_2))] [(8,.var 47 [jI r0_2_2.Low,jI r0_2_2.High])] 9 0) ?_
         refine Fi (sT [(4,.d (.bool r0_11_2))] [] 9 0) ?_
         refine hQ_56 _ ?_
         obtain rfl:=Option.some.inj h
         exact rT hR_0 (.cons (.tmp rfl) .nil)
        ·have h:=ifF hb_60 h
         refine aX 3 (sT [(4,.d (.bool false))] [(8,.var 47 [jI r0_2_2.Low,jI r0_2_2.High])] 9 0) ?_
         refine Fi (sT [(4,.d (.bool false))] [] 9 0) ?_
         refine hQ_56 _ ?_
         obtain rfl:=Option.some.inj h
         exact rT hR_0 (.cons (.tmp rfl) .nil)
       ·have h:=ifF hb_58 h
        refine aX 13 (sT [(4,.d (.bool false))] [(8,.var 47 [jI r0_2_2.Low,jI r0_2_2.High])] 9 0) ?_
        refine Fi (sT [(4,.d (.bool false))] [] 9 0) ?_
        refine hQ_56 _ ?_
        obtain rfl:=Option.some.inj h
        exact rT hR_0 (.cons (.tmp rfl) .nil)
      ·have h:=ifF hb_57 h
       refine aX 19 (sT [(4,.d (.bool false))] [(8,.var 47 [jI r0_2_2.Low,jI r0_2_2.High])] 9 0) ?_
       refine Fi (sT [(4,.d (.bool false))] [] 9 0) ?_
       refine hQ_56 _ ?_
       obtain rfl:=Option.some.inj h
       exact rT hR_0 (.cons (.tmp rfl) .nil)
def g7a_13 (b:PlankBook):Int→(List PlankShape)→Option (List PlankShape):=fun i1 l2=>(ixL b.Parts i1).bind fun p1=>(appL 40 l2 ([(PlankShape.mk p1.Long [] false)])).bind fun l3=>some l3
def g7a_2:Int→PlankWood→(List PlankWood)→Option (List PlankWood):=fun i p l=>(appL 32 l ([(PlankWood.mk p.Long [])])).bind fun l1=>some l1
def g7a (b:PlankBook):Option PlankBook:=(eachS g7a_2 b.Planks 0 ([]:List PlankWood)).bind fun l=>(forS (g7a_13 b) ((((wr ((wr ((b.Parts.length:Int).tdiv 2))*2)):Int) - 0).toNat) 0 ([]:List PlankShape)).bind fun l2=>some (PlankBook.mk l l2)
end Go.Proofs.Tp
