/- Told functions, and that the program does so, part 2. Conditions: none. -/
import Derived.Test.YtgdkhppmlfmacaaDoorTda
set_option linter.unusedVariables false
set_option linter.unusedSimpArgs false
namespace Go.Proofs.Tm
open Go Go.Abs Go.Proofs
def g94_3:Int→(List Int)→(List Int)→Option (List Int):=fun v p l=>(appL 8 l [v]).bind fun l1=>some l1
def g94 (b_HarnessBook:HarnessBook) (b_bald:(List Int)) (mf:List (Harness_want×Int)):Option (List Int):=(must (decide ((b_HarnessBook.Needs.length:Int)≤9223372036854775807))).bind fun _=>(eachS g94_3 b_HarnessBook.Needs 0 ([]:List Int)).bind fun l=>some l
theorem k94 (b_HarnessBook:HarnessBook) (b_bald:(List Int)) (mf:List (Harness_want×Int)) (r:(List Int)) (h:g94 b_HarnessBook b_bald mf=some r):SCall Tryd.prog Gs 94 [.agg [.d (.sl 4 (List.map e65 b_HarnessBook.Hair.Hanks)),.d (.sl 3 (List.map e67 b_HarnessBook.Hair.Horses)),jI b_HarnessBook.Hair.Dark,jI b_HarnessBook.Hair.Near,jI b_HarnessBook.Hair.Match,.d (.sl 1 (List.map e51 b_HarnessBook.Needs)),.d (.sl 2 (List.map e33 b_HarnessBook.Stock)),jI b_HarnessBook.Pack,jI b_HarnessBook.Bad,.d (.sl 1 (List.map e3 b_bald)),.fmp (List.map m197_3 mf)]] [] 0 Fr.emp (.d (.sl 1 (List.map e3 r))) [] 0 Fr.emp:=by
 unfold g94 at h
 refine SCall.mkK Tryd.func94 c94 rfl rfl (by kernel_rfl) (fun Q_0 hR_0 hN_0=>?_)
 refine Sa (sT [pR 1 0] [(0,.var 144 (catV (cv83 b_HarnessBook) [.d (.sl 1 (List.map e3 b_bald)),.fmp (List.map m197_3 mf)]))] 1 0) ?_
 refine Sa (sT [pR 1 0,(3,.d (.nilSl))] [(0,.var 144 (catV (cv83 b_HarnessBook) [.d (.sl 1 (List.map e3 b_bald)),.fmp (List.map m197_3 mf)]))] 1 0) ?_
 refine AW.seqK fun K_1 hK_1=>AW.srwK fun Q_2 hQ_2=>?_
 refine Au 3 (sT [(3,.d (.nilSl)),(7,.d (.sl 1 (List.map e51 b_HarnessBook.Needs)))] [] 1 0) ?_
 refine rL rfl ?_
 refine Au 1 (sT [(3,.d (.nilSl)),(8,jI (b_HarnessBook.Needs.length:Int)),(9,jI 0)] [] 1 0) ?_
 refine RW.nil (hQ_2 _ ?_)
 refine AW.block ?_
 obtain ⟨_,hN_3,h⟩:=bsome h
 have hN_3:=of_decide_eq_true (must_ok hN_3)
 obtain ⟨out_3,hx_3,h⟩:=bsome h
 refine AW.evSK (fun (v:Int) (l:List Int)=>(sT [(3,.own 1 (List.map e3 l).length),(8,jI (b_HarnessBook.Needs.length:Int)),(9,jI v)] [(1,.row 3 1 (List.map e3 l))] 2 0)) g94_3 hx_3 (Can.trans (Can.thawT 3 3 1 rfl rfl) (Can.kp (by kernel_rfl))) (fun v p l hi_3 hl_3 hp_3 c_3 h K_3 hK_3=>?_) (fun v l hi_3 hl_3 hout=>?_)
 ·unfold g94_3 at h
  refine Sa (sT [(3,.own 1 (List.map e3 l).length),(8,jI (b_HarnessBook.Needs.length:Int)),(9,jI v),(10,.d (.bool (decide (v<(b_HarnessBook.Needs.length:Int)))))] [(1,.row 3 1 (List.map e3 l))] 2 0) ?_
  refine AW.seqK (fun K_4 hK_4=>?_)
  refine AW.cond rfl (fun hb_5=>?_) (fun hb_5=>False.elim (by have:=of_decide_eq_false hb_5;omega))
  refine AW.skip (hK_4 _ ?_)
  refine AW.seqK (fun K_6 hK_6=>?_)
  refine AW.block ?_
  refine Sa (sT [(3,.own 1 (List.map e3 l).length),(4,jI v),(8,jI (b_HarnessBook.Needs.length:Int)),(9,jI v)] [(1,.row 3 1 (List.map e3 l))] 2 0) ?_
  refine AW.rw ?_
  refine Au 3 (sT [(8,jI (b_HarnessBook.Needs.length:Int)),(9,jI v),(12,.own 1 (List.map e3 l).length),(14,.own 2 (List.map e3 [v]).length)] [(2,.row 3 1 (List.map e3 [v])),(1,.row 3 1 (List.map e3 l))] 3 0) ?_
  obtain ⟨l1,hv_8,h⟩:=bsome h
  refine RW.one fokW (r_apO trivial rfl rfl rfl rfl rfl rfl (apz hv_8 e3) (apr hv_8 e3) (r_end ?_))
  refine Au 1 (sT [(3,.own 1 (List.map e3 l1).length),(8,jI (b_HarnessBook.Needs.length:Int)),(9,jI v)] [(1,.row 3 1 (List.map e3 l1))] 3 0) ?_
  refine RW.nil ?_
  refine hK_6 _ ?_
  refine Ra (sT [(3,.own 1 (List.map e3 l1).length),(8,jI (b_HarnessBook.Needs.length:Int)),(9,jI (wr (v+1)))] [(1,.row 3 1 (List.map e3 l1))] 3 0) ?_
  obtain rfl:=Option.some.inj h
  have ew:wr (v+1)=v+1:=inext (N:=(b_HarnessBook.Needs.length:Int)) (by omega) (by omega) (by omega)
  rw [ew]
  exact hK_3 _ (Can.kp (by kernel_rfl))
 ·subst hout
  refine Sa (sT [(3,.own 1 (List.map e3 l).length),(8,jI (b_HarnessBook.Needs.length:Int)),(9,jI v),(10,.d (.bool (decide (v<(b_HarnessBook.Needs.length:Int)))))] [(1,.row 3 1 (List.map e3 l))] 2 0) ?_
  refine AW.seqK (fun K_9 hK_9=>?_)
  refine AW.cond rfl (fun hb_10=>False.elim (by have:=of_decide_eq_true hb_10;omega)) (fun hb_10=>?_)
  refine AW.exit ?_
  refine hK_1 _ ?_
  refine Sa (sT [(2,.own 1 (List.map e3 l).length)] [(1,.row 3 1 (List.map e3 l))] 2 0) ?_
  obtain rfl:=Option.some.inj h
  exact AW.ret (hR_0 _ (retX (.cons (.tmp rfl) .nil) (.own rfl rfl) rfl (by kernel_rfl) (by kernel_rfl)))
def g96 (b_HarnessBook:HarnessBook) (b_bald:(List Int)) (mf:List (Harness_want×Int)):Option (HarnessBook×(List Int)×(List (Harness_want×Int))):=some (b_HarnessBook,b_bald,mf)
theorem k96 (b_HarnessBook:HarnessBook) (b_bald:(List Int)) (mf:List (Harness_want×Int)) (r:HarnessBook×(List Int)×(List (Harness_want×Int))) (h:g96 b_HarnessBook b_bald mf=some r):SCall Tryd.prog Gs 96 [.agg [.d (.sl 4 (List.map e65 b_HarnessBook.Hair.Hanks)),.d (.sl 3 (List.map e67 b_HarnessBook.Hair.Horses)),jI b_HarnessBook.Hair.Dark,jI b_HarnessBook.Hair.Near,jI b_HarnessBook.Hair.Match,.d (.sl 1 (List.map e51 b_HarnessBook.Needs)),.d (.sl 2 (List.map e33 b_HarnessBook.Stock)),jI b_HarnessBook.Pack,jI b_HarnessBook.Bad,.d (.sl 1 (List.map e3 b_bald)),.fmp (List.map m197_3 mf)]] [] 0 Fr.emp (match r with | (o0_HarnessBook,o0_bald,mf1)=>.clo 125 [] [.ptr 0 0]) (match r with | (o0_HarnessBook,o0_bald,mf1)=>[(0,.var 144 (catV (cv83 o0_HarnessBook) [.d (.sl 1 (List.map e3 o0_bald)),.fmp (List.map m197_3 mf1)]))]) 1 Fr.emp:=by
 unfold g96 at h
 refine SCall.mkK Tryd.func96 c96 rfl rfl (by kernel_rfl) (fun Q_0 hR_0 hN_0=>?_)
 refine Sa (sT [pR 1 0] [(0,.var 144 (catV (cv83 b_HarnessBook) [.d (.sl 1 (List.map e3 b_bald)),.fmp (List.map m197_3 mf)]))] 1 0) ?_
 refine Sa (sT [(2,.clo 125 [] [.ptr 0 0])] [(0,.var 144 (catV (cv83 b_HarnessBook) [.d (.sl 1 (List.map e3 b_bald)),.fmp (List.map m197_3 mf)]))] 1 0) ?_
 obtain rfl:=Option.some.inj h
 exact rT hR_0 (.cons (.tmp rfl) .nil)
def g127 :Option (Nat→Int):=some (arrL [0,0,0])
theorem k127  (r:(Nat→Int)) (h:g127=some r):SCall Tryd.prog Gs 127 [] [] 0 Fr.emp (.agg [jI (r 0),jI (r 1),jI (r 2)]) [] 0 Fr.emp:=by
 unfold g127 at h
 refine SCall.mkK Tryd.func127 c127 rfl rfl (by kernel_rfl) (fun Q_0 hR_0 hN_0=>?_)
 refine Sa (sT [pR 0 0] [(0,.var 154 [jI 0,jI 0,jI 0])] 1 0) ?_
 refine Sa (sT [pR 0 0,pR 1 1] [(1,.var 154 [jI 0,jI 0,jI 0]),(0,.var 154 [jI 0,jI 0,jI 0])] 2 0) ?_
 refine Sa (sT [pR 0 0] [(0,.var 154 [jI 0,jI 0,jI 0])] 2 0) ?_
 obtain rfl:=Option.some.inj h
 exact rT hR_0 (.cons (.agg rfl rfl (Nat.le_of_ble_eq_true rfl)) .nil)
def g126_10 {S_:Type} (rec_:(Nat→Int)→Int→HarnessBook→(List Int)→(List (Harness_want×Int))→S_→Option (Bool×S_)) (kind:Int) (o0_HarnessBook:HarnessBook) (o0_bald:(List Int)) (mf:List (Harness_want×Int)) (p1:Span):Int→(S_×(Nat→Int))→Option (Ctl (S_×(Nat→Int)) (Ctl (S_) (Ctl (S_) (Bool×S_)))):=fun v (s_4,p2)=>(ixN 3 kind).bind fun j=>(rec_ (aset p2 j (wr (p1.Low+v))) (wr (kind+1)) o0_HarnessBook o0_bald mf s_4).bind fun (r0_3_1,s_7_1)=>bif (!r0_3_1) then (some (.brk (.brk (.brk (false,s_7_1))))) else (some (.next (s_7_1,(aset p2 j (wr (p1.Low+v))))))
def g126 {S_:Type} (c_:(Nat→Int)→S_→Option (S_×Bool)):Nat→(Nat→Int)→Int→HarnessBook→(List Int)→(List (Harness_want×Int))→S_→Option (Bool×S_)
 | 0,_,_,_,_,_,_=>none
 | n_+1,p,kind,o0_HarnessBook,o0_bald,mf,s_=>bif (decide (kind=(o0_HarnessBook.Stock.length:Int))) then ((c_ p s_).bind fun (s_1,go)=>some (go,s_1)) else ((ixL o0_HarnessBook.Stock kind).bind fun p1=>bindC (bindC (bindC (forC (g126_10 (g126 c_ n_) kind o0_HarnessBook o0_bald mf p1) ((((wr ((wr (p1.High - p1.Low))+1)):Int) - 0).toNat) 0 (s_,p)) fun (s_4,p2)=>some (.next s_4):Option (Ctl (S_) (Ctl (S_) (Bool×S_)))) fun s_3=>some (.next s_3):Option (Ctl (S_) (Bool×S_))) fun s_2=>some (true,s_2))
theorem k126 {S_:Type} (fr_:S_→Fr) (c_:(Nat→Int)→S_→Option (S_×Bool)) (hc_:∀ (a0:(Nat→Int)) s s2 b,c_ a0 s=some (s2,b)→YCall Tryd.prog Gs (fr_ s) [.agg [jI (a0 0),jI (a0 1),jI (a0 2)]] (.d (.bool b)) (fr_ s2)):∀ (n_:Nat) (p:(Nat→Int)) (kind:Int) (o0_HarnessBook:HarnessBook) (o0_bald:(List Int)) (mf:List (Harness_want×Int)) (s_:S_) (r:Bool×S_) (h:g126 c_ n_ p kind o0_HarnessBook o0_bald mf s_=some r),SCall Tryd.prog Gs 126 [.agg [jI (p 0),jI (p 1),jI (p 2)],jI kind,.ptr 0 0,.ptr 1 0,.ptr 2 0] [(0,.var 144 (catV (cv83 o0_HarnessBook) [.d (.sl 1 (List.map e3 o0_bald)),.fmp (List.map m197_3 mf)])),(1,.var 189 [.yld]),(2,.var 190 [.clo 126 [] [.ptr 0 0,.ptr 1 0,.ptr 2 0]])] 3 (fr_ s_) (match r with | (r0_3,s_7)=>.d (.bool r0_3)) (match r with | (r0_3,s_7)=>[(0,.var 144 (catV (cv83 o0_HarnessBook) [.d (.sl 1 (List.map e3 o0_bald)),.fmp (List.map m197_3 mf)])),(1,.var 189 [.yld]),(2,.var 190 [.clo 126 [] [.ptr 0 0,.ptr 1 0,.ptr 2 0]])]) 3 (fr_ (match r with | (r0_3,s_7)=>s_7)):=by
 intro n_
 induction n_ with
 | zero=>intro p kind o0_HarnessBook o0_bald mf s_ r h;cases h
 | succ n_ ih=>
  intro p kind o0_HarnessBook o0_bald mf s_ r h
  rw [g126] at h
  refine SCall.mkK Tryd.func126 c126 rfl rfl (by kernel_rfl) (fun Q_0 hR_0 hN_0=>?_)
  refine Sa ⟨[(1,jI kind),pR 2 0,pR 3 1,pR 4 2,pR 5 3],[(3,.var 154 [jI (p 0),jI (p 1),jI (p 2)]),(0,.var 144 (catV (cv83 o0_HarnessBook) [.d (.sl 1 (List.map e3 o0_bald)),.fmp (List.map m197_3 mf)])),(1,.var 189 [.yld]),(2,.var 190 [.clo 126 [] [.ptr 0 0,.ptr 1 0,.ptr 2 0]])],4,(fr_ s_),[],3⟩ ?_
  refine AW.seqK fun K_1 hK_1=>AW.srwK fun Q_2 hQ_2=>?_
  refine Au 4 ⟨[(1,jI kind),pR 2 0,pR 3 1,pR 4 2,pR 5 3,(10,jI kind),(13,.d (.sl 2 (List.map e33 o0_HarnessBook.Stock)))],[(3,.var 154 [jI (p 0),jI (p 1),jI (p 2)]),(0,.var 144 (catV (cv83 o0_HarnessBook) [.d (.sl 1 (List.map e3 o0_bald)),.fmp (List.map m197_3 mf)])),(1,.var 189 [.yld]),(2,.var 190 [.clo 126 [] [.ptr 0 0,.ptr 1 0,.ptr 2 0]])],4,(fr_ s_),[],3⟩ ?_
  refine rL rfl ?_
  refine Au 1 ⟨[(1,jI kind),pR 2 0,pR 3 1,pR 4 2,pR 5 3,(15,.d (.bool (decide (kind=(o0_HarnessBook.Stock.length:Int)))))],[(3,.var 154 [jI (p 0),jI (p 1),jI (p 2)]),(0,.var 144 (catV (cv83 o0_HarnessBook) [.d (.sl 1 (List.map e3 o0_bald)),.fmp (List.map m197_3 mf)])),(1,.var 189 [.yld]),(2,.var 190 [.clo 126 [] [.ptr 0 0,.ptr 1 0,.ptr 2 0]])],4,(fr_ s_),[],3⟩ ?_
  refine RW.nil (hQ_2 _ ?_)
  refine AW.cond rfl (fun hb_3=>?_) (fun hb_3=>?_)
  ·have h:=ifT hb_3 h
   refine AW.srwK (fun Q_4 hQ_4=>?_)
   refine Au 2 ⟨[(16,.yld),(17,.agg [jI (p 0),jI (p 1),jI (p 2)])],[(0,.var 144 (catV (cv83 o0_HarnessBook) [.d (.sl 1 (List.map e3 o0_bald)),.fmp (List.map m197_3 mf)])),(1,.var 189 [.yld]),(2,.var 190 [.clo 126 [] [.ptr 0 0,.ptr 1 0,.ptr 2 0]])],4,(fr_ s_),[],3⟩ ?_
   obtain ⟨⟨s_1,go⟩,hx_5,h⟩:=bsome h
   refine RW.one fokW (r_yield (zr:=[]) trivial rfl rfl (hc_ p _ _ _ hx_5) trivial ⟨.refl _,trivial⟩ rfl rfl rfl rfl (r_end ?_))
   refine Au 1 ⟨[(7,.d (.bool go))],[(0,.var 144 (catV (cv83 o0_HarnessBook) [.d (.sl 1 (List.map e3 o0_bald)),.fmp (List.map m197_3 mf)])),(1,.var 189 [.yld]),(2,.var 190 [.clo 126 [] [.ptr 0 0,.ptr 1 0,.ptr 2 0]])],4,(fr_ s_1),[],3⟩ ?_
   refine RW.nil (hQ_4 _ ?_)
   obtain rfl:=Option.some.inj h
   exact rT hR_0 (.cons (.tmp rfl) .nil)
  ·have h:=ifF hb_3 h
   refine AW.skip (hK_1 _ ?_)
   refine AW.srwK (fun Q_6 hQ_6=>?_)
   refine Au 4 ⟨[(1,jI kind),pR 4 2,pR 5 3,(21,.d (.sl 2 (List.map e33 o0_HarnessBook.Stock))),(22,jI kind)],[(3,.var 154 [jI (p 0),jI (p 1),jI (p 2)]),(0,.var 144 (catV (cv83 o0_HarnessBook) [.d (.sl 1 (List.map e3 o0_bald)),.fmp (List.map m197_3 mf)])),(1,.var 189 [.yld]),(2,.var 190 [.clo 126 [] [.ptr 0 0,.ptr 1 0,.ptr 2 0]])],4,(fr_ s_),[],3⟩ ?_
   obtain ⟨p1,hv_7,h⟩:=bsome h
   refine RW.one fokW (r_iaD trivial rfl rfl (ixL_ok hv_7).1 (row:=e33 p1) (mapget (ixL_ok hv_7).2) (r_end ?_))
   refine Au 3 ⟨[(1,jI kind),pR 4 2,pR 5 3,pR 8 4],[(4,.var 33 [jI p1.Low,jI p1.High]),(3,.var 154 [jI (p 0),jI (p 1),jI (p 2)]),(0,.var 144 (catV (cv83 o0_HarnessBook) [.d (.sl 1 (List.map e3 o0_bald)),.fmp (List.map m197_3 mf)])),(1,.var 189 [.yld]),(2,.var 190 [.clo 126 [] [.ptr 0 0,.ptr 1 0,.ptr 2 0]])],5,(fr_ s_),[],3⟩ ?_
   refine RW.nil (hQ_6 _ ?_)
   obtain ⟨c_8,hx_8,hk_8⟩:=bsomeC h
   refine AW.jnK (fun (s_2:S_)=>⟨[],[(0,.var 144 (catV (cv83 o0_HarnessBook) [.d (.sl 1 (List.map e3 o0_bald)),.fmp (List.map m197_3 mf)])),(1,.var 189 [.yld]),(2,.var 190 [.clo 126 [] [.ptr 0 0,.ptr 1 0,.ptr 2 0]])],5,(fr_ s_2),[],3⟩) (c:=c_8) (fun K_8 hK_8=>?_) (fun s_2 hj_8=>?_)
   ·have h:=hx_8
    refine Sa ⟨[(1,jI kind),pR 4 2,pR 5 3,pR 8 4,(30,jI (wr ((wr (p1.High - p1.Low))+1))),(31,jI 0)],[(4,.var 33 [jI p1.Low,jI p1.High]),(3,.var 154 [jI (p 0),jI (p 1),jI (p 2)]),(0,.var 144 (catV (cv83 o0_HarnessBook) [.d (.sl 1 (List.map e3 o0_bald)),.fmp (List.map m197_3 mf)])),(1,.var 189 [.yld]),(2,.var 190 [.clo 126 [] [.ptr 0 0,.ptr 1 0,.ptr 2 0]])],5,(fr_ s_),[],3⟩ ?_
    obtain ⟨c_9,hx_9,hk_9⟩:=bsomeC h
    refine AW.jqK (fun (s_3:S_)=>⟨[],[(0,.var 144 (catV (cv83 o0_HarnessBook) [.d (.sl 1 (List.map e3 o0_bald)),.fmp (List.map m197_3 mf)])),(1,.var 189 [.yld]),(2,.var 190 [.clo 126 [] [.ptr 0 0,.ptr 1 0,.ptr 2 0]])],5,(fr_ s_3),[],3⟩) (c:=c_9) (fun K_9 hK_9=>?_) (fun s_3 hj_9=>?_)
    ·have h:=hx_9
     refine AW.block ?_
     have hN_10:(wr ((wr (p1.High - p1.Low))+1))≤9223372036854775807:=(wr_range _).2
     obtain ⟨out_10,hx_10,hk_10⟩:=bsomeC h
     refine AW.lpCK (fun (v:Int) (⟨s_4,p2⟩:S_×(Nat→Int))=>⟨[(1,jI kind),pR 4 2,pR 5 3,pR 8 4,(30,jI (wr ((wr (p1.High - p1.Low))+1))),(31,jI v)],[(4,.var 33 [jI p1.Low,jI p1.High]),(3,.var 154 [jI (p2 0),jI (p2 1),jI (p2 2)]),(0,.var 144 (catV (cv83 o0_HarnessBook) [.d (.sl 1 (List.map e3 o0_bald)),.fmp (List.map m197_3 mf)])),(1,.var 189 [.yld]),(2,.var 190 [.clo 126 [] [.ptr 0 0,.ptr 1 0,.ptr 2 0]])],5,(fr_ s_4),[],3⟩) (g126_10 (g126 c_ n_) kind o0_HarnessBook o0_bald mf p1) ((wr ((wr (p1.High - p1.Low))+1))) hx_10 (Can.kp (by kernel_rfl)) (fun v s_10 hi_10 hl_10 c_10 h hb_10 K_10 hK_10=>?_) (fun v s_10 hi_10 hl_10 hout=>?_)
     ·obtain ⟨s_4,p2⟩:=s_10
      unfold g126_10 at h
      refine Sa ⟨[(1,jI kind),pR 4 2,pR 5 3,pR 8 4,(30,jI (wr ((wr (p1.High - p1.Low))+1))),(31,jI v),(32,.d (.bool (decide (v<(wr ((wr (p1.High - p1.Low))+1))))))],[(4,.var 33 [jI p1.Low,jI p1.High]),(3,.var 154 [jI (p2 0),jI (p2 1),jI (p2 2)]),(0,.var 144 (catV (cv83 o0_HarnessBook) [.d (.sl 1 (List.map e3 o0_bald)),.fmp (List.map m197_3 mf)])),(1,.var 189 [.yld]),(2,.var 190 [.clo 126 [] [.ptr 0 0,.ptr 1 0,.ptr 2 0]])],5,(fr_ s_4),[],3⟩ ?_
      refine AW.seqK (fun K_11 hK_11=>?_)
      refine AW.cond rfl (fun hb_12=>?_) (fun hb_12=>False.elim (by have:=of_decide_eq_false hb_12;omega))
      refine AW.skip (hK_11 _ ?_)
      refine AW.seqK (fun K_13 hK_13=>?_)
      refine AW.block ?_
      refine Sa ⟨[(1,jI kind),pR 4 2,pR 5 3,pR 8 4,(9,jI v),(30,jI (wr ((wr (p1.High - p1.Low))+1))),(31,jI v)],[(4,.var 33 [jI p1.Low,jI p1.High]),(3,.var 154 [jI (p2 0),jI (p2 1),jI (p2 2)]),(0,.var 144 (catV (cv83 o0_HarnessBook) [.d (.sl 1 (List.map e3 o0_bald)),.fmp (List.map m197_3 mf)])),(1,.var 189 [.yld]),(2,.var 190 [.clo 126 [] [.ptr 0 0,.ptr 1 0,.ptr 2 0]])],5,(fr_ s_4),[],3⟩ ?_
      refine AW.srwK (fun Q_14 hQ_14=>?_)
      refine Au 5 ⟨[(1,jI kind),pR 4 2,pR 5 3,pR 8 4,(30,jI (wr ((wr (p1.High - p1.Low))+1))),(31,jI v),(34,jI kind),(38,jI (wr (p1.Low+v)))],[(4,.var 33 [jI p1.Low,jI p1.High]),(3,.var 154 [jI (p2 0),jI (p2 1),jI (p2 2)]),(0,.var 144 (catV (cv83 o0_HarnessBook) [.d (.sl 1 (List.map e3 o0_bald)),.fmp (List.map m197_3 mf)])),(1,.var 189 [.yld]),(2,.var 190 [.clo 126 [] [.ptr 0 0,.ptr 1 0,.ptr 2 0]])],5,(fr_ s_4),[],3⟩ ?_
      obtain ⟨j,hv_15,h⟩:=bsome h
      refine RW.one fokW (r_iaV trivial rfl rfl rfl (ixN_ok hv_15).1 (ixN_ok hv_15).2.1 (r_end ?_))
      refine RW.one fokW (r_stX trivial rfl rfl rfl rfl rfl (aslot hv_15 rfl) (cs':=[jI ((aset p2 j (wr (p1.Low+v))) 0),jI ((aset p2 j (wr (p1.Low+v))) 1),jI ((aset p2 j (wr (p1.Low+v))) 2)]) (ast (w:=p2) (c:=fun z=>jI z) hv_15) (r_end ?_))
      refine RW.nil (hQ_14 _ ?_)
      refine AW.srwK (fun Q_16 hQ_16=>?_)
      refine Au 4 ⟨[(1,jI kind),pR 4 2,pR 5 3,pR 8 4,(30,jI (wr ((wr (p1.High - p1.Low))+1))),(31,jI v),(40,.clo 126 [] [.ptr 0 0,.ptr 1 0,.ptr 2 0]),(41,.agg [jI ((aset p2 j (wr (p1.Low+v))) 0),jI ((aset p2 j (wr (p1.Low+v))) 1),jI ((aset p2 j (wr (p1.Low+v))) 2)]),(43,jI (wr (kind+1)))],[(3,.var 154 [jI ((aset p2 j (wr (p1.Low+v))) 0),jI ((aset p2 j (wr (p1.Low+v))) 1),jI ((aset p2 j (wr (p1.Low+v))) 2)]),(4,.var 33 [jI p1.Low,jI p1.High]),(0,.var 144 (catV (cv83 o0_HarnessBook) [.d (.sl 1 (List.map e3 o0_bald)),.fmp (List.map m197_3 mf)])),(1,.var 189 [.yld]),(2,.var 190 [.clo 126 [] [.ptr 0 0,.ptr 1 0,.ptr 2 0]])],5,(fr_ s_4),[],3⟩ ?_
      obtain ⟨⟨r0_3_1,s_7_1⟩,hx_17,h⟩:=bsome h
      refine RW.one fokW (r_callvS (zr:=[]) [0,1,2] trivial rfl (.clo _ _ _) (by kernel_rfl) rfl (ih (aset p2 j (wr (p1.Low+v))) (wr (kind+1)) o0_HarnessBook o0_bald mf s_4 _ hx_17) ⟨rfl,rfl,rfl,trivial⟩ rfl rfl ⟨.refl _,.refl _,.refl _,.refl _,.refl _,trivial⟩ rfl rfl rfl (r_end ?_))
      refine Au 1 ⟨[(1,jI kind),pR 4 2,pR 5 3,pR 8 4,(30,jI (wr ((wr (p1.High - p1.Low))+1))),(31,jI v),(45,.d (.bool (!r0_3_1)))],[(0,.var 144 (catV (cv83 o0_HarnessBook) [.d (.sl 1 (List.map e3 o0_bald)),.fmp (List.map m197_3 mf)])),(1,.var 189 [.yld]),(2,.var 190 [.clo 126 [] [.ptr 0 0,.ptr 1 0,.ptr 2 0]]),(3,.var 154 [jI ((aset p2 j (wr (p1.Low+v))) 0),jI ((aset p2 j (wr (p1.Low+v))) 1),jI ((aset p2 j (wr (p1.Low+v))) 2)]),(4,.var 33 [jI p1.Low,jI p1.High])],5,(fr_ s_7_1),[],3⟩ ?_
      refine RW.nil (hQ_16 _ ?_)
      refine AW.cond rfl (fun hb_18=>?_) (fun hb_18=>?_)
      ·have h:=ifT hb_18 h
       refine Sa ⟨[(7,.d (.bool false))],[(0,.var 144 (catV (cv83 o0_HarnessBook) [.d (.sl 1 (List.map e3 o0_bald)),.fmp (List.map m197_3 mf)])),(1,.var 189 [.yld]),(2,.var 190 [.clo 126 [] [.ptr 0 0,.ptr 1 0,.ptr 2 0]])],5,(fr_ s_7_1),[],3⟩ ?_
       obtain rfl:=Option.some.inj h
       have e_3:=hb_10 _ rfl
       subst e_3
       obtain rfl:=Aft.bk hk_10
       obtain rfl:=Aft.bk hk_9
       obtain rfl:=Aft.bk hk_8
       exact rT hR_0 (.cons (.tmp rfl) .nil)
      ·have h:=ifF hb_18 h
       refine AW.skip (hK_13 _ ?_)
       refine Ra ⟨[(1,jI kind),pR 4 2,pR 5 3,pR 8 4,(30,jI (wr ((wr (p1.High - p1.Low))+1))),(31,jI (wr (v+1)))],[(0,.var 144 (catV (cv83 o0_HarnessBook) [.d (.sl 1 (List.map e3 o0_bald)),.fmp (List.map m197_3 mf)])),(1,.var 189 [.yld]),(2,.var 190 [.clo 126 [] [.ptr 0 0,.ptr 1 0,.ptr 2 0]]),(3,.var 154 [jI ((aset p2 j (wr (p1.Low+v))) 0),jI ((aset p2 j (wr (p1.Low+v))) 1),jI ((aset p2 j (wr (p1.Low+v))) 2)]),(4,.var 33 [jI p1.Low,jI p1.High])],5,(fr_ s_7_1),[],3⟩ ?_
       obtain rfl:=Option.some.inj h
       have ew:wr (v+1)=v+1:=inext (N:=(wr ((wr (p1.High - p1.Low))+1))) (by omega) (by omega) (by omega)
       rw [ew]
       exact hK_10 _ _ rfl (Can.kp (by kernel_rfl))
     ·obtain ⟨s_4,p2⟩:=s_10
      subst hout
      have h:=Aft.nx hk_10
      refine Sa ⟨[(1,jI kind),pR 4 2,pR 5 3,pR 8 4,(30,jI (wr ((wr (p1.High - p1.Low))+1))),(31,jI v),(32,.d (.bool (decide (v<(wr ((wr (p1.High - p1.Low))+1))))))],[(4,.var 33 [jI p1.Low,jI p1.High]),(3,.var 154 [jI (p2 0),jI (p2 1),jI (p2 2)]),(0,.var 144 (catV (cv83 o0_HarnessBook) [.d (.sl 1 (List.map e3 o0_bald)),.fmp (List.map m197_3 mf)])),(1,.var 189 [.yld]),(2,.var 190 [.clo 126 [] [.ptr 0 0,.ptr 1 0,.ptr 2 0]])],5,(fr_ s_4),[],3⟩ ?_
      refine AW.seqK (fun K_19 hK_19=>?_)
      refine AW.cond rfl (fun hb_20=>False.elim (by have:=of_decide_eq_true hb_20;omega)) (fun hb_20=>?_)
      refine AW.exit ?_
      obtain rfl:=Option.some.inj h
      exact hK_9 _ _ rfl (Can.kp (by kernel_rfl))
    ·subst hj_9
     have h:=Aft.nx hk_9
     obtain rfl:=Option.some.inj h
     exact hK_8 _ _ rfl (Can.kp (by kernel_rfl))
   ·subst hj_8
    have h:=Aft.nx hk_8
    refine Sa ⟨[(7,.d (.bool true))],[(0,.var 144 (catV (cv83 o0_HarnessBook) [.d (.sl 1 (List.map e3 o0_bald)),.fmp (List.map m197_3 mf)])),(1,.var 189 [.yld]),(2,.var 190 [.clo 126 [] [.ptr 0 0,.ptr 1 0,.ptr 2 0]])],5,(fr_ s_2),[],3⟩ ?_
    obtain rfl:=Option.some.inj h
    exact rT hR_0 (.cons (.tmp rfl) .nil)
def g125 {S_:Type} (c_:(Nat→Int)→S_→Option (S_×Bool)) (o0_HarnessBook:HarnessBook) (o0_bald:(List Int)) (mf:List (Harness_want×Int)) (s_:S_):Option S_:=(g127).bind fun r0=>(g126 c_ 1000 r0 0 o0_HarnessBook o0_bald mf s_).bind fun (r0_3,s_7)=>some s_7
theorem k125 {S_:Type} (fr_:S_→Fr) (c_:(Nat→Int)→S_→Option (S_×Bool)) (hc_:∀ (a0:(Nat→Int)) s s2 b,c_ a0 s=some (s2,b)→YCall Tryd.prog Gs (fr_ s) [.agg [jI (a0 0),jI (a0 1),jI (a0 2)]] (.d (.bool b)) (fr_ s2)) (o0_HarnessBook:HarnessBook) (o0_bald:(List Int)) (mf:List (Harness_want×Int)) (s_:S_) (r:S_) (h:g125 c_ o0_HarnessBook o0_bald mf s_=some r):SCall Tryd.prog Gs 125 [.yld,.ptr 0 0] [(0,.var 144 (catV (cv83 o0_HarnessBook) [.d (.sl 1 (List.map e3 o0_bald)),.fmp (List.map m197_3 mf)]))] 1 (fr_ s_) (.tup []) [(0,.var 144 (catV (cv83 o0_HarnessBook) [.d (.sl 1 (List.map e3 o0_bald)),.fmp (List.map m197_3 mf)]))] 1 (fr_ r):=by
 unfold g125 at h
 refine SCall.mkK Tryd.func125 c125 rfl rfl (by kernel_rfl) (fun Q_0 hR_0 hN_0=>?_)
 refine Sa ⟨[pR 1 0,pR 2 1],[(1,.var 189 [.yld]),(0,.var 144 (catV (cv83 o0_HarnessBook) [.d (.sl 1 (List.map e3 o0_bald)),.fmp (List.map m197_3 mf)]))],2,(fr_ s_),[],1⟩ ?_
 refine Sa ⟨[pR 1 0,pR 2 1,pR 3 2],[(2,.var 190 [.d (.nilFn)]),(1,.var 189 [.yld]),(0,.var 144 (catV (cv83 o0_HarnessBook) [.d (.sl 1 (List.map e3 o0_bald)),.fmp (List.map m197_3 mf)]))],3,(fr_ s_),[],1⟩ ?_
 refine Sa ⟨[pR 3 2],[(2,.var 190 [.clo 126 [] [.ptr 0 0,.ptr 1 0,.ptr 2 0]]),(1,.var 189 [.yld]),(0,.var 144 (catV (cv83 o0_HarnessBook) [.d (.sl 1 (List.map e3 o0_bald)),.fmp (List.map m197_3 mf)]))],3,(fr_ s_),[],1⟩ ?_
 refine AW.drw fokW ?_
 refine aX 1 ⟨[(5,.clo 126 [] [.ptr 0 0,.ptr 1 0,.ptr 2 0])],[(2,.var 190 [.clo 126 [] [.ptr 0 0,.ptr 1 0,.ptr 2 0]]),(1,.var 189 [.yld]),(0,.var 144 (catV (cv83 o0_HarnessBook) [.d (.sl 1 (List.map e3 o0_bald)),.fmp (List.map m197_3 mf)]))],3,(fr_ s_),[],1⟩ ?_
 obtain ⟨r0,hx_2,h⟩:=bsome h
 refine r_call trivial rfl (k127 _ hx_2) rfl rfl ?_
 obtain ⟨⟨r0_3,s_7⟩,hx_3,h⟩:=bsome h
 refine r_callvS (zr:=[]) [0,1,2] trivial rfl (.clo _ _ _) (by kernel_rfl) rfl (k126 fr_ c_ hc_ 1000 r0 0 o0_HarnessBook o0_bald mf s_ _ hx_3) ⟨rfl,rfl,rfl,trivial⟩ rfl rfl ⟨.refl _,.refl _,.refl _,.refl _,.refl _,trivial⟩ rfl rfl rfl ?_
 refine Fi ⟨[],[(0,.var 144 (catV (cv83 o0_HarnessBook) [.d (.sl 1 (List.map e3 o0_bald)),.fmp (List.map m197_3 mf)]))],3,(fr_ s_7),[],1⟩ ?_
 obtain rfl:=Option.some.inj h
 exact hN_0 _ (retX .nil (.refl _) rfl (by kernel_rfl) (by kernel_rfl))
def g133_3 (v:Int):Int→Int→Unit→Option (Ctl (Unit) (Int)):=fun v1 p _=>bif (decide (v=p)) then (some (.brk v1)) else (some (.next ()))
def g133 (s:(List Int)) (v:Int):Option Int:=bindC (eachC (g133_3 v) s 0 ()) fun _=>some (-1)
theorem k133 (s:(List Int)) (v:Int) (r:Int) (h:g133 s v=some r):SCall Tryd.prog Gs 133 [.d (.sl 1 (List.map e3 s)),jI v] [] 0 Fr.emp (jI r) [] 0 Fr.emp:=by
 unfold g133 at h
 refine SCall.mkK Tryd.func133 c133 rfl rfl (by kernel_rfl) (fun Q_0 hR_0 hN_0=>?_)
 refine Sa (sT [(0,.d (.sl 1 (List.map e3 s))),(1,jI v)] [] 0 0) ?_
 refine AW.seqK fun K_1 hK_1=>AW.srwK fun Q_2 hQ_2=>?_
 refine Au 1 (sT [(0,.d (.sl 1 (List.map e3 s))),(1,jI v),(6,.d (.sl 1 (List.map e3 s)))] [] 0 0) ?_
 refine rL rfl ?_
 refine Au 1 (sT [(0,.d (.sl 1 (List.map e3 s))),(1,jI v),(7,jI (s.length:Int)),(8,jI 0)] [] 0 0) ?_
 refine RW.nil (hQ_2 _ ?_)
 refine AW.block ?_
 refine AW.sln (t:=0) rfl (fun hN_3=>?_)
 rw [List.length_map] at hN_3
 obtain ⟨out_3,hx_3,hk_3⟩:=bsomeC h
 refine AW.evCK (fun (v1:Int) (_:Unit)=>(sT [(0,.d (.sl 1 (List.map e3 s))),(1,jI v),(7,jI (s.length:Int)),(8,jI v1)] [] 0 0)) (g133_3 v) hx_3 (Can.kp (by kernel_rfl)) (fun v1 p s_3 hi_3 hl_3 hp_3 c_3 h hb_3 K_3 hK_3=>?_) (fun v1 s_3 hi_3 hl_3 hout=>?_)
 ·unfold g133_3 at h
  refine Sa (sT [(0,.d (.sl 1 (List.map e3 s))),(1,jI v),(7,jI (s.length:Int)),(8,jI v1),(9,.d (.bool (decide (v1<(s.length:Int)))))] [] 0 0) ?_
  refine AW.seqK (fun K_4 hK_4=>?_)
  refine AW.cond rfl (fun hb_5=>?_) (fun hb_5=>False.elim (by have:=of_decide_eq_false hb_5;omega))
  refine AW.skip (hK_4 _ ?_)
  refine AW.seqK (fun K_6 hK_6=>?_)
  refine AW.block ?_
  refine Sa (sT [(0,.d (.sl 1 (List.map e3 s))),(1,jI v),(5,jI v1),(7,jI (s.length:Int)),(8,jI v1)] [] 0 0) ?_
  refine AW.srwK (fun Q_7 hQ_7=>?_)
  refine Au 3 (sT [(0,.d (.sl 1 (List.map e3 s))),(1,jI v),(5,jI v1),(7,jI (s.length:Int)),(8,jI v1),(11,jI v),(12,.d (.sl 1 (List.map e3 s))),(13,jI v1)] [] 0 0) ?_
  refine RW.one fokW (r_iaD trivial rfl rfl hi_3 (row:=e3 p) (mapget hp_3) (r_end ?_))
  refine Au 2 (sT [(0,.d (.sl 1 (List.map e3 s))),(1,jI v),(5,jI v1),(7,jI (s.length:Int)),(8,jI v1),(16,.d (.bool (decide (v=p))))] [] 0 0) ?_
  refine RW.nil (hQ_7 _ ?_)
  refine AW.cond rfl (fun hb_8=>?_) (fun hb_8=>?_)
  ·have h:=ifT hb_8 h
   refine Sa (sT [(4,jI v1)] [] 0 0) ?_
   obtain rfl:=Option.some.inj h
   have e_1:=hb_3 _ rfl
   subst e_1
   obtain rfl:=Aft.bk hk_3
   exact rT hR_0 (.cons (.tmp rfl) .nil)
  ·have h:=ifF hb_8 h
   refine AW.skip (hK_6 _ ?_)
   refine Ra (sT [(0,.d (.sl 1 (List.map e3 s))),(1,jI v),(7,jI (s.length:Int)),(8,jI (wr (v1+1)))] [] 0 0) ?_
   obtain rfl:=Option.some.inj h
   have ew:wr (v1+1)=v1+1:=inext (N:=(s.length:Int)) (by omega) (by omega) (by omega)
   rw [ew]
   exact hK_3 _ _ rfl (Can.kp (by kernel_rfl))
 ·subst hout
  have h:=Aft.nx hk_3
  refine Sa (sT [(0,.d (.sl 1 (List.map e3 s))),(1,jI v),(7,jI (s.length:Int)),(8,jI v1),(9,.d (.bool (decide (v1<(s.length:Int)))))] [] 0 0) ?_
  refine AW.seqK (fun K_9 hK_9=>?_)
  refine AW.cond rfl (fun hb_10=>False.elim (by have:=of_decide_eq_true hb_10;omega)) (fun hb_10=>?_)
  refine AW.exit ?_
  refine hK_1 _ ?_
  refine Sa (sT [(4,jI (-1))] [] 0 0) ?_
  obtain rfl:=Option.some.inj h
  exact rT hR_0 (.cons (.tmp rfl) .nil)
def g106 (s:(List Int)) (v:Int):Option Bool:=(g133 s v).bind fun r0_1=>some (decide (0≤r0_1))
theorem k106 (s:(List Int)) (v:Int) (r:Bool) (h:g106 s v=some r):SCall Tryd.prog Gs 106 [.d (.sl 1 (List.map e3 s)),jI v] [] 0 Fr.emp (.d (.bool r)) [] 0 Fr.emp:=by
 unfold g106 at h
 refine SCall.mkK Tryd.func106 c106 rfl rfl (by kernel_rfl) (fun Q_0 hR_0 hN_0=>?_)
 refine Sa (sT [(0,.d (.sl 1 (List.map e3 s))),(1,jI v)] [] 0 0) ?_
 refine AW.srwK (fun Q_1 hQ_1=>?_)
 refine Au 2 (sT [(5,.d (.sl 1 (List.map e3 s))),(6,jI v)] [] 0 0) ?_
 obtain ⟨r0_1,hx_2,h⟩:=bsome h
 refine rC (k133 s v _ hx_2) ?_
 refine Au 2 (sT [(4,.d (.bool (decide (0≤r0_1))))] [] 0 0) ?_
 refine RW.nil (hQ_1 _ ?_)
 obtain rfl:=Option.some.inj h
 exact rT hR_0 (.cons (.tmp rfl) .nil)
def g128 (b_HarnessBook:HarnessBook) (b_bald:(List Int)) (mf:List (Harness_want×Int)) (horse:Int):Option Bool:=(g106 b_bald horse).bind fun r0=>some (!r0)
theorem k128 (b_HarnessBook:HarnessBook) (b_bald:(List Int)) (mf:List (Harness_want×Int)) (horse:Int) (r:Bool) (h:g128 b_HarnessBook b_bald mf horse=some r):SCall Tryd.prog Gs 128 [.agg [.d (.sl 4 (List.map e65 b_HarnessBook.Hair.Hanks)),.d (.sl 3 (List.map e67 b_HarnessBook.Hair.Horses)),jI b_HarnessBook.Hair.Dark,jI b_HarnessBook.Hair.Near,jI b_HarnessBook.Hair.Match,.d (.sl 1 (List.map e51 b_HarnessBook.Needs)),.d (.sl 2 (List.map e33 b_HarnessBook.Stock)),jI b_HarnessBook.Pack,jI b_HarnessBook.Bad,.d (.sl 1 (List.map e3 b_bald)),.fmp (List.map m197_3 mf)],jI horse] [] 0 Fr.emp (.d (.bool r)) [] 0 Fr.emp:=by
 unfold g128 at h
 refine SCall.mkK Tryd.func128 c128 rfl rfl (by kernel_rfl) (fun Q_0 hR_0 hN_0=>?_)
 refine Sa (sT [(1,jI horse),pR 2 0] [(0,.var 144 (catV (cv83 b_HarnessBook) [.d (.sl 1 (List.map e3 b_bald)),.fmp (List.map m197_3 mf)]))] 1 0) ?_
 refine AW.srwK (fun Q_1 hQ_1=>?_)
 refine Au 3 (sT [(6,.d (.sl 1 (List.map e3 b_bald))),(7,jI horse)] [] 1 0) ?_
 obtain ⟨r0,hx_2,h⟩:=bsome h
 refine rC (k106 b_bald horse _ hx_2) ?_
 refine Au 2 (sT [(4,.d (.bool (!r0)))] [] 1 0) ?_
 refine RW.nil (hQ_1 _ ?_)
 obtain rfl:=Option.some.inj h
 exact rT hR_0 (.cons (.tmp rfl) .nil)
def g129_5 (mf:List (Harness_want×Int)) (horse:Int):Int→Span→(Nat→Int)→Option (Nat→Int):=fun v p out=>bif (true != ((horse==(-1))&&((v==(-1))&&true))) then ((ixN 3 v).bind fun j=>some (aset out j ((mget q197 mf (Harness_want.mk horse v)).getD 0))) else (some out)
def g129 (b_HarnessBook:HarnessBook) (b_bald:(List Int)) (mf:List (Harness_want×Int)) (horse:Int):Option (Nat→Int):=(g127).bind fun r0=>(eachS (g129_5 mf horse) b_HarnessBook.Stock 0 r0).bind fun out=>some out
theorem k129 (b_HarnessBook:HarnessBook) (b_bald:(List Int)) (mf:List (Harness_want×Int)) (horse:Int) (r:(Nat→Int)) (h:g129 b_HarnessBook b_bald mf horse=some r):SCall Tryd.prog Gs 129 [.agg [.d (.sl 4 (List.map e65 b_HarnessBook.Hair.Hanks)),.d (.sl 3 (List.map e67 b_HarnessBook.Hair.Horses)),jI b_HarnessBook.Hair.Dark,jI b_HarnessBook.Hair.Near,jI b_HarnessBook.Hair.Match,.d (.sl 1 (List.map e51 b_HarnessBook.Needs)),.d (.sl 2 (List.map e33 b_HarnessBook.Stock)),jI b_HarnessBook.Pack,jI b_HarnessBook.Bad,.d (.sl 1 (List.map e3 b_bald)),.fmp (List.map m197_3 mf)],jI horse] [] 0 Fr.emp (.agg [jI (r 0),jI (r 1),jI (r 2)]) [] 0 Fr.emp:=by
 unfold g129 at h
 refine SCall.mkK Tryd.func129 c129 rfl rfl (by kernel_rfl) (fun Q_0 hR_0 hN_0=>?_)
 refine Sa (sT [(1,jI horse),pR 2 0,pR 4 1] [(1,.var 154 [jI 0,jI 0,jI 0]),(0,.var 144 (catV (cv83 b_HarnessBook) [.d (.sl 1 (List.map e3 b_bald)),.fmp (List.map m197_3 mf)]))] 2 0) ?_
 refine AW.srwK (fun Q_1 hQ_1=>?_)
 obtain ⟨r0,hx_2,h⟩:=bsome h
 refine rC (k127 _ hx_2) ?_
 refine Au 2 (sT [(1,jI horse),pR 2 0,pR 4 1,pR 5 2] [(2,.var 154 [jI (r0 0),jI (r0 1),jI (r0 2)]),(1,.var 154 [jI 0,jI 0,jI 0]),(0,.var 144 (catV (cv83 b_HarnessBook) [.d (.sl 1 (List.map e3 b_bald)),.fmp (List.map m197_3 mf)]))] 3 0) ?_
 refine RW.nil (hQ_1 _ ?_)
 refine AW.seqK fun K_3 hK_3=>AW.srwK fun Q_4 hQ_4=>?_
 refine Au 3 (sT [(1,jI horse),pR 2 0,pR 4 1,pR 5 2,(11,.d (.sl 2 (List.map e33 b_HarnessBook.Stock)))] [(2,.var 154 [jI (r0 0),jI (r0 1),jI (r0 2)]),(1,.var 154 [jI 0,jI 0,jI 0]),(0,.var 144 (catV (cv83 b_HarnessBook) [.d (.sl 1 (List.map e3 b_bald)),.fmp (List.map m197_3 mf)]))] 3 0) ?_
 refine rL rfl ?_
 refine Au 1 (sT [(1,jI horse),pR 2 0,pR 4 1,pR 5 2,(12,jI (b_HarnessBook.Stock.length:Int)),(13,jI 0)] [(2,.var 154 [jI (r0 0),jI (r0 1),jI (r0 2)]),(1,.var 154 [jI 0,jI 0,jI 0]),(0,.var 144 (catV (cv83 b_HarnessBook) [.d (.sl 1 (List.map e3 b_bald)),.fmp (List.map m197_3 mf)]))] 3 0) ?_
 refine RW.nil (hQ_4 _ ?_)
 refine AW.block ?_
 refine AW.slh (r:=0) (off:=6) rfl rfl (fun hN_5=>?_)
 rw [List.length_map] at hN_5
 obtain ⟨out_5,hx_5,h⟩:=bsome h
 refine AW.evSK (fun (v:Int) (out:(Nat→Int))=>(sT [(1,jI horse),pR 2 0,pR 4 1,pR 5 2,(12,jI (b_HarnessBook.Stock.length:Int)),(13,jI v)] [(2,.var 154 [jI (out 0),jI (out 1),jI (out 2)]),(1,.var 154 [jI 0,jI 0,jI 0]),(0,.var 144 (catV (cv83 b_HarnessBook) [.d (.sl 1 (List.map e3 b_bald)),.fmp (List.map m197_3 mf)]))] 3 0)) (g129_5 mf horse) hx_5 (Can.kp (by kernel_rfl)) (fun v p out hi_5 hl_5 hp_5 c_5 h K_5 hK_5=>?_) (fun v out hi_5 hl_5 hout=>?_)
 ·unfold g129_5 at h
  refine Sa (sT [(1,jI horse),pR 2 0,pR 4 1,pR 5 2,(12,jI (b_HarnessBook.Stock.length:Int)),(13,jI v),(14,.d (.bool (decide (v<(b_HarnessBook.Stock.length:Int)))))] [(2,.var 154 [jI (out 0),jI (out 1),jI (out 2)]),(1,.var 154 [jI 0,jI 0,jI 0]),(0,.var 144 (catV (cv83 b_HarnessBook) [.d (.sl 1 (List.map e3 b_bald)),.fmp (List.map m197_3 mf)]))] 3 0) ?_
  refine AW.seqK (fun K_6 hK_6=>?_)
  refine AW.cond rfl (fun hb_7=>?_) (fun hb_7=>False.elim (by have:=of_decide_eq_false hb_7;omega))
  refine AW.skip (hK_6 _ ?_)
  refine AW.seqK (fun K_8 hK_8=>?_)
  refine AW.block ?_
  refine Sa (sT [(1,jI horse),pR 2 0,pR 4 1,pR 5 2,(6,jI v),(12,jI (b_HarnessBook.Stock.length:Int)),(13,jI v)] [(2,.var 154 [jI (out 0),jI (out 1),jI (out 2)]),(1,.var 154 [jI 0,jI 0,jI 0]),(0,.var 144 (catV (cv83 b_HarnessBook) [.d (.sl 1 (List.map e3 b_bald)),.fmp (List.map m197_3 mf)]))] 3 0) ?_
  refine Sa (sT [(1,jI horse),pR 2 0,pR 4 1,pR 5 2,(6,jI v),pR 7 3,(12,jI (b_HarnessBook.Stock.length:Int)),(13,jI v)] [(3,.var 197 [jI horse,jI v]),(2,.var 154 [jI (out 0),jI (out 1),jI (out 2)]),(1,.var 154 [jI 0,jI 0,jI 0]),(0,.var 144 (catV (cv83 b_HarnessBook) [.d (.sl 1 (List.map e3 b_bald)),.fmp (List.map m197_3 mf)]))] 4 0) ?_
  refine AW.srwK (fun Q_9 hQ_9=>?_)
  refine Au 2 (sT [(1,jI horse),pR 2 0,pR 4 1,pR 5 2,(6,jI v),pR 7 3,(12,jI (b_HarnessBook.Stock.length:Int)),(13,jI v),(19,.agg [jI horse,jI v]),(20,.agg [jI (-1),jI (-1)])] [(3,.var 197 [jI horse,jI v]),(2,.var 154 [jI (out 0),jI (out 1),jI (out 2)]),(1,.var 154 [jI 0,jI 0,jI 0]),(0,.var 144 (catV (cv83 b_HarnessBook) [.d (.sl 1 (List.map e3 b_bald)),.fmp (List.map m197_3 mf)]))] 4 0) ?_
  refine RW.one fokW (r_aeq trivial rfl rfl rfl rfl ft197 rfl rfl rfl (r_end ?_))
  refine RW.nil (hQ_9 _ ?_)
  refine AW.cond rfl (fun hb_10=>?_) (fun hb_10=>?_)
  ·have h:=ifT hb_10 h
   refine AW.rw ?_
   refine Au 4 (sT [(1,jI horse),pR 2 0,pR 4 1,pR 5 2,(12,jI (b_HarnessBook.Stock.length:Int)),(13,jI v),(22,jI v),(24,.fmp (List.map m197_3 mf)),(25,.agg [jI horse,jI v])] [(2,.var 154 [jI (out 0),jI (out 1),jI (out 2)]),(1,.var 154 [jI 0,jI 0,jI 0]),(0,.var 144 (catV (cv83 b_HarnessBook) [.d (.sl 1 (List.map e3 b_bald)),.fmp (List.map m197_3 mf)]))] 4 0) ?_
   refine RW.one fokW (r_lookFC q197 e197 (fun x=>I x) mf (Harness_want.mk horse v) 0 trivial rfl rfl ft197 q197_ok (fun _=>rfl) rfl (r_end ?_))
   obtain ⟨j,hv_12,h⟩:=bsome h
   refine RW.one fokW (r_iaV trivial rfl rfl rfl (ixN_ok hv_12).1 (ixN_ok hv_12).2.1 (r_end ?_))
   refine RW.one fokW (r_stX trivial rfl rfl rfl rfl rfl (aslot hv_12 rfl) (cs':=[jI ((aset out j ((mget q197 mf (Harness_want.mk horse v)).getD 0)) 0),jI ((aset out j ((mget q197 mf (Harness_want.mk horse v)).getD 0)) 1),jI ((aset out j ((mget q197 mf (Harness_want.mk horse v)).getD 0)) 2)]) (ast (w:=out) (c:=fun z=>jI z) hv_12) (r_end ?_))
   refine RW.nil ?_
   refine hK_8 _ ?_
   refine Ra (sT [(1,jI horse),pR 2 0,pR 4 1,pR 5 2,(12,jI (b_HarnessBook.Stock.length:Int)),(13,jI (wr (v+1)))] [(2,.var 154 [jI ((aset out j ((mget q197 mf (Harness_want.mk horse v)).getD 0)) 0),jI ((aset out j ((mget q197 mf (Harness_want.mk horse v)).getD 0)) 1),jI ((aset out j ((mget q197 mf (Harness_want.mk horse v)).getD 0)) 2)]),(1,.var 154 [jI 0,jI 0,jI 0]),(0,.var 144 (catV (cv83 b_HarnessBook) [.d (.sl 1 (List.map e3 b_bald)),.fmp (List.map m197_3 mf)]))] 4 0) ?_
   obtain rfl:=Option.some.inj h
   have ew:wr (v+1)=v+1:=inext (N:=(b_HarnessBook.Stock.length:Int)) (by omega) (by omega) (by omega)
   rw [ew]
   exact hK_5 _ (Can.kp (by kernel_rfl))
  ·have h:=ifF hb_10 h
   refine AW.skip (hK_8 _ ?_)
   refine Ra (sT [(1,jI horse),pR 2 0,pR 4 1,pR 5 2,(12,jI (b_HarnessBook.Stock.length:Int)),(13,jI (wr (v+1)))] [(2,.var 154 [jI (out 0),jI (out 1),jI (out 2)]),(1,.var 154 [jI 0,jI 0,jI 0]),(0,.var 144 (catV (cv83 b_HarnessBook) [.d (.sl 1 (List.map e3 b_bald)),.fmp (List.map m197_3 mf)]))] 4 0) ?_
   obtain rfl:=Option.some.inj h
   have ew:wr (v+1)=v+1:=inext (N:=(b_HarnessBook.Stock.length:Int)) (by omega) (by omega) (by omega)
   rw [ew]
   exact hK_5 _ (Can.kp (by kernel_rfl))
 ·subst hout
  refine Sa (sT [(1,jI horse),pR 2 0,pR 4 1,pR 5 2,(12,jI (b_HarnessBook.Stock.length:Int)),(13,jI v),(14,.d (.bool (decide (v<(b_HarnessBook.Stock.length:Int)))))] [(2,.var 154 [jI (out 0),jI (out 1),jI (out 2)]),(1,.var 154 [jI 0,jI 0,jI 0]),(0,.var 144 (catV (cv83 b_HarnessBook) [.d (.sl 1 (List.map e3 b_bald)),.fmp (List.map m197_3 mf)]))] 3 0) ?_
  refine AW.seqK (fun K_13 hK_13=>?_)
  refine AW.cond rfl (fun hb_14=>False.elim (by have:=of_decide_eq_true hb_14;omega)) (fun hb_14=>?_)
  refine AW.exit ?_
  refine hK_3 _ ?_
  refine Sa (sT [pR 4 1] [(1,.var 154 [jI (out 0),jI (out 1),jI (out 2)])] 3 0) ?_
  obtain rfl:=Option.some.inj h
  exact rT hR_0 (.cons (.agg rfl rfl (Nat.le_of_ble_eq_true rfl)) .nil)
def g97_31 (r0_1_1:(Nat→Int)):Int→Span→(Nat→Int)→Option (Nat→Int):=fun v2 p6 p5=>(ixN 3 v2).bind fun j2=>(ixN 3 v2).bind fun j3=>(ixN 3 v2).bind fun j4=>some (aset p5 j4 (wr ((p5 j2) - (r0_1_1 j3))))
def g97_17 (set_2:Int) (p1:(Nat→Int)) (r0_1_1:(Nat→Int)):Int→Span→Unit→Option (Ctl (Unit) (Int×(Nat→Int))):=fun v1 p4 _=>(g127).bind fun r0=>bif (true != (((r0_1_1 0)==(r0 0))&&(((r0_1_1 1)==(r0 1))&&(((r0_1_1 2)==(r0 2))&&true)))) then ((ixN 3 v1).bind fun j=>(ixN 3 v1).bind fun j1=>bif (decide ((p1 j1)<(r0_1_1 j))) then (some (.brk (set_2,p1))) else (some (.next ()))) else (some (.next ()))
def g97_4 (b_HarnessBook:HarnessBook) (b_bald:(List Int)) (mf:List (Harness_want×Int)):Int→Int→(Int×(Nat→Int))→Option (Int×(Nat→Int)):=fun v p2 (set_2,p1)=>((g128 b_HarnessBook b_bald mf p2).bind fun r0_1=>bif (!r0_1) then (some (set_2,p1)) else ((g129 b_HarnessBook b_bald mf p2).bind fun r0_1_1=>bindC (eachC (g97_17 set_2 p1 r0_1_1) b_HarnessBook.Stock 0 ()) fun _=>(eachS (g97_31 r0_1_1) b_HarnessBook.Stock 0 p1).bind fun p5=>(must (decide (0≤p2))).bind fun _=>some ((bOr set_2 (shl64 1 p2)),p5))).bind fun (set_3,p3)=>some (set_3,p3)
def g97 (b_HarnessBook:HarnessBook) (b_bald:(List Int)) (mf:List (Harness_want×Int)) (p:(Nat→Int)) (order:(List Int)):Option Int:=(((eachS (g97_4 b_HarnessBook b_bald mf) order 0 (0,p)).bind fun (set_2,p1)=>some set_2).bind fun set_1=>some set_1).bind fun set_=>some set_
theorem k97 (b_HarnessBook:HarnessBook) (b_bald:(List Int)) (mf:List (Harness_want×Int)) (p:(Nat→Int)) (order:(List Int)) (r:Int) (h:g97 b_HarnessBook b_bald mf p order=some r):SCall Tryd.prog Gs 97 [.agg [.d (.sl 4 (List.map e65 b_HarnessBook.Hair.Hanks)),.d (.sl 3 (List.map e67 b_HarnessBook.Hair.Horses)),jI b_HarnessBook.Hair.Dark,jI b_HarnessBook.Hair.Near,jI b_HarnessBook.Hair.Match,.d (.sl 1 (List.map e51 b_HarnessBook.Needs)),.d (.sl 2 (List.map e33 b_HarnessBook.Stock)),jI b_HarnessBook.Pack,jI b_HarnessBook.Bad,.d (.sl 1 (List.map e3 b_bald)),.fmp (List.map m197_3 mf)],.agg [jI (p 0),jI (p 1),jI (p 2)],.d (.sl 1 (List.map e3 order))] [] 0 Fr.emp (jI r) [] 0 Fr.emp:=by
 unfold g97 at h
 refine SCall.mkK Tryd.func97 c97 rfl rfl (by kernel_rfl) (fun Q_0 hR_0 hN_0=>?_)
 refine Sa (sT [(2,.d (.sl 1 (List.map e3 order))),pR 3 0,pR 4 1] [(1,.var 154 [jI (p 0),jI (p 1),jI (p 2)]),(0,.var 144 (catV (cv83 b_HarnessBook) [.d (.sl 1 (List.map e3 b_bald)),.fmp (List.map m197_3 mf)]))] 2 0) ?_
 refine AW.scope ?_
 refine Sa (sT [(2,.d (.sl 1 (List.map e3 order))),pR 3 0,pR 4 1,(7,jI 0),(8,.clo 128 [.agg [.d (.sl 4 (List.map e65 b_HarnessBook.Hair.Hanks)),.d (.sl 3 (List.map e67 b_HarnessBook.Hair.Horses)),jI b_HarnessBook.Hair.Dark,jI b_HarnessBook.Hair.Near,jI b_HarnessBook.Hair.Match,.d (.sl 1 (List.map e51 b_HarnessBook.Needs)),.d (.sl 2 (List.map e33 b_HarnessBook.Stock)),jI b_HarnessBook.Pack,jI b_HarnessBook.Bad,.d (.sl 1 (List.map e3 b_bald)),.fmp (List.map m197_3 mf)]] [])] [(1,.var 154 [jI (p 0),jI (p 1),jI (p 2)]),(0,.var 144 (catV (cv83 b_HarnessBook) [.d (.sl 1 (List.map e3 b_bald)),.fmp (List.map m197_3 mf)]))] 2 0) ?_
 refine AW.seq (AW.skip ?_)
 obtain ⟨set_,hx_1,h⟩:=bsome h
 refine AW.jnSK (fun (set_:Int)=>(sT [(7,jI set_)] [] 2 0)) (c:=set_) (fun K_1 hK_1=>?_) ?_
 ·have h:=hx_1
  refine AW.srwK (fun Q_2 hQ_2=>?_)
  refine Au 1 (sT [pR 3 0,pR 4 1,(7,jI 0),(8,.clo 128 [.agg [.d (.sl 4 (List.map e65 b_HarnessBook.Hair.Hanks)),.d (.sl 3 (List.map e67 b_HarnessBook.Hair.Horses)),jI b_HarnessBook.Hair.Dark,jI b_HarnessBook.Hair.Near,jI b_HarnessBook.Hair.Match,.d (.sl 1 (List.map e51 b_HarnessBook.Needs)),.d (.sl 2 (List.map e33 b_HarnessBook.Stock)),jI b_HarnessBook.Pack,jI b_HarnessBook.Bad,.d (.sl 1 (List.map e3 b_bald)),.fmp (List.map m197_3 mf)]] []),(16,.d (.sl 1 (List.map e3 order)))] [(1,.var 154 [jI (p 0),jI (p 1),jI (p 2)]),(0,.var 144 (catV (cv83 b_HarnessBook) [.d (.sl 1 (List.map e3 b_bald)),.fmp (List.map m197_3 mf)]))] 2 0) ?_
  refine rL rfl ?_
  refine Au 1 (sT [pR 3 0,pR 4 1,(7,jI 0),(8,.clo 128 [.agg [.d (.sl 4 (List.map e65 b_HarnessBook.Hair.Hanks)),.d (.sl 3 (List.map e67 b_HarnessBook.Hair.Horses)),jI b_HarnessBook.Hair.Dark,jI b_HarnessBook.Hair.Near,jI b_HarnessBook.Hair.Match,.d (.sl 1 (List.map e51 b_HarnessBook.Needs)),.d (.sl 2 (List.map e33 b_HarnessBook.Stock)),jI b_HarnessBook.Pack,jI b_HarnessBook.Bad,.d (.sl 1 (List.map e3 b_bald)),.fmp (List.map m197_3 mf)]] []),(16,.d (.sl 1 (List.map e3 order))),(17,jI (order.length:Int)),(18,jI 0)] [(1,.var 154 [jI (p 0),jI (p 1),jI (p 2)]),(0,.var 144 (catV (cv83 b_HarnessBook) [.d (.sl 1 (List.map e3 b_bald)),.fmp (List.map m197_3 mf)]))] 2 0) ?_
  refine RW.nil (hQ_2 _ ?_)
  obtain ⟨set_1,hx_3,h⟩:=bsome h
  refine AW.jqSK (fun (set_1:Int)=>(sT [(7,jI set_1)] [] 2 0)) (c:=set_1) (fun K_3 hK_3=>?_) ?_
  ·have h:=hx_3
   refine AW.block ?_
   refine AW.sln (t:=16) rfl (fun hN_4=>?_)
   rw [List.length_map] at hN_4
   obtain ⟨out_4,hx_4,h⟩:=bsome h
   refine AW.evSK (fun (v:Int) (⟨set_2,p1⟩:Int×(Nat→Int))=>(sT [pR 3 0,pR 4 1,(7,jI set_2),(8,.clo 128 [.agg [.d (.sl 4 (List.map e65 b_HarnessBook.Hair.Hanks)),.d (.sl 3 (List.map e67 b_HarnessBook.Hair.Horses)),jI b_HarnessBook.Hair.Dark,jI b_HarnessBook.Hair.Near,jI b_HarnessBook.Hair.Match,.d (.sl 1 (List.map e51 b_HarnessBook.Needs)),.d (.sl 2 (List.map e33 b_HarnessBook.Stock)),jI b_HarnessBook.Pack,jI b_HarnessBook.Bad,.d (.sl 1 (List.map e3 b_bald)),.fmp (List.map m197_3 mf)]] []),(16,.d (.sl 1 (List.map e3 order))),(17,jI (order.length:Int)),(18,jI v)] [(1,.var 154 [jI (p1 0),jI (p1 1),jI (p1 2)]),(0,.var 144 (catV (cv83 b_HarnessBook) [.d (.sl 1 (List.map e3 b_bald)),.fmp (List.map m197_3 mf)]))] 2 0)) (g97_4 b_HarnessBook b_bald mf) hx_4 (Can.kp (by kernel_rfl)) (fun v p2 s_4 hi_4 hl_4 hp_4 c_4 h K_4 hK_4=>?_) (fun v s_4 hi_4 hl_4 hout=>?_)
   ·obtain ⟨set_2,p1⟩:=s_4
    unfold g97_4 at h
    refine Sa (sT [pR 3 0,pR 4 1,(7,jI set_2),(8,.clo 128 [.agg [.d (.sl 4 (List.map e65 b_HarnessBook.Hair.Hanks)),.d (.sl 3 (List.map e67 b_HarnessBook.Hair.Horses)),jI b_HarnessBook.Hair.Dark,jI b_HarnessBook.Hair.Near,jI b_HarnessBook.Hair.Match,.d (.sl 1 (List.map e51 b_HarnessBook.Needs)),.d (.sl 2 (List.map e33 b_HarnessBook.Stock)),jI b_HarnessBook.Pack,jI b_HarnessBook.Bad,.d (.sl 1 (List.map e3 b_bald)),.fmp (List.map m197_3 mf)]] []),(16,.d (.sl 1 (List.map e3 order))),(17,jI (order.length:Int)),(18,jI v),(19,.d (.bool (decide (v<(order.length:Int)))))] [(1,.var 154 [jI (p1 0),jI (p1 1),jI (p1 2)]),(0,.var 144 (catV (cv83 b_HarnessBook) [.d (.sl 1 (List.map e3 b_bald)),.fmp (List.map m197_3 mf)]))] 2 0) ?_
    refine AW.seqK (fun K_5 hK_5=>?_)
    refine AW.cond rfl (fun hb_6=>?_) (fun hb_6=>False.elim (by have:=of_decide_eq_false hb_6;omega))
    refine AW.skip (hK_5 _ ?_)
    obtain ⟨c_7,hx_7,h⟩:=bsome h
    refine AW.jnSK (fun (⟨set_3,p3⟩:Int×(Nat→Int))=>(sT [pR 3 0,pR 4 1,(7,jI set_3),(8,.clo 128 [.agg [.d (.sl 4 (List.map e65 b_HarnessBook.Hair.Hanks)),.d (.sl 3 (List.map e67 b_HarnessBook.Hair.Horses)),jI b_HarnessBook.Hair.Dark,jI b_HarnessBook.Hair.Near,jI b_HarnessBook.Hair.Match,.d (.sl 1 (List.map e51 b_HarnessBook.Needs)),.d (.sl 2 (List.map e33 b_HarnessBook.Stock)),jI b_HarnessBook.Pack,jI b_HarnessBook.Bad,.d (.sl 1 (List.map e3 b_bald)),.fmp (List.map m197_3 mf)]] []),(16,.d (.sl 1 (List.map e3 order))),(17,jI (order.length:Int)),(18,jI v)] [(1,.var 154 [jI (p3 0),jI (p3 1),jI (p3 2)]),(0,.var 144 (catV (cv83 b_HarnessBook) [.d (.sl 1 (List.map e3 b_bald)),.fmp (List.map m197_3 mf)]))] 2 0)) (c:=c_7) (fun K_7 hK_7=>?_) ?_
    ·have h:=hx_7
     refine AW.block ?_
     refine AW.srwK (fun Q_8 hQ_8=>?_)
     refine RW.one fokW (r_iaD trivial rfl rfl hi_4 (row:=e3 p2) (mapget hp_4) (r_end ?_))
     refine Au 2 (sT [pR 3 0,pR 4 1,(7,jI set_2),(8,.clo 128 [.agg [.d (.sl 4 (List.map e65 b_HarnessBook.Hair.Hanks)),.d (.sl 3 (List.map e67 b_HarnessBook.Hair.Horses)),jI b_HarnessBook.Hair.Dark,jI b_HarnessBook.Hair.Near,jI b_HarnessBook.Hair.Match,.d (.sl 1 (List.map e51 b_HarnessBook.Needs)),.d (.sl 2 (List.map e33 b_HarnessBook.Stock)),jI b_HarnessBook.Pack,jI b_HarnessBook.Bad,.d (.sl 1 (List.map e3 b_bald)),.fmp (List.map m197_3 mf)]] []),(10,jI p2),(16,.d (.sl 1 (List.map e3 order))),(17,jI (order.length:Int)),(18,jI v)] [(1,.var 154 [jI (p1 0),jI (p1 1),jI (p1 2)]),(0,.var 144 (catV (cv83 b_HarnessBook) [.d (.sl 1 (List.map e3 b_bald)),.fmp (List.map m197_3 mf)]))] 2 0) ?_
     refine RW.nil (hQ_8 _ ?_)
     refine AW.seqK fun K_9 hK_9=>AW.srwK fun Q_10 hQ_10=>?_
     refine Au 2 (sT [pR 3 0,pR 4 1,(7,jI set_2),(8,.clo 128 [.agg [.d (.sl 4 (List.map e65 b_HarnessBook.Hair.Hanks)),.d (.sl 3 (List.map e67 b_HarnessBook.Hair.Horses)),jI b_HarnessBook.Hair.Dark,jI b_HarnessBook.Hair.Near,jI b_HarnessBook.Hair.Match,.d (.sl 1 (List.map e51 b_HarnessBook.Needs)),.d (.sl 2 (List.map e33 b_HarnessBook.Stock)),jI b_HarnessBook.Pack,jI b_HarnessBook.Bad,.d (.sl 1 (List.map e3 b_bald)),.fmp (List.map m197_3 mf)]] []),(10,jI p2),(16,.d (.sl 1 (List.map e3 order))),(17,jI (order.length:Int)),(18,jI v),(22,.clo 128 [.agg [.d (.sl 4 (List.map e65 b_HarnessBook.Hair.Hanks)),.d (.sl 3 (List.map e67 b_HarnessBook.Hair.Horses)),jI b_HarnessBook.Hair.Dark,jI b_HarnessBook.Hair.Near,jI b_HarnessBook.Hair.Match,.d (.sl 1 (List.map e51 b_HarnessBook.Needs)),.d (.sl 2 (List.map e33 b_HarnessBook.Stock)),jI b_HarnessBook.Pack,jI b_HarnessBook.Bad,.d (.sl 1 (List.map e3 b_bald)),.fmp (List.map m197_3 mf)]] []),(23,jI p2)] [(1,.var 154 [jI (p1 0),jI (p1 1),jI (p1 2)]),(0,.var 144 (catV (cv83 b_HarnessBook) [.d (.sl 1 (List.map e3 b_bald)),.fmp (List.map m197_3 mf)]))] 2 0) ?_
     obtain ⟨r0_1,hx_11,h⟩:=bsome h
     refine RW.one fokW (r_callvZ (zr:=[]) trivial rfl (.clo _ _ _) (by kernel_rfl) rfl (k128 b_HarnessBook b_bald mf p2 _ hx_11) trivial ⟨.refl _,.refl _,trivial⟩ rfl rfl rfl rfl (r_end ?_))
     refine Au 1 (sT [pR 3 0,pR 4 1,(7,jI set_2),(8,.clo 128 [.agg [.d (.sl 4 (List.map e65 b_HarnessBook.Hair.Hanks)),.d (.sl 3 (List.map e67 b_HarnessBook.Hair.Horses)),jI b_HarnessBook.Hair.Dark,jI b_HarnessBook.Hair.Near,jI b_HarnessBook.Hair.Match,.d (.sl 1 (List.map e51 b_HarnessBook.Needs)),.d (.sl 2 (List.map e33 b_HarnessBook.Stock)),jI b_HarnessBook.Pack,jI b_HarnessBook.Bad,.d (.sl 1 (List.map e3 b_bald)),.fmp (List.map m197_3 mf)]] []),(10,jI p2),(16,.d (.sl 1 (List.map e3 order))),(17,jI (order.length:Int)),(18,jI v),(25,.d (.bool (!r0_1)))] [(1,.var 154 [jI (p1 0),jI (p1 1),jI (p1 2)]),(0,.var 144 (catV (cv83 b_HarnessBook) [.d (.sl 1 (List.map e3 b_bald)),.fmp (List.map m197_3 mf)]))] 2 0) ?_
     refine RW.nil (hQ_10 _ ?_)
     refine AW.cond rfl (fun hb_12=>?_) (fun hb_12=>?_)
     ·have h:=ifT hb_12 h
      refine AW.exit ?_
      obtain rfl:=Option.some.inj h
      exact hK_7 _ (Can.kp (by kernel_rfl))
     ·have h:=ifF hb_12 h
      refine AW.skip (hK_9 _ ?_)
      refine AW.srwK (fun Q_13 hQ_13=>?_)
      refine Au 2 (sT [pR 3 0,pR 4 1,(7,jI set_2),(8,.clo 128 [.agg [.d (.sl 4 (List.map e65 b_HarnessBook.Hair.Hanks)),.d (.sl 3 (List.map e67 b_HarnessBook.Hair.Horses)),jI b_HarnessBook.Hair.Dark,jI b_HarnessBook.Hair.Near,jI b_HarnessBook.Hair.Match,.d (.sl 1 (List.map e51 b_HarnessBook.Needs)),.d (.sl 2 (List.map e33 b_HarnessBook.Stock)),jI b_HarnessBook.Pack,jI b_HarnessBook.Bad,.d (.sl 1 (List.map e3 b_bald)),.fmp (List.map m197_3 mf)]] []),(10,jI p2),(16,.d (.sl 1 (List.map e3 order))),(17,jI (order.length:Int)),(18,jI v),(26,.agg [.d (.sl 4 (List.map e65 b_HarnessBook.Hair.Hanks)),.d (.sl 3 (List.map e67 b_HarnessBook.Hair.Horses)),jI b_HarnessBook.Hair.Dark,jI b_HarnessBook.Hair.Near,jI b_HarnessBook.Hair.Match,.d (.sl 1 (List.map e51 b_HarnessBook.Needs)),.d (.sl 2 (List.map e33 b_HarnessBook.Stock)),jI b_HarnessBook.Pack,jI b_HarnessBook.Bad,.d (.sl 1 (List.map e3 b_bald)),.fmp (List.map m197_3 mf)]),(27,jI p2)] [(1,.var 154 [jI (p1 0),jI (p1 1),jI (p1 2)]),(0,.var 144 (catV (cv83 b_HarnessBook) [.d (.sl 1 (List.map e3 b_bald)),.fmp (List.map m197_3 mf)]))] 2 0) ?_
      obtain ⟨r0_1_1,hx_14,h⟩:=bsome h
      refine rC (k129 b_HarnessBook b_bald mf p2 _ hx_14) ?_
      refine Au 2 (sT [pR 3 0,pR 4 1,(7,jI set_2),(8,.clo 128 [.agg [.d (.sl 4 (List.map e65 b_HarnessBook.Hair.Hanks)),.d (.sl 3 (List.map e67 b_HarnessBook.Hair.Horses)),jI b_HarnessBook.Hair.Dark,jI b_HarnessBook.Hair.Near,jI b_HarnessBook.Hair.Match,.d (.sl 1 (List.map e51 b_HarnessBook.Needs)),.d (.sl 2 (List.map e33 b_HarnessBook.Stock)),jI b_HarnessBook.Pack,jI b_HarnessBook.Bad,.d (.sl 1 (List.map e3 b_bald)),.fmp (List.map m197_3 mf)]] []),(10,jI p2),pR 11 2,(16,.d (.sl 1 (List.map e3 order))),(17,jI (order.length:Int)),(18,jI v)] [(2,.var 154 [jI (r0_1_1 0),jI (r0_1_1 1),jI (r0_1_1 2)]),(1,.var 154 [jI (p1 0),jI (p1 1),jI (p1 2)]),(0,.var 144 (catV (cv83 b_HarnessBook) [.d (.sl 1 (List.map e3 b_bald)),.fmp (List.map m197_3 mf)]))] 3 0) ?_
      refine RW.nil (hQ_13 _ ?_)
      refine AW.seqK fun K_15 hK_15=>AW.srwK fun Q_16 hQ_16=>?_
      refine Au 3 (sT [pR 3 0,pR 4 1,(7,jI set_2),(8,.clo 128 [.agg [.d (.sl 4 (List.map e65 b_HarnessBook.Hair.Hanks)),.d (.sl 3 (List.map e67 b_HarnessBook.Hair.Horses)),jI b_HarnessBook.Hair.Dark,jI b_HarnessBook.Hair.Near,jI b_HarnessBook.Hair.Match,.d (.sl 1 (List.map e51 b_HarnessBook.Needs)),.d (.sl 2 (List.map e33 b_HarnessBook.Stock)),jI b_HarnessBook.Pack,jI b_HarnessBook.Bad,.d (.sl 1 (List.map e3 b_bald)),.fmp (List.map m197_3 mf)]] []),(10,jI p2),pR 11 2,(16,.d (.sl 1 (List.map e3 order))),(17,jI (order.length:Int)),(18,jI v),(31,.d (.sl 2 (List.map e33 b_HarnessBook.Stock)))] [(2,.var 154 [jI (r0_1_1 0),jI (r0_1_1 1),jI (r0_1_1 2)]),(1,.var 154 [jI (p1 0),jI (p1 1),jI (p1 2)]),(0,.var 144 (catV (cv83 b_HarnessBook) [.d (.sl 1 (List.map e3 b_bald)),.fmp (List.map m197_3 mf)]))] 3 0) ?_
      refine rL rfl ?_
      refine Au 1 (sT [pR 3 0,pR 4 1,(7,jI set_2),(8,.clo 128 [.agg [.d (.sl 4 (List.map e65 b_HarnessBook.Hair.Hanks)),.d (.sl 3 (List.map e67 b_HarnessBook.Hair.Horses)),jI b_HarnessBook.Hair.Dark,jI b_HarnessBook.Hair.Near,jI b_HarnessBook.Hair.Match,.d (.sl 1 (List.map e51 b_HarnessBook.Needs)),.d (.sl 2 (List.map e33 b_HarnessBook.Stock)),jI b_HarnessBook.Pack,jI b_HarnessBook.Bad,.d (.sl 1 (List.map e3 b_bald)),.fmp (List.map m197_3 mf)]] []),(10,jI p2),pR 11 2,(16,.d (.sl 1 (List.map e3 order))),(17,jI (order.length:Int)),(18,jI v),(32,jI (b_HarnessBook.Stock.length:Int)),(33,jI 0)] [(2,.var 154 [jI (r0_1_1 0),jI (r0_1_1 1),jI (r0_1_1 2)]),(1,.var 154 [jI (p1 0),jI (p1 1),jI (p1 2)]),(0,.var 144 (catV (cv83 b_HarnessBook) [.d (.sl 1 (List.map e3 b_bald)),.fmp (List.map m197_3 mf)]))] 3 0) ?_
      refine RW.nil (hQ_16 _ ?_)
      refine AW.block ?_
      refine AW.slh (r:=0) (off:=6) rfl rfl (fun hN_17=>?_)
      rw [List.length_map] at hN_17
      obtain ⟨out_17,hx_17,hk_17⟩:=bsomeC h
      refine AW.evCK (fun (v1:Int) (_:Unit)=>(sT [pR 3 0,pR 4 1,(7,jI set_2),(8,.clo 128 [.agg [.d (.sl 4 (List.map e65 b_HarnessBook.Hair.Hanks)),.d (.sl 3 (List.map e67 b_HarnessBook.Hair.Horses)),jI b_HarnessBook.Hair.Dark,jI b_HarnessBook.Hair.Near,jI b_HarnessBook.Hair.Match,.d (.sl 1 (List.map e51 b_HarnessBook.Needs)),.d (.sl 2 (List.map e33 b_HarnessBook.Stock)),jI b_HarnessBook.Pack,jI b_HarnessBook.Bad,.d (.sl 1 (List.map e3 b_bald)),.fmp (List.map m197_3 mf)]] []),(10,jI p2),pR 11 2,(16,.d (.sl 1 (List.map e3 order))),(17,jI (order.length:Int)),(18,jI v),(32,jI (b_HarnessBook.Stock.length:Int)),(33,jI v1)] [(2,.var 154 [jI (r0_1_1 0),jI (r0_1_1 1),jI (r0_1_1 2)]),(1,.var 154 [jI (p1 0),jI (p1 1),jI (p1 2)]),(0,.var 144 (catV (cv83 b_HarnessBook) [.d (.sl 1 (List.map e3 b_bald)),.fmp (List.map m197_3 mf)]))] 3 0)) (g97_17 set_2 p1 r0_1_1) hx_17 (Can.kp (by kernel_rfl)) (fun v1 p4 s_17 hi_17 hl_17 hp_17 c_17 h hb_17 K_17 hK_17=>?_) (fun v1 s_17 hi_17 hl_17 hout=>?_)
      ·unfold g97_17 at h
       refine Sa (sT [pR 3 0,pR 4 1,(7,jI set_2),(8,.clo 128 [.agg [.d (.sl 4 (List.map e65 b_HarnessBook.Hair.Hanks)),.d (.sl 3 (List.map e67 b_HarnessBook.Hair.Horses)),jI b_HarnessBook.Hair.Dark,jI b_HarnessBook.Hair.Near,jI b_HarnessBook.Hair.Match,.d (.sl 1 (List.map e51 b_HarnessBook.Needs)),.d (.sl 2 (List.map e33 b_HarnessBook.Stock)),jI b_HarnessBook.Pack,jI b_HarnessBook.Bad,.d (.sl 1 (List.map e3 b_bald)),.fmp (List.map m197_3 mf)]] []),(10,jI p2),pR 11 2,(16,.d (.sl 1 (List.map e3 order))),(17,jI (order.length:Int)),(18,jI v),(32,jI (b_HarnessBook.Stock.length:Int)),(33,jI v1),(34,.d (.bool (decide (v1<(b_HarnessBook.Stock.length:Int)))))] [(2,.var 154 [jI (r0_1_1 0),jI (r0_1_1 1),jI (r0_1_1 2)]),(1,.var 154 [jI (p1 0),jI (p1 1),jI (p1 2)]),(0,.var 144 (catV (cv83 b_HarnessBook) [.d (.sl 1 (List.map e3 b_bald)),.fmp (List.map m197_3 mf)]))] 3 0) ?_
       refine AW.seqK (fun K_18 hK_18=>?_)
       refine AW.cond rfl (fun hb_19=>?_) (fun hb_19=>False.elim (by have:=of_decide_eq_false hb_19;omega))
       refine AW.skip (hK_18 _ ?_)
       refine AW.seqK (fun K_20 hK_20=>?_)
       refine AW.block ?_
       refine Sa (sT [pR 3 0,pR 4 1,(7,jI set_2),(8,.clo 128 [.agg [.d (.sl 4 (List.map e65 b_HarnessBook.Hair.Hanks)),.d (.sl 3 (List.map e67 b_HarnessBook.Hair.Horses)),jI b_HarnessBook.Hair.Dark,jI b_HarnessBook.Hair.Near,jI b_HarnessBook.Hair.Match,.d (.sl 1 (List.map e51 b_HarnessBook.Needs)),.d (.sl 2 (List.map e33 b_HarnessBook.Stock)),jI b_HarnessBook.Pack,jI b_HarnessBook.Bad,.d (.sl 1 (List.map e3 b_bald)),.fmp (List.map m197_3 mf)]] []),(10,jI p2),pR 11 2,(12,jI v1),(16,.d (.sl 1 (List.map e3 order))),(17,jI (order.length:Int)),(18,jI v),(32,jI (b_HarnessBook.Stock.length:Int)),(33,jI v1)] [(2,.var 154 [jI (r0_1_1 0),jI (r0_1_1 1),jI (r0_1_1 2)]),(1,.var 154 [jI (p1 0),jI (p1 1),jI (p1 2)]),(0,.var 144 (catV (cv83 b_HarnessBook) [.d (.sl 1 (List.map e3 b_bald)),.fmp (List.map m197_3 mf)]))] 3 0) ?_
       refine AW.sdrwK fokW (fun Q_21 hQ_21=>?_)
       refine aX 1 (sT [pR 3 0,pR 4 1,(7,jI set_2),(8,.clo 128 [.agg [.d (.sl 4 (List.map e65 b_HarnessBook.Hair.Hanks)),.d (.sl 3 (List.map e67 b_HarnessBook.Hair.Horses)),jI b_HarnessBook.Hair.Dark,jI b_HarnessBook.Hair.Near,jI b_HarnessBook.Hair.Match,.d (.sl 1 (List.map e51 b_HarnessBook.Needs)),.d (.sl 2 (List.map e33 b_HarnessBook.Stock)),jI b_HarnessBook.Pack,jI b_HarnessBook.Bad,.d (.sl 1 (List.map e3 b_bald)),.fmp (List.map m197_3 mf)]] []),(10,jI p2),pR 11 2,(12,jI v1),(16,.d (.sl 1 (List.map e3 order))),(17,jI (order.length:Int)),(18,jI v),(32,jI (b_HarnessBook.Stock.length:Int)),(33,jI v1),(36,.agg [jI (r0_1_1 0),jI (r0_1_1 1),jI (r0_1_1 2)])] [(2,.var 154 [jI (r0_1_1 0),jI (r0_1_1 1),jI (r0_1_1 2)]),(1,.var 154 [jI (p1 0),jI (p1 1),jI (p1 2)]),(0,.var 144 (catV (cv83 b_HarnessBook) [.d (.sl 1 (List.map e3 b_bald)),.fmp (List.map m197_3 mf)]))] 3 0) ?_
       obtain ⟨r0,hx_22,h⟩:=bsome h
       refine r_call trivial rfl (k127 _ hx_22) rfl rfl ?_
       refine r_aeq trivial rfl rfl rfl rfl ft154 rfl rfl rfl ?_
       refine aX 1 (sT [pR 3 0,pR 4 1,(7,jI set_2),(8,.clo 128 [.agg [.d (.sl 4 (List.map e65 b_HarnessBook.Hair.Hanks)),.d (.sl 3 (List.map e67 b_HarnessBook.Hair.Horses)),jI b_HarnessBook.Hair.Dark,jI b_HarnessBook.Hair.Near,jI b_HarnessBook.Hair.Match,.d (.sl 1 (List.map e51 b_HarnessBook.Needs)),.d (.sl 2 (List.map e33 b_HarnessBook.Stock)),jI b_HarnessBook.Pack,jI b_HarnessBook.Bad,.d (.sl 1 (List.map e3 b_bald)),.fmp (List.map m197_3 mf)]] []),(10,jI p2),pR 11 2,(12,jI v1),(16,.d (.sl 1 (List.map e3 order))),(17,jI (order.length:Int)),(18,jI v),(32,jI (b_HarnessBook.Stock.length:Int)),(33,jI v1),(39,.d (.bool (true != (((r0_1_1 0)==(r0 0))&&(((r0_1_1 1)==(r0 1))&&(((r0_1_1 2)==(r0 2))&&true))))))] [(2,.var 154 [jI (r0_1_1 0),jI (r0_1_1 1),jI (r0_1_1 2)]),(1,.var 154 [jI (p1 0),jI (p1 1),jI (p1 2)]),(0,.var 144 (catV (cv83 b_HarnessBook) [.d (.sl 1 (List.map e3 b_bald)),.fmp (List.map m197_3 mf)]))] 3 0) ?_
       refine r_split 39 rfl (fun hb_23=>?_) (fun hb_23=>?_)
       ·have h:=ifT hb_23 h
        refine aX 1 (sT [pR 3 0,pR 4 1,(7,jI set_2),(8,.clo 128 [.agg [.d (.sl 4 (List.map e65 b_HarnessBook.Hair.Hanks)),.d (.sl 3 (List.map e67 b_HarnessBook.Hair.Horses)),jI b_HarnessBook.Hair.Dark,jI b_HarnessBook.Hair.Near,jI b_HarnessBook.Hair.Match,.d (.sl 1 (List.map e51 b_HarnessBook.Needs)),.d (.sl 2 (List.map e33 b_HarnessBook.Stock)),jI b_HarnessBook.Pack,jI b_HarnessBook.Bad,.d (.sl 1 (List.map e3 b_bald)),.fmp (List.map m197_3 mf)]] []),(10,jI p2),pR 11 2,(12,jI v1),(16,.d (.sl 1 (List.map e3 order))),(17,jI (order.length:Int)),(18,jI v),(32,jI (b_HarnessBook.Stock.length:Int)),(33,jI v1),(39,.d (.bool true)),(40,jI v1)] [(2,.var 154 [jI (r0_1_1 0),jI (r0_1_1 1),jI (r0_1_1 2)]),(1,.var 154 [jI (p1 0),jI (p1 1),jI (p1 2)]),(0,.var 144 (catV (cv83 b_HarnessBook) [.d (.sl 1 (List.map e3 b_bald)),.fmp (List.map m197_3 mf)]))] 3 0) ?_
        obtain ⟨j,hv_24,h⟩:=bsome h
        refine r_iaV rfl rfl rfl rfl (ixN_ok hv_24).1 (ixN_ok hv_24).2.1 ?_
        refine r_loadV rfl rfl rfl (u:=jI (r0_1_1 j)) (agt (f:=fun k=>jI (r0_1_1 k)) hv_24) ?_
        refine aX 1 (sT [pR 3 0,pR 4 1,(7,jI set_2),(8,.clo 128 [.agg [.d (.sl 4 (List.map e65 b_HarnessBook.Hair.Hanks)),.d (.sl 3 (List.map e67 b_HarnessBook.Hair.Horses)),jI b_HarnessBook.Hair.Dark,jI b_HarnessBook.Hair.Near,jI b_HarnessBook.Hair.Match,.d (.sl 1 (List.map e51 b_HarnessBook.Needs)),.d (.sl 2 (List.map e33 b_HarnessBook.Stock)),jI b_HarnessBook.Pack,jI b_HarnessBook.Bad,.d (.sl 1 (List.map e3 b_bald)),.fmp (List.map m197_3 mf)]] []),(10,jI p2),pR 11 2,(16,.d (.sl 1 (List.map e3 order))),(17,jI (order.length:Int)),(18,jI v),(32,jI (b_HarnessBook.Stock.length:Int)),(33,jI v1),(39,.d (.bool true)),(42,jI (r0_1_1 j)),(43,jI v1)] [(2,.var 154 [jI (r0_1_1 0),jI (r0_1_1 1),jI (r0_1_1 2)]),(1,.var 154 [jI (p1 0),jI (p1 1),jI (p1 2)]),(0,.var 144 (catV (cv83 b_HarnessBook) [.d (.sl 1 (List.map e3 b_bald)),.fmp (List.map m197_3 mf)]))] 3 0) ?_
        obtain ⟨j1,hv_25,h⟩:=bsome h
        refine r_iaV rfl rfl rfl rfl (ixN_ok hv_25).1 (ixN_ok hv_25).2.1 ?_
        refine r_loadV rfl rfl rfl (u:=jI (p1 j1)) (agt (f:=fun k=>jI (p1 k)) hv_25) ?_
        refine aX 2 (sT [pR 3 0,pR 4 1,(7,jI set_2),(8,.clo 128 [.agg [.d (.sl 4 (List.map e65 b_HarnessBook.Hair.Hanks)),.d (.sl 3 (List.map e67 b_HarnessBook.Hair.Horses)),jI b_HarnessBook.Hair.Dark,jI b_HarnessBook.Hair.Near,jI b_HarnessBook.Hair.Match,.d (.sl 1 (List.map e51 b_HarnessBook.Needs)),.d (.sl 2 (List.map e33 b_HarnessBook.Stock)),jI b_HarnessBook.Pack,jI b_HarnessBook.Bad,.d (.sl 1 (List.map e3 b_bald)),.fmp (List.map m197_3 mf)]] []),(10,jI p2),pR 11 2,(16,.d (.sl 1 (List.map e3 order))),(17,jI (order.length:Int)),(18,jI v),(32,jI (b_HarnessBook.Stock.length:Int)),(33,jI v1),(47,.d (.bool (decide ((p1 j1)<(r0_1_1 j)))))] [(2,.var 154 [jI (r0_1_1 0),jI (r0_1_1 1),jI (r0_1_1 2)]),(1,.var 154 [jI (p1 0),jI (p1 1),jI (p1 2)]),(0,.var 144 (catV (cv83 b_HarnessBook) [.d (.sl 1 (List.map e3 b_bald)),.fmp (List.map m197_3 mf)]))] 3 0) ?_
        refine Fi (sT [pR 3 0,pR 4 1,(7,jI set_2),(8,.clo 128 [.agg [.d (.sl 4 (List.map e65 b_HarnessBook.Hair.Hanks)),.d (.sl 3 (List.map e67 b_HarnessBook.Hair.Horses)),jI b_HarnessBook.Hair.Dark,jI b_HarnessBook.Hair.Near,jI b_HarnessBook.Hair.Match,.d (.sl 1 (List.map e51 b_HarnessBook.Needs)),.d (.sl 2 (List.map e33 b_HarnessBook.Stock)),jI b_HarnessBook.Pack,jI b_HarnessBook.Bad,.d (.sl 1 (List.map e3 b_bald)),.fmp (List.map m197_3 mf)]] []),(10,jI p2),pR 11 2,(16,.d (.sl 1 (List.map e3 order))),(17,jI (order.length:Int)),(18,jI v),(32,jI (b_HarnessBook.Stock.length:Int)),(33,jI v1),(47,.d (.bool (decide ((p1 j1)<(r0_1_1 j)))))] [(2,.var 154 [jI (r0_1_1 0),jI (r0_1_1 1),jI (r0_1_1 2)]),(1,.var 154 [jI (p1 0),jI (p1 1),jI (p1 2)]),(0,.var 144 (catV (cv83 b_HarnessBook) [.d (.sl 1 (List.map e3 b_bald)),.fmp (List.map m197_3 mf)]))] 3 0) ?_
        refine hQ_21 _ ?_
        refine AW.cond rfl (fun hb_26=>?_) (fun hb_26=>?_)
        ·have h:=ifT hb_26 h
         refine AW.exit ?_
         obtain rfl:=Option.some.inj h
         have e_5:=hb_17 _ rfl
         subst e_5
         obtain rfl:=Aft.bk hk_17
         exact hK_7 _ (Can.kp (by kernel_rfl))
        ·have h:=ifF hb_26 h
         refine AW.skip (hK_20 _ ?_)
         refine Ra (sT [pR 3 0,pR 4 1,(7,jI set_2),(8,.clo 128 [.agg [.d (.sl 4 (List.map e65 b_HarnessBook.Hair.Hanks)),.d (.sl 3 (List.map e67 b_HarnessBook.Hair.Horses)),jI b_HarnessBook.Hair.Dark,jI b_HarnessBook.Hair.Near,jI b_HarnessBook.Hair.Match,.d (.sl 1 (List.map e51 b_HarnessBook.Needs)),.d (.sl 2 (List.map e33 b_HarnessBook.Stock)),jI b_HarnessBook.Pack,jI b_HarnessBook.Bad,.d (.sl 1 (List.map e3 b_bald)),.fmp (List.map m197_3 mf)]] []),(10,jI p2),pR 11 2,(16,.d (.sl 1 (List.map e3 order))),(17,jI (order.length:Int)),(18,jI v),(32,jI (b_HarnessBook.Stock.length:Int)),(33,jI (wr (v1+1)))] [(2,.var 154 [jI (r0_1_1 0),jI (r0_1_1 1),jI (r0_1_1 2)]),(1,.var 154 [jI (p1 0),jI (p1 1),jI (p1 2)]),(0,.var 144 (catV (cv83 b_HarnessBook) [.d (.sl 1 (List.map e3 b_bald)),.fmp (List.map m197_3 mf)]))] 3 0) ?_
         obtain rfl:=Option.some.inj h
         have ew:wr (v1+1)=v1+1:=inext (N:=(b_HarnessBook.Stock.length:Int)) (by omega) (by omega) (by omega)
         rw [ew]
         exact hK_17 _ _ rfl (Can.kp (by kernel_rfl))
       ·have h:=ifF hb_23 h
        refine aX 8 (sT [pR 3 0,pR 4 1,(7,jI set_2),(8,.clo 128 [.agg [.d (.sl 4 (List.map e65 b_HarnessBook.Hair.Hanks)),.d (.sl 3 (List.map e67 b_HarnessBook.Hair.Horses)),jI b_HarnessBook.Hair.Dark,jI b_HarnessBook.Hair.Near,jI b_HarnessBook.Hair.Match,.d (.sl 1 (List.map e51 b_HarnessBook.Needs)),.d (.sl 2 (List.map e33 b_HarnessBook.Stock)),jI b_HarnessBook.Pack,jI b_HarnessBook.Bad,.d (.sl 1 (List.map e3 b_bald)),.fmp (List.map m197_3 mf)]] []),(10,jI p2),pR 11 2,(16,.d (.sl 1 (List.map e3 order))),(17,jI (order.length:Int)),(18,jI v),(32,jI (b_HarnessBook.Stock.length:Int)),(33,jI v1),(47,.d (.bool false))] [(2,.var 154 [jI (r0_1_1 0),jI (r0_1_1 1),jI (r0_1_1 2)]),(1,.var 154 [jI (p1 0),jI (p1 1),jI (p1 2)]),(0,.var 144 (catV (cv83 b_HarnessBook) [.d (.sl 1 (List.map e3 b_bald)),.fmp (List.map m197_3 mf)]))] 3 0) ?_
        refine Fi (sT [pR 3 0,pR 4 1,(7,jI set_2),(8,.clo 128 [.agg [.d (.sl 4 (List.map e65 b_HarnessBook.Hair.Hanks)),.d (.sl 3 (List.map e67 b_HarnessBook.Hair.Horses)),jI b_HarnessBook.Hair.Dark,jI b_HarnessBook.Hair.Near,jI b_HarnessBook.Hair.Match,.d (.sl 1 (List.map e51 b_HarnessBook.Needs)),.d (.sl 2 (List.map e33 b_HarnessBook.Stock)),jI b_HarnessBook.Pack,jI b_HarnessBook.Bad,.d (.sl 1 (List.map e3 b_bald)),.fmp (List.map m197_3 mf)]] []),(10,jI p2),pR 11 2,(16,.d (.sl 1 (List.map e3 order))),(17,jI (order.length:Int)),(18,jI v),(32,jI (b_HarnessBook.Stock.length:Int)),(33,jI v1),(47,.d (.bool false))] [(2,.var 154 [jI (r0_1_1 0),jI (r0_1_1 1),jI (r0_1_1 2)]),(1,.var 154 [jI (p1 0),jI (p1 1),jI (p1 2)]),(0,.var 144 (catV (cv83 b_HarnessBook) [.d (.sl 1 (List.map e3 b_bald)),.fmp (List.map m197_3 mf)]))] 3 0) ?_
        refine hQ_21 _ ?_
        refine AW.condF rfl ?_
        refine AW.skip (hK_20 _ ?_)
        refine Ra (sT [pR 3 0,pR 4 1,(7,jI set_2),(8,.clo 128 [.agg [.d (.sl 4 (List.map e65 b_HarnessBook.Hair.Hanks)),.d (.sl 3 (List.map e67 b_HarnessBook.Hair.Horses)),jI b_HarnessBook.Hair.Dark,jI b_HarnessBook.Hair.Near,jI b_HarnessBook.Hair.Match,.d (.sl 1 (List.map e51 b_HarnessBook.Needs)),.d (.sl 2 (List.map e33 b_HarnessBook.Stock)),jI b_HarnessBook.Pack,jI b_HarnessBook.Bad,.d (.sl 1 (List.map e3 b_bald)),.fmp (List.map m197_3 mf)]] []),(10,jI p2),pR 11 2,(16,.d (.sl 1 (List.map e3 order))),(17,jI (order.length:Int)),(18,jI v),(32,jI (b_HarnessBook.Stock.length:Int)),(33,jI (wr (v1+1)))] [(2,.var 154 [jI (r0_1_1 0),jI (r0_1_1 1),jI (r0_1_1 2)]),(1,.var 154 [jI (p1 0),jI (p1 1),jI (p1 2)]),(0,.var 144 (catV (cv83 b_HarnessBook) [.d (.sl 1 (List.map e3 b_bald)),.fmp (List.map m197_3 mf)]))] 3 0) ?_
        obtain rfl:=Option.some.inj h
        have ew:wr (v1+1)=v1+1:=inext (N:=(b_HarnessBook.Stock.length:Int)) (by omega) (by omega) (by omega)
        rw [ew]
        exact hK_17 _ _ rfl (Can.kp (by kernel_rfl))
      ·subst hout
       have h:=Aft.nx hk_17
       refine Sa (sT [pR 3 0,pR 4 1,(7,jI set_2),(8,.clo 128 [.agg [.d (.sl 4 (List.map e65 b_HarnessBook.Hair.Hanks)),.d (.sl 3 (List.map e67 b_HarnessBook.Hair.Horses)),jI b_HarnessBook.Hair.Dark,jI b_HarnessBook.Hair.Near,jI b_HarnessBook.Hair.Match,.d (.sl 1 (List.map e51 b_HarnessBook.Needs)),.d (.sl 2 (List.map e33 b_HarnessBook.Stock)),jI b_HarnessBook.Pack,jI b_HarnessBook.Bad,.d (.sl 1 (List.map e3 b_bald)),.fmp (List.map m197_3 mf)]] []),(10,jI p2),pR 11 2,(16,.d (.sl 1 (List.map e3 order))),(17,jI (order.length:Int)),(18,jI v),(32,jI (b_HarnessBook.Stock.length:Int)),(33,jI v1),(34,.d (.bool (decide (v1<(b_HarnessBook.Stock.length:Int)))))] [(2,.var 154 [jI (r0_1_1 0),jI (r0_1_1 1),jI (r0_1_1 2)]),(1,.var 154 [jI (p1 0),jI (p1 1),jI (p1 2)]),(0,.var 144 (catV (cv83 b_HarnessBook) [.d (.sl 1 (List.map e3 b_bald)),.fmp (List.map m197_3 mf)]))] 3 0) ?_
       refine AW.seqK (fun K_27 hK_27=>?_)
       refine AW.cond rfl (fun hb_28=>False.elim (by have:=of_decide_eq_true hb_28;omega)) (fun hb_28=>?_)
       refine AW.exit ?_
       refine hK_15 _ ?_
       refine AW.seqK fun K_29 hK_29=>AW.srwK fun Q_30 hQ_30=>?_
       refine Au 3 (sT [pR 3 0,pR 4 1,(7,jI set_2),(8,.clo 128 [.agg [.d (.sl 4 (List.map e65 b_HarnessBook.Hair.Hanks)),.d (.sl 3 (List.map e67 b_HarnessBook.Hair.Horses)),jI b_HarnessBook.Hair.Dark,jI b_HarnessBook.Hair.Near,jI b_HarnessBook.Hair.Match,.d (.sl 1 (List.map e51 b_HarnessBook.Needs)),.d (.sl 2 (List.map e33 b_HarnessBook.Stock)),jI b_HarnessBook.Pack,jI b_HarnessBook.Bad,.d (.sl 1 (List.map e3 b_bald)),.fmp (List.map m197_3 mf)]] []),(10,jI p2),pR 11 2,(16,.d (.sl 1 (List.map e3 order))),(17,jI (order.length:Int)),(18,jI v),(51,.d (.sl 2 (List.map e33 b_HarnessBook.Stock)))] [(2,.var 154 [jI (r0_1_1 0),jI (r0_1_1 1),jI (r0_1_1 2)]),(1,.var 154 [jI (p1 0),jI (p1 1),jI (p1 2)]),(0,.var 144 (catV (cv83 b_HarnessBook) [.d (.sl 1 (List.map e3 b_bald)),.fmp (List.map m197_3 mf)]))] 3 0) ?_
       refine rL rfl ?_
       refine Au 1 (sT [pR 3 0,pR 4 1,(7,jI set_2),(8,.clo 128 [.agg [.d (.sl 4 (List.map e65 b_HarnessBook.Hair.Hanks)),.d (.sl 3 (List.map e67 b_HarnessBook.Hair.Horses)),jI b_HarnessBook.Hair.Dark,jI b_HarnessBook.Hair.Near,jI b_HarnessBook.Hair.Match,.d (.sl 1 (List.map e51 b_HarnessBook.Needs)),.d (.sl 2 (List.map e33 b_HarnessBook.Stock)),jI b_HarnessBook.Pack,jI b_HarnessBook.Bad,.d (.sl 1 (List.map e3 b_bald)),.fmp (List.map m197_3 mf)]] []),(10,jI p2),pR 11 2,(16,.d (.sl 1 (List.map e3 order))),(17,jI (order.length:Int)),(18,jI v),(52,jI (b_HarnessBook.Stock.length:Int)),(53,jI 0)] [(2,.var 154 [jI (r0_1_1 0),jI (r0_1_1 1),jI (r0_1_1 2)]),(1,.var 154 [jI (p1 0),jI (p1 1),jI (p1 2)]),(0,.var 144 (catV (cv83 b_HarnessBook) [.d (.sl 1 (List.map e3 b_bald)),.fmp (List.map m197_3 mf)]))] 3 0) ?_
       refine RW.nil (hQ_30 _ ?_)
       refine AW.block ?_
       refine AW.slh (r:=0) (off:=6) rfl rfl (fun hN_31=>?_)
       rw [List.length_map] at hN_31
       obtain ⟨out_31,hx_31,h⟩:=bsome h
       refine AW.evSK (fun (v2:Int) (p5:(Nat→Int))=>(sT [pR 3 0,pR 4 1,(7,jI set_2),(8,.clo 128 [.agg [.d (.sl 4 (List.map e65 b_HarnessBook.Hair.Hanks)),.d (.sl 3 (List.map e67 b_HarnessBook.Hair.Horses)),jI b_HarnessBook.Hair.Dark,jI b_HarnessBook.Hair.Near,jI b_HarnessBook.Hair.Match,.d (.sl 1 (List.map e51 b_HarnessBook.Needs)),.d (.sl 2 (List.map e33 b_HarnessBook.Stock)),jI b_HarnessBook.Pack,jI b_HarnessBook.Bad,.d (.sl 1 (List.map e3 b_bald)),.fmp (List.map m197_3 mf)]] []),(10,jI p2),pR 11 2,(16,.d (.sl 1 (List.map e3 order))),(17,jI (order.length:Int)),(18,jI v),(52,jI (b_HarnessBook.Stock.length:Int)),(53,jI v2)] [(2,.var 154 [jI (r0_1_1 0),jI (r0_1_1 1),jI (r0_1_1 2)]),(1,.var 154 [jI (p5 0),jI (p5 1),jI (p5 2)]),(0,.var 144 (catV (cv83 b_HarnessBook) [.d (.sl 1 (List.map e3 b_bald)),.fmp (List.map m197_3 mf)]))] 3 0)) (g97_31 r0_1_1) hx_31 (Can.kp (by kernel_rfl)) (fun v2 p6 p5 hi_31 hl_31 hp_31 c_31 h K_31 hK_31=>?_) (fun v2 p5 hi_31 hl_31 hout=>?_)
       ·unfold g97_31 at h
        refine Sa (sT [pR 3 0,pR 4 1,(7,jI set_2),(8,.clo 128 [.agg [.d (.sl 4 (List.map e65 b_HarnessBook.Hair.Hanks)),.d (.sl 3 (List.map e67 b_HarnessBook.Hair.Horses)),jI b_HarnessBook.Hair.Dark,jI b_HarnessBook.Hair.Near,jI b_HarnessBook.Hair.Match,.d (.sl 1 (List.map e51 b_HarnessBook.Needs)),.d (.sl 2 (List.map e33 b_HarnessBook.Stock)),jI b_HarnessBook.Pack,jI b_HarnessBook.Bad,.d (.sl 1 (List.map e3 b_bald)),.fmp (List.map m197_3 mf)]] []),(10,jI p2),pR 11 2,(16,.d (.sl 1 (List.map e3 order))),(17,jI (order.length:Int)),(18,jI v),(52,jI (b_HarnessBook.Stock.length:Int)),(53,jI v2),(54,.d (.bool (decide (v2<(b_HarnessBook.Stock.length:Int)))))] [(2,.var 154 [jI (r0_1_1 0),jI (r0_1_1 1),jI (r0_1_1 2)]),(1,.var 154 [jI (p5 0),jI (p5 1),jI (p5 2)]),(0,.var 144 (catV (cv83 b_HarnessBook) [.d (.sl 1 (List.map e3 b_bald)),.fmp (List.map m197_3 mf)]))] 3 0) ?_
        refine AW.seqK (fun K_32 hK_32=>?_)
        refine AW.cond rfl (fun hb_33=>?_) (fun hb_33=>False.elim (by have:=of_decide_eq_false hb_33;omega))
        refine AW.skip (hK_32 _ ?_)
        refine AW.seqK (fun K_34 hK_34=>?_)
        refine AW.block ?_
        refine Sa (sT [pR 3 0,pR 4 1,(7,jI set_2),(8,.clo 128 [.agg [.d (.sl 4 (List.map e65 b_HarnessBook.Hair.Hanks)),.d (.sl 3 (List.map e67 b_HarnessBook.Hair.Horses)),jI b_HarnessBook.Hair.Dark,jI b_HarnessBook.Hair.Near,jI b_HarnessBook.Hair.Match,.d (.sl 1 (List.map e51 b_HarnessBook.Needs)),.d (.sl 2 (List.map e33 b_HarnessBook.Stock)),jI b_HarnessBook.Pack,jI b_HarnessBook.Bad,.d (.sl 1 (List.map e3 b_bald)),.fmp (List.map m197_3 mf)]] []),(10,jI p2),pR 11 2,(13,jI v2),(16,.d (.sl 1 (List.map e3 order))),(17,jI (order.length:Int)),(18,jI v),(52,jI (b_HarnessBook.Stock.length:Int)),(53,jI v2)] [(2,.var 154 [jI (r0_1_1 0),jI (r0_1_1 1),jI (r0_1_1 2)]),(1,.var 154 [jI (p5 0),jI (p5 1),jI (p5 2)]),(0,.var 144 (catV (cv83 b_HarnessBook) [.d (.sl 1 (List.map e3 b_bald)),.fmp (List.map m197_3 mf)]))] 3 0) ?_
        refine AW.drw fokW ?_
        refine aX 1 (sT [pR 3 0,pR 4 1,(7,jI set_2),(8,.clo 128 [.agg [.d (.sl 4 (List.map e65 b_HarnessBook.Hair.Hanks)),.d (.sl 3 (List.map e67 b_HarnessBook.Hair.Horses)),jI b_HarnessBook.Hair.Dark,jI b_HarnessBook.Hair.Near,jI b_HarnessBook.Hair.Match,.d (.sl 1 (List.map e51 b_HarnessBook.Needs)),.d (.sl 2 (List.map e33 b_HarnessBook.Stock)),jI b_HarnessBook.Pack,jI b_HarnessBook.Bad,.d (.sl 1 (List.map e3 b_bald)),.fmp (List.map m197_3 mf)]] []),(10,jI p2),pR 11 2,(13,jI v2),(16,.d (.sl 1 (List.map e3 order))),(17,jI (order.length:Int)),(18,jI v),(52,jI (b_HarnessBook.Stock.length:Int)),(53,jI v2),(56,jI v2)] [(2,.var 154 [jI (r0_1_1 0),jI (r0_1_1 1),jI (r0_1_1 2)]),(1,.var 154 [jI (p5 0),jI (p5 1),jI (p5 2)]),(0,.var 144 (catV (cv83 b_HarnessBook) [.d (.sl 1 (List.map e3 b_bald)),.fmp (List.map m197_3 mf)]))] 3 0) ?_
        obtain ⟨j2,hv_36,h⟩:=bsome h
        refine r_iaV trivial rfl rfl rfl (ixN_ok hv_36).1 (ixN_ok hv_36).2.1 ?_
        refine r_loadV trivial rfl rfl (u:=jI (p5 j2)) (agt (f:=fun k=>jI (p5 k)) hv_36) ?_
        refine aX 1 (sT [pR 3 0,pR 4 1,(7,jI set_2),(8,.clo 128 [.agg [.d (.sl 4 (List.map e65 b_HarnessBook.Hair.Hanks)),.d (.sl 3 (List.map e67 b_HarnessBook.Hair.Horses)),jI b_HarnessBook.Hair.Dark,jI b_HarnessBook.Hair.Near,jI b_HarnessBook.Hair.Match,.d (.sl 1 (List.map e51 b_HarnessBook.Needs)),.d (.sl 2 (List.map e33 b_HarnessBook.Stock)),jI b_HarnessBook.Pack,jI b_HarnessBook.Bad,.d (.sl 1 (List.map e3 b_bald)),.fmp (List.map m197_3 mf)]] []),(10,jI p2),pR 11 2,(16,.d (.sl 1 (List.map e3 order))),(17,jI (order.length:Int)),(18,jI v),(52,jI (b_HarnessBook.Stock.length:Int)),(53,jI v2),(56,jI v2),(58,jI (p5 j2)),(59,jI v2)] [(2,.var 154 [jI (r0_1_1 0),jI (r0_1_1 1),jI (r0_1_1 2)]),(1,.var 154 [jI (p5 0),jI (p5 1),jI (p5 2)]),(0,.var 144 (catV (cv83 b_HarnessBook) [.d (.sl 1 (List.map e3 b_bald)),.fmp (List.map m197_3 mf)]))] 3 0) ?_
        obtain ⟨j3,hv_37,h⟩:=bsome h
        refine r_iaV trivial rfl rfl rfl (ixN_ok hv_37).1 (ixN_ok hv_37).2.1 ?_
        refine r_loadV trivial rfl rfl (u:=jI (r0_1_1 j3)) (agt (f:=fun k=>jI (r0_1_1 k)) hv_37) ?_
        refine aX 1 (sT [pR 3 0,pR 4 1,(7,jI set_2),(8,.clo 128 [.agg [.d (.sl 4 (List.map e65 b_HarnessBook.Hair.Hanks)),.d (.sl 3 (List.map e67 b_HarnessBook.Hair.Horses)),jI b_HarnessBook.Hair.Dark,jI b_HarnessBook.Hair.Near,jI b_HarnessBook.Hair.Match,.d (.sl 1 (List.map e51 b_HarnessBook.Needs)),.d (.sl 2 (List.map e33 b_HarnessBook.Stock)),jI b_HarnessBook.Pack,jI b_HarnessBook.Bad,.d (.sl 1 (List.map e3 b_bald)),.fmp (List.map m197_3 mf)]] []),(10,jI p2),pR 11 2,(16,.d (.sl 1 (List.map e3 order))),(17,jI (order.length:Int)),(18,jI v),(52,jI (b_HarnessBook.Stock.length:Int)),(53,jI v2),(56,jI v2),(62,jI (wr ((p5 j2) - (r0_1_1 j3))))] [(2,.var 154 [jI (r0_1_1 0),jI (r0_1_1 1),jI (r0_1_1 2)]),(1,.var 154 [jI (p5 0),jI (p5 1),jI (p5 2)]),(0,.var 144 (catV (cv83 b_HarnessBook) [.d (.sl 1 (List.map e3 b_bald)),.fmp (List.map m197_3 mf)]))] 3 0) ?_
        obtain ⟨j4,hv_38,h⟩:=bsome h
        refine r_iaV trivial rfl rfl rfl (ixN_ok hv_38).1 (ixN_ok hv_38).2.1 ?_
        refine r_stX trivial rfl rfl rfl rfl rfl (aslot hv_38 rfl) (cs':=[jI ((aset p5 j4 (wr ((p5 j2) - (r0_1_1 j3)))) 0),jI ((aset p5 j4 (wr ((p5 j2) - (r0_1_1 j3)))) 1),jI ((aset p5 j4 (wr ((p5 j2) - (r0_1_1 j3)))) 2)]) (ast (w:=p5) (c:=fun z=>jI z) hv_38) ?_
        refine Fi (sT [pR 3 0,pR 4 1,(7,jI set_2),(8,.clo 128 [.agg [.d (.sl 4 (List.map e65 b_HarnessBook.Hair.Hanks)),.d (.sl 3 (List.map e67 b_HarnessBook.Hair.Horses)),jI b_HarnessBook.Hair.Dark,jI b_HarnessBook.Hair.Near,jI b_HarnessBook.Hair.Match,.d (.sl 1 (List.map e51 b_HarnessBook.Needs)),.d (.sl 2 (List.map e33 b_HarnessBook.Stock)),jI b_HarnessBook.Pack,jI b_HarnessBook.Bad,.d (.sl 1 (List.map e3 b_bald)),.fmp (List.map m197_3 mf)]] []),(10,jI p2),pR 11 2,(16,.d (.sl 1 (List.map e3 order))),(17,jI (order.length:Int)),(18,jI v),(52,jI (b_HarnessBook.Stock.length:Int)),(53,jI v2)] [(1,.var 154 [jI ((aset p5 j4 (wr ((p5 j2) - (r0_1_1 j3)))) 0),jI ((aset p5 j4 (wr ((p5 j2) - (r0_1_1 j3)))) 1),jI ((aset p5 j4 (wr ((p5 j2) - (r0_1_1 j3)))) 2)]),(2,.var 154 [jI (r0_1_1 0),jI (r0_1_1 1),jI (r0_1_1 2)]),(0,.var 144 (catV (cv83 b_HarnessBook) [.d (.sl 1 (List.map e3 b_bald)),.fmp (List.map m197_3 mf)]))] 3 0) ?_
        refine hK_34 _ ?_
        refine Ra (sT [pR 3 0,pR 4 1,(7,jI set_2),(8,.clo 128 [.agg [.d (.sl 4 (List.map e65 b_HarnessBook.Hair.Hanks)),.d (.sl 3 (List.map e67 b_HarnessBook.Hair.Horses)),jI b_HarnessBook.Hair.Dark,jI b_HarnessBook.Hair.Near,jI b_HarnessBook.Hair.Match,.d (.sl 1 (List.map e51 b_HarnessBook.Needs)),.d (.sl 2 (List.map e33 b_HarnessBook.Stock)),jI b_HarnessBook.Pack,jI b_HarnessBook.Bad,.d (.sl 1 (List.map e3 b_bald)),.fmp (List.map m197_3 mf)]] []),(10,jI p2),pR 11 2,(16,.d (.sl 1 (List.map e3 order))),(17,jI (order.length:Int)),(18,jI v),(52,jI (b_HarnessBook.Stock.length:Int)),(53,jI (wr (v2+1)))] [(1,.var 154 [jI ((aset p5 j4 (wr ((p5 j2) - (r0_1_1 j3)))) 0),jI ((aset p5 j4 (wr ((p5 j2) - (r0_1_1 j3)))) 1),jI ((aset p5 j4 (wr ((p5 j2) - (r0_1_1 j3)))) 2)]),(2,.var 154 [jI (r0_1_1 0),jI (r0_1_1 1),jI (r0_1_1 2)]),(0,.var 144 (catV (cv83 b_HarnessBook) [.d (.sl 1 (List.map e3 b_bald)),.fmp (List.map m197_3 mf)]))] 3 0) ?_
        obtain rfl:=Option.some.inj h
        have ew:wr (v2+1)=v2+1:=inext (N:=(b_HarnessBook.Stock.length:Int)) (by omega) (by omega) (by omega)
        rw [ew]
        exact hK_31 _ (Can.kp (by kernel_rfl))
       ·subst hout
        refine Sa (sT [pR 3 0,pR 4 1,(7,jI set_2),(8,.clo 128 [.agg [.d (.sl 4 (List.map e65 b_HarnessBook.Hair.Hanks)),.d (.sl 3 (List.map e67 b_HarnessBook.Hair.Horses)),jI b_HarnessBook.Hair.Dark,jI b_HarnessBook.Hair.Near,jI b_HarnessBook.Hair.Match,.d (.sl 1 (List.map e51 b_HarnessBook.Needs)),.d (.sl 2 (List.map e33 b_HarnessBook.Stock)),jI b_HarnessBook.Pack,jI b_HarnessBook.Bad,.d (.sl 1 (List.map e3 b_bald)),.fmp (List.map m197_3 mf)]] []),(10,jI p2),pR 11 2,(16,.d (.sl 1 (List.map e3 order))),(17,jI (order.length:Int)),(18,jI v),(52,jI (b_HarnessBook.Stock.length:Int)),(53,jI v2),(54,.d (.bool (decide (v2<(b_HarnessBook.Stock.length:Int)))))] [(2,.var 154 [jI (r0_1_1 0),jI (r0_1_1 1),jI (r0_1_1 2)]),(1,.var 154 [jI (p5 0),jI (p5 1),jI (p5 2)]),(0,.var 144 (catV (cv83 b_HarnessBook) [.d (.sl 1 (List.map e3 b_bald)),.fmp (List.map m197_3 mf)]))] 3 0) ?_
        refine AW.seqK (fun K_39 hK_39=>?_)
        refine AW.cond rfl (fun hb_40=>False.elim (by have:=of_decide_eq_true hb_40;omega)) (fun hb_40=>?_)
        refine AW.exit ?_
        refine hK_29 _ ?_
        refine AW.rw ?_
        refine Au 2 (sT [pR 3 0,pR 4 1,(8,.clo 128 [.agg [.d (.sl 4 (List.map e65 b_HarnessBook.Hair.Hanks)),.d (.sl 3 (List.map e67 b_HarnessBook.Hair.Horses)),jI b_HarnessBook.Hair.Dark,jI b_HarnessBook.Hair.Near,jI b_HarnessBook.Hair.Match,.d (.sl 1 (List.map e51 b_HarnessBook.Needs)),.d (.sl 2 (List.map e33 b_HarnessBook.Stock)),jI b_HarnessBook.Pack,jI b_HarnessBook.Bad,.d (.sl 1 (List.map e3 b_bald)),.fmp (List.map m197_3 mf)]] []),(16,.d (.sl 1 (List.map e3 order))),(17,jI (order.length:Int)),(18,jI v),(65,jI set_2),(66,jI p2)] [(1,.var 154 [jI (p5 0),jI (p5 1),jI (p5 2)]),(0,.var 144 (catV (cv83 b_HarnessBook) [.d (.sl 1 (List.map e3 b_bald)),.fmp (List.map m197_3 mf)]))] 3 0) ?_
        obtain ⟨_,hv_42,h⟩:=bsome h
        refine RW.one fokW (r_sh trivial rfl rfl (shl64_ok (of_decide_eq_true (must_ok hv_42))) (r_end ?_))
        refine Au 2 (sT [pR 3 0,pR 4 1,(7,jI (bOr set_2 (shl64 1 p2))),(8,.clo 128 [.agg [.d (.sl 4 (List.map e65 b_HarnessBook.Hair.Hanks)),.d (.sl 3 (List.map e67 b_HarnessBook.Hair.Horses)),jI b_HarnessBook.Hair.Dark,jI b_HarnessBook.Hair.Near,jI b_HarnessBook.Hair.Match,.d (.sl 1 (List.map e51 b_HarnessBook.Needs)),.d (.sl 2 (List.map e33 b_HarnessBook.Stock)),jI b_HarnessBook.Pack,jI b_HarnessBook.Bad,.d (.sl 1 (List.map e3 b_bald)),.fmp (List.map m197_3 mf)]] []),(16,.d (.sl 1 (List.map e3 order))),(17,jI (order.length:Int)),(18,jI v)] [(1,.var 154 [jI (p5 0),jI (p5 1),jI (p5 2)]),(0,.var 144 (catV (cv83 b_HarnessBook) [.d (.sl 1 (List.map e3 b_bald)),.fmp (List.map m197_3 mf)]))] 3 0) ?_
        refine RW.nil ?_
        obtain rfl:=Option.some.inj h
        exact hK_7 _ (Can.kp (by kernel_rfl))
    ·obtain ⟨set_3,p3⟩:=c_7
     refine Ra (sT [pR 3 0,pR 4 1,(7,jI set_3),(8,.clo 128 [.agg [.d (.sl 4 (List.map e65 b_HarnessBook.Hair.Hanks)),.d (.sl 3 (List.map e67 b_HarnessBook.Hair.Horses)),jI b_HarnessBook.Hair.Dark,jI b_HarnessBook.Hair.Near,jI b_HarnessBook.Hair.Match,.d (.sl 1 (List.map e51 b_HarnessBook.Needs)),.d (.sl 2 (List.map e33 b_HarnessBook.Stock)),jI b_HarnessBook.Pack,jI b_HarnessBook.Bad,.d (.sl 1 (List.map e3 b_bald)),.fmp (List.map m197_3 mf)]] []),(16,.d (.sl 1 (List.map e3 order))),(17,jI (order.length:Int)),(18,jI (wr (v+1)))] [(1,.var 154 [jI (p3 0),jI (p3 1),jI (p3 2)]),(0,.var 144 (catV (cv83 b_HarnessBook) [.d (.sl 1 (List.map e3 b_bald)),.fmp (List.map m197_3 mf)]))] 2 0) ?_
     obtain rfl:=Option.some.inj h
     have ew:wr (v+1)=v+1:=inext (N:=(order.length:Int)) (by omega) (by omega) (by omega)
     rw [ew]
     exact hK_4 _ (Can.kp (by kernel_rfl))
   ·obtain ⟨set_2,p1⟩:=s_4
    subst hout
    refine Sa (sT [pR 3 0,pR 4 1,(7,jI set_2),(8,.clo 128 [.agg [.d (.sl 4 (List.map e65 b_HarnessBook.Hair.Hanks)),.d (.sl 3 (List.map e67 b_HarnessBook.Hair.Horses)),jI b_HarnessBook.Hair.Dark,jI b_HarnessBook.Hair.Near,jI b_HarnessBook.Hair.Match,.d (.sl 1 (List.map e51 b_HarnessBook.Needs)),.d (.sl 2 (List.map e33 b_HarnessBook.Stock)),jI b_HarnessBook.Pack,jI b_HarnessBook.Bad,.d (.sl 1 (List.map e3 b_bald)),.fmp (List.map m197_3 mf)]] []),(16,.d (.sl 1 (List.map e3 order))),(17,jI (order.length:Int)),(18,jI v),(19,.d (.bool (decide (v<(order.length:Int)))))] [(1,.var 154 [jI (p1 0),jI (p1 1),jI (p1 2)]),(0,.var 144 (catV (cv83 b_HarnessBook) [.d (.sl 1 (List.map e3 b_bald)),.fmp (List.map m197_3 mf)]))] 2 0) ?_
    refine AW.seqK (fun K_43 hK_43=>?_)
    refine AW.cond rfl (fun hb_44=>False.elim (by have:=of_decide_eq_true hb_44;omega)) (fun hb_44=>?_)
    refine AW.exit ?_
    obtain rfl:=Option.some.inj h
    exact hK_3 _ (Can.kp (by kernel_rfl))
  ·obtain rfl:=Option.some.inj h
   exact hK_1 _ (Can.kp (by kernel_rfl))
 ·refine Sa (sT [(6,jI set_)] [] 2 0) ?_
  obtain rfl:=Option.some.inj h
  exact rT hR_0 (.cons (.tmp rfl) .nil)
def g93_r6 (b_HarnessBook:HarnessBook) (b_bald:(List Int)) (mf:List (Harness_want×Int)) (order:(List Int)):((Nat→Int))→(Int×Int)→Option (Ctl (Int×Int) (Unit)):=fun a (v,v1)=>(g97 b_HarnessBook b_bald mf a order).bind fun r0_2=>some (.next ((bAnd v r0_2),(bOr v1 r0_2)))
def g93 (b_HarnessBook:HarnessBook) (b_bald:(List Int)) (mf:List (Harness_want×Int)) (order:(List Int)):Option (Int×Int):=(must (decide (0≤(b_HarnessBook.Needs.length:Int)))).bind fun _=>(g96 b_HarnessBook b_bald mf).bind fun (o0_HarnessBook,o0_bald,mf1)=>(g125 (fun a s=>rndC (g93_r6 b_HarnessBook b_bald mf order) a s) o0_HarnessBook o0_bald mf1 (.next ((wr ((shl64 1 (b_HarnessBook.Needs.length:Int)) - 1)),0))).bind fun out_6=>match out_6 with | .next (v,v1)=>some (v,v1) | .brk _=>none
theorem k93 (b_HarnessBook:HarnessBook) (b_bald:(List Int)) (mf:List (Harness_want×Int)) (order:(List Int)) (r:Int×Int) (h:g93 b_HarnessBook b_bald mf order=some r):SCall Tryd.prog Gs 93 [.agg [.d (.sl 4 (List.map e65 b_HarnessBook.Hair.Hanks)),.d (.sl 3 (List.map e67 b_HarnessBook.Hair.Horses)),jI b_HarnessBook.Hair.Dark,jI b_HarnessBook.Hair.Near,jI b_HarnessBook.Hair.Match,.d (.sl 1 (List.map e51 b_HarnessBook.Needs)),.d (.sl 2 (List.map e33 b_HarnessBook.Stock)),jI b_HarnessBook.Pack,jI b_HarnessBook.Bad,.d (.sl 1 (List.map e3 b_bald)),.fmp (List.map m197_3 mf)],.d (.sl 1 (List.map e3 order))] [] 0 Fr.emp (match r with | (surely,perhaps)=>.tup [jI surely,jI perhaps]) [] 0 Fr.emp:=by
 unfold g93 at h
 refine SCall.mkK Tryd.func93 c93 rfl rfl (by kernel_rfl) (fun Q_0 hR_0 hN_0=>?_)
 refine Sa (sT [pR 2 0,pR 3 1,pR 4 2,pR 5 3] [(3,.var 3 [jI 0]),(2,.var 3 [jI 0]),(1,.var 51 [.d (.sl 1 (List.map e3 order))]),(0,.var 144 (catV (cv83 b_HarnessBook) [.d (.sl 1 (List.map e3 b_bald)),.fmp (List.map m197_3 mf)]))] 4 0) ?_
 refine AW.srwK (fun Q_1 hQ_1=>?_)
 refine Au 3 (sT [pR 2 0,pR 3 1,pR 4 2,pR 5 3,(10,.d (.sl 1 (List.map e51 b_HarnessBook.Needs)))] [(3,.var 3 [jI 0]),(2,.var 3 [jI 0]),(1,.var 51 [.d (.sl 1 (List.map e3 order))]),(0,.var 144 (catV (cv83 b_HarnessBook) [.d (.sl 1 (List.map e3 b_bald)),.fmp (List.map m197_3 mf)]))] 4 0) ?_
 refine rL rfl ?_
 obtain ⟨_,hv_2,h⟩:=bsome h
 refine RW.one fokW (r_sh trivial rfl rfl (shl64_ok (of_decide_eq_true (must_ok hv_2))) (r_end ?_))
 refine Au 2 (sT [pR 2 0,pR 3 1,pR 4 2,pR 5 3] [(2,.var 3 [jI (wr ((shl64 1 (b_HarnessBook.Needs.length:Int)) - 1))]),(3,.var 3 [jI 0]),(1,.var 51 [.d (.sl 1 (List.map e3 order))]),(0,.var 144 (catV (cv83 b_HarnessBook) [.d (.sl 1 (List.map e3 b_bald)),.fmp (List.map m197_3 mf)]))] 4 0) ?_
 refine RW.nil (hQ_1 _ ?_)
 refine AW.seqK fun K_3 hK_3=>AW.srwK fun Q_4 hQ_4=>?_
 refine Au 1 (sT [pR 2 0,pR 3 1,pR 4 2,pR 5 3,(14,.agg [.d (.sl 4 (List.map e65 b_HarnessBook.Hair.Hanks)),.d (.sl 3 (List.map e67 b_HarnessBook.Hair.Horses)),jI b_HarnessBook.Hair.Dark,jI b_HarnessBook.Hair.Near,jI b_HarnessBook.Hair.Match,.d (.sl 1 (List.map e51 b_HarnessBook.Needs)),.d (.sl 2 (List.map e33 b_HarnessBook.Stock)),jI b_HarnessBook.Pack,jI b_HarnessBook.Bad,.d (.sl 1 (List.map e3 b_bald)),.fmp (List.map m197_3 mf)])] [(2,.var 3 [jI (wr ((shl64 1 (b_HarnessBook.Needs.length:Int)) - 1))]),(3,.var 3 [jI 0]),(1,.var 51 [.d (.sl 1 (List.map e3 order))]),(0,.var 144 (catV (cv83 b_HarnessBook) [.d (.sl 1 (List.map e3 b_bald)),.fmp (List.map m197_3 mf)]))] 4 0) ?_
 obtain ⟨⟨o0_HarnessBook,o0_bald,mf1⟩,hx_5,h⟩:=bsome h
 refine RW.one fokW (r_callS (zr:=[]) [] trivial rfl (k96 b_HarnessBook b_bald mf _ hx_5) trivial rfl rfl ⟨.refl _,trivial⟩ rfl rfl rfl (r_end ?_))
 refine RW.nil (hQ_4 _ ?_)
 refine AW.block ?_
 obtain ⟨out_6,hx_6,h⟩:=bsome h
 refine AW.rfX (fun (⟨v,v1⟩:Int×Int)=>[(5,.dm),(2,.var 3 [jI v]),(3,.var 3 [jI v1]),(1,.var 51 [.d (.sl 1 (List.map e3 order))]),(0,.var 144 (catV (cv83 b_HarnessBook) [.d (.sl 1 (List.map e3 b_bald)),.fmp (List.map m197_3 mf)]))]) (fun (_:Unit)=>[]) (fun _=>some .ret) (g93_r6 b_HarnessBook b_bald mf order) (fun (a:(Nat→Int))=>[.agg [jI (a 0),jI (a 1),jI (a 2)]]) (s0:=((wr ((shl64 1 (b_HarnessBook.Needs.length:Int)) - 1)),0)) (out:=out_6) [pR 2 0,pR 3 1,pR 4 2,pR 5 3] [(2,.var 3 [jI (wr ((shl64 1 (b_HarnessBook.Needs.length:Int)) - 1))]),(3,.var 3 [jI 0]),(1,.var 51 [.d (.sl 1 (List.map e3 order))]),(0,.var 144 (catV (cv83 b_HarnessBook) [.d (.sl 1 (List.map e3 b_bald)),.fmp (List.map m197_3 mf)]))] [4] rfl (.clo _ _ _) (by kernel_rfl) (by kernel_rfl) (fun fr_ hY_6=>k125 fr_ _ (fun a s s2 b h=>hY_6 a s s2 b h) o0_HarnessBook o0_bald mf1 (.next ((wr ((shl64 1 (b_HarnessBook.Needs.length:Int)) - 1)),0)) _ hx_6) (by kernel_rfl) ⟨rfl,trivial⟩ rfl ⟨rfl,rfl⟩ rfl rfl (fun _=>rfl) (fun _=>rfl) (fun a_6 s_6 c_6 h l_6=>?_) (fun _=>rfl) ?_
 ·have ⟨a,e_6⟩:∃ x,x=a_6:=⟨_,rfl⟩
  subst e_6
  obtain ⟨v,v1⟩:=s_6
  unfold g93_r6 at h
  refine AW.ra (fokR l_6) [] (sT [pR 2 0,pR 3 1,pR 4 2,pR 5 3,pR 6 6] [(6,.var 154 [jI (a 0),jI (a 1),jI (a 2)]),(5,.dm),(2,.var 3 [jI v]),(3,.var 3 [jI v1]),(1,.var 51 [.d (.sl 1 (List.map e3 order))]),(0,.var 144 (catV (cv83 b_HarnessBook) [.d (.sl 1 (List.map e3 b_bald)),.fmp (List.map m197_3 mf)]))] 7 6) (by kernel_rfl) ?_
  refine AW.block ?_
  refine AW.srwK (fun Q_7 hQ_7=>?_)
  refine RW.au (fokR l_6) 3 [] (sT [pR 4 2,pR 5 3,(17,.agg [.d (.sl 4 (List.map e65 b_HarnessBook.Hair.Hanks)),.d (.sl 3 (List.map e67 b_HarnessBook.Hair.Horses)),jI b_HarnessBook.Hair.Dark,jI b_HarnessBook.Hair.Near,jI b_HarnessBook.Hair.Match,.d (.sl 1 (List.map e51 b_HarnessBook.Needs)),.d (.sl 2 (List.map e33 b_HarnessBook.Stock)),jI b_HarnessBook.Pack,jI b_HarnessBook.Bad,.d (.sl 1 (List.map e3 b_bald)),.fmp (List.map m197_3 mf)]),(18,.agg [jI (a 0),jI (a 1),jI (a 2)]),(19,.d (.sl 1 (List.map e3 order)))] [(5,.dm),(2,.var 3 [jI v]),(3,.var 3 [jI v1]),(1,.var 51 [.d (.sl 1 (List.map e3 order))]),(0,.var 144 (catV (cv83 b_HarnessBook) [.d (.sl 1 (List.map e3 b_bald)),.fmp (List.map m197_3 mf)]))] 7 6) (by kernel_rfl) ?_
  obtain ⟨r0_2,hx_8,h⟩:=bsome h
  refine RW.one (fokR l_6) (r_call trivial rfl (k97 b_HarnessBook b_bald mf a order _ hx_8) rfl rfl (r_end ?_))
  refine RW.au (fokR l_6) 1 [] (sT [pR 4 2,pR 5 3,(7,jI r0_2)] [(5,.dm),(2,.var 3 [jI v]),(3,.var 3 [jI v1]),(1,.var 51 [.d (.sl 1 (List.map e3 order))]),(0,.var 144 (catV (cv83 b_HarnessBook) [.d (.sl 1 (List.map e3 b_bald)),.fmp (List.map m197_3 mf)]))] 7 6) (by kernel_rfl) ?_
  refine RW.nil (hQ_7 _ ?_)
  refine AW.ra (fokR l_6) [] (sT [] [(3,.var 3 [jI (bOr v1 r0_2)]),(2,.var 3 [jI (bAnd v r0_2)]),(5,.dm),(1,.var 51 [.d (.sl 1 (List.map e3 order))]),(0,.var 144 (catV (cv83 b_HarnessBook) [.d (.sl 1 (List.map e3 b_bald)),.fmp (List.map m197_3 mf)]))] 7 6) (by kernel_rfl) ?_
  obtain rfl:=Option.some.inj h
  exact ⟨(sT [] [(5,.dm),(2,.var 3 [jI (bAnd v r0_2)]),(3,.var 3 [jI (bOr v1 r0_2)]),(1,.var 51 [.d (.sl 1 (List.map e3 order))]),(0,.var 144 (catV (cv83 b_HarnessBook) [.d (.sl 1 (List.map e3 b_bald)),.fmp (List.map m197_3 mf)]))] 6 6),Can.kp (by kernel_rfl),rdX trivial rfl (by kernel_rfl) (by kernel_rfl)⟩
 ·rcases out_6 with ⟨v,v1⟩ | _
  ·refine hK_3 _ ?_
   refine Sa ⟨[pR 4 2,pR 5 3],[(3,.var 3 [jI v1]),(2,.var 3 [jI v]),(5,.dm)],6,Fr.emp,[5],0⟩ ?_
   obtain rfl:=Option.some.inj h
   exact rT hR_0 (.cons (.one rfl rfl rfl) (.cons (.one rfl rfl rfl) .nil))
  ·cases h
def g95_3 (set_:Int):Int→(List Int)→(List Int)→Option (List Int):=fun v p l=>(must (decide (0≤v))).bind fun _=>bif (decide ((bAnd (shr64 set_ v) 1)=1)) then ((appL 8 l [v]).bind fun l1=>some l1) else (some l)
def g95 (b_HarnessBook:HarnessBook) (b_bald:(List Int)) (mf:List (Harness_want×Int)) (set_:Int):Option (List Int):=(must (decide ((b_HarnessBook.Needs.length:Int)≤9223372036854775807))).bind fun _=>(eachS (g95_3 set_) b_HarnessBook.Needs 0 ([]:List Int)).bind fun l=>(slcL l 0 (l.length:Int)).bind fun l2=>some l2
theorem k95 (b_HarnessBook:HarnessBook) (b_bald:(List Int)) (mf:List (Harness_want×Int)) (set_:Int) (r:(List Int)) (h:g95 b_HarnessBook b_bald mf set_=some r):SCall Tryd.prog Gs 95 [.agg [.d (.sl 4 (List.map e65 b_HarnessBook.Hair.Hanks)),.d (.sl 3 (List.map e67 b_HarnessBook.Hair.Horses)),jI b_HarnessBook.Hair.Dark,jI b_HarnessBook.Hair.Near,jI b_HarnessBook.Hair.Match,.d (.sl 1 (List.map e51 b_HarnessBook.Needs)),.d (.sl 2 (List.map e33 b_HarnessBook.Stock)),jI b_HarnessBook.Pack,jI b_HarnessBook.Bad,.d (.sl 1 (List.map e3 b_bald)),.fmp (List.map m197_3 mf)],jI set_] [] 0 Fr.emp (.d (.sl 1 (List.map e3 r))) [] 0 Fr.emp:=by
 unfold g95 at h
 refine SCall.mkK Tryd.func95 c95 rfl rfl (by kernel_rfl) (fun Q_0 hR_0 hN_0=>?_)
 refine Sa (sT [(1,jI set_),pR 2 0] [(0,.var 144 (catV (cv83 b_HarnessBook) [.d (.sl 1 (List.map e3 b_bald)),.fmp (List.map m197_3 mf)]))] 1 0) ?_
 refine Sa (sT [(1,jI set_),pR 2 0,(5,.d (.nilSl))] [(0,.var 144 (catV (cv83 b_HarnessBook) [.d (.sl 1 (List.map e3 b_bald)),.fmp (List.map m197_3 mf)]))] 1 0) ?_
 refine AW.seqK fun K_1 hK_1=>AW.srwK fun Q_2 hQ_2=>?_
 refine Au 3 (sT [(1,jI set_),(5,.d (.nilSl)),(9,.d (.sl 1 (List.map e51 b_HarnessBook.Needs)))] [] 1 0) ?_
 refine rL rfl ?_
 refine Au 1 (sT [(1,jI set_),(5,.d (.nilSl)),(10,jI (b_HarnessBook.Needs.length:Int)),(11,jI 0)] [] 1 0) ?_
 refine RW.nil (hQ_2 _ ?_)
 refine AW.block ?_
 obtain ⟨_,hN_3,h⟩:=bsome h
 have hN_3:=of_decide_eq_true (must_ok hN_3)
 obtain ⟨out_3,hx_3,h⟩:=bsome h
 refine AW.evSK (fun (v:Int) (l:List Int)=>(sT [(1,jI set_),(5,.own 1 (List.map e3 l).length),(10,jI (b_HarnessBook.Needs.length:Int)),(11,jI v)] [(1,.row 3 1 (List.map e3 l))] 2 0)) (g95_3 set_) hx_3 (Can.trans (Can.thawT 5 3 1 rfl rfl) (Can.kp (by kernel_rfl))) (fun v p l hi_3 hl_3 hp_3 c_3 h K_3 hK_3=>?_) (fun v l hi_3 hl_3 hout=>?_)
 ·unfold g95_3 at h
  refine Sa (sT [(1,jI set_),(5,.own 1 (List.map e3 l).length),(10,jI (b_HarnessBook.Needs.length:Int)),(11,jI v),(12,.d (.bool (decide (v<(b_HarnessBook.Needs.length:Int)))))] [(1,.row 3 1 (List.map e3 l))] 2 0) ?_
  refine AW.seqK (fun K_4 hK_4=>?_)
  refine AW.cond rfl (fun hb_5=>?_) (fun hb_5=>False.elim (by have:=of_decide_eq_false hb_5;omega))
  refine AW.skip (hK_4 _ ?_)
  refine AW.seqK (fun K_6 hK_6=>?_)
  refine AW.block ?_
  refine Sa (sT [(1,jI set_),(5,.own 1 (List.map e3 l).length),(6,jI v),(10,jI (b_HarnessBook.Needs.length:Int)),(11,jI v)] [(1,.row 3 1 (List.map e3 l))] 2 0) ?_
  refine AW.srwK (fun Q_7 hQ_7=>?_)
  refine Au 2 (sT [(1,jI set_),(5,.own 1 (List.map e3 l).length),(6,jI v),(10,jI (b_HarnessBook.Needs.length:Int)),(11,jI v),(14,jI set_),(15,jI v)] [(1,.row 3 1 (List.map e3 l))] 2 0) ?_
  obtain ⟨_,hv_8,h⟩:=bsome h
  refine RW.one fokW (r_sh trivial rfl rfl (shr64_ok (of_decide_eq_true (must_ok hv_8))) (r_end ?_))
  refine Au 2 (sT [(1,jI set_),(5,.own 1 (List.map e3 l).length),(6,jI v),(10,jI (b_HarnessBook.Needs.length:Int)),(11,jI v),(18,.d (.bool (decide ((bAnd (shr64 set_ v) 1)=1))))] [(1,.row 3 1 (List.map e3 l))] 2 0) ?_
  refine RW.nil (hQ_7 _ ?_)
  refine AW.cond rfl (fun hb_9=>?_) (fun hb_9=>?_)
  ·have h:=ifT hb_9 h
   refine AW.rw ?_
   refine Au 3 (sT [(1,jI set_),(10,jI (b_HarnessBook.Needs.length:Int)),(11,jI v),(19,.own 1 (List.map e3 l).length),(21,.own 2 (List.map e3 [v]).length)] [(2,.row 3 1 (List.map e3 [v])),(1,.row 3 1 (List.map e3 l))] 3 0) ?_
   obtain ⟨l1,hv_11,h⟩:=bsome h
   refine RW.one fokW (r_apO trivial rfl rfl rfl rfl rfl rfl (apz hv_11 e3) (apr hv_11 e3) (r_end ?_))
   refine Au 1 (sT [(1,jI set_),(5,.own 1 (List.map e3 l1).length),(10,jI (b_HarnessBook.Needs.length:Int)),(11,jI v)] [(1,.row 3 1 (List.map e3 l1))] 3 0) ?_
   refine RW.nil ?_
   refine hK_6 _ ?_
   refine Ra (sT [(1,jI set_),(5,.own 1 (List.map e3 l1).length),(10,jI (b_HarnessBook.Needs.length:Int)),(11,jI (wr (v+1)))] [(1,.row 3 1 (List.map e3 l1))] 3 0) ?_
   obtain rfl:=Option.some.inj h
   have ew:wr (v+1)=v+1:=inext (N:=(b_HarnessBook.Needs.length:Int)) (by omega) (by omega) (by omega)
   rw [ew]
   exact hK_3 _ (Can.kp (by kernel_rfl))
  ·have h:=ifF hb_9 h
   refine AW.skip (hK_6 _ ?_)
   refine Ra (sT [(1,jI set_),(5,.own 1 (List.map e3 l).length),(10,jI (b_HarnessBook.Needs.length:Int)),(11,jI (wr (v+1)))] [(1,.row 3 1 (List.map e3 l))] 2 0) ?_
   obtain rfl:=Option.some.inj h
   have ew:wr (v+1)=v+1:=inext (N:=(b_HarnessBook.Needs.length:Int)) (by omega) (by omega) (by omega)
   rw [ew]
   exact hK_3 _ (Can.kp (by kernel_rfl))
 ·subst hout
  refine Sa (sT [(1,jI set_),(5,.own 1 (List.map e3 l).length),(10,jI (b_HarnessBook.Needs.length:Int)),(11,jI v),(12,.d (.bool (decide (v<(b_HarnessBook.Needs.length:Int)))))] [(1,.row 3 1 (List.map e3 l))] 2 0) ?_
  refine AW.seqK (fun K_12 hK_12=>?_)
  refine AW.cond rfl (fun hb_13=>False.elim (by have:=of_decide_eq_true hb_13;omega)) (fun hb_13=>?_)
  refine AW.exit ?_
  refine hK_1 _ ?_
  refine AW.can (Can.fzE 5 1 rfl rfl rfl) ?_
  refine AW.srwK (fun Q_14 hQ_14=>?_)
  refine Au 2 (sT [(5,.d (.sl 1 (List.map e3 l))),(24,.d (.sl 1 (List.map e3 l))),(25,.d (.sl 1 (List.map e3 l)))] [] 2 0) ?_
  refine rL rfl ?_
  refine Au 1 (sT [(24,.d (.sl 1 (List.map e3 l))),(26,jI (l.length:Int)),(27,.d (.sl 1 (List.map e3 l)))] [] 2 0) ?_
  refine rL rfl ?_
  obtain ⟨l2,hv_15,h⟩:=bsome h
  refine RW.one fokW (r_slN trivial rfl rfl rfl DSl.d (slcL_ok hv_15).2.1 (by rw [List.length_map];exact (slcL_ok hv_15).2.2.1) rfl (slz hv_15 e3) (r_end ?_))
  refine Au 1 (sT [(4,.fsl 1 (List.map e3 l2))] [] 2 0) ?_
  refine RW.nil (hQ_14 _ ?_)
  obtain rfl:=Option.some.inj h
  exact AW.ret (hR_0 _ (retX (.cons (.tmp rfl) .nil) (.fsl _ _) rfl (by kernel_rfl) (by kernel_rfl)))
def g40 (x:HarnessBook):Option ((List Int)×Int):=(g92 x true).bind fun r_13=>match r_13 with | .next (r0_HarnessBook3,r0_bald3,r1_1)=>(must (decide (r1_1≠0))).bind fun _=>some ([],r1_1) | .brk (r0_HarnessBook4,r0_bald4,mf1,r1_2)=>bif (decide (r1_2≠0)) then (some ([],r1_2)) else ((g94 r0_HarnessBook4 r0_bald4 mf1).bind fun r0=>(g93 r0_HarnessBook4 r0_bald4 mf1 r0).bind fun (surely,perhaps)=>(g95 r0_HarnessBook4 r0_bald4 mf1 surely).bind fun r0_1=>some (r0_1,0))
theorem k40 (x:HarnessBook) (r:(List Int)×Int) (h:g40 x=some r):SCall Tryd.prog Gs 40 [.agg [.d (.sl 4 (List.map e65 x.Hair.Hanks)),.d (.sl 3 (List.map e67 x.Hair.Horses)),jI x.Hair.Dark,jI x.Hair.Near,jI x.Hair.Match,.d (.sl 1 (List.map e51 x.Needs)),.d (.sl 2 (List.map e33 x.Stock)),jI x.Pack,jI x.Bad]] [] 0 Fr.emp (match r with | (r0_4,r1_4)=>.tup [.d (.sl 1 (List.map e3 r0_4)),jI r1_4]) [] 0 Fr.emp:=by
 unfold g40 at h
 refine SCall.mkK Tryd.func40 c40 rfl rfl (by kernel_rfl) (fun Q_0 hR_0 hN_0=>?_)
 refine Sa (sT [pR 1 0] [(0,.var 83 (cv83 x))] 1 0) ?_
 refine AW.srwK (fun Q_1 hQ_1=>?_)
 refine Au 1 (sT [(9,.agg [.d (.sl 4 (List.map e65 x.Hair.Hanks)),.d (.sl 3 (List.map e67 x.Hair.Horses)),jI x.Hair.Dark,jI x.Hair.Near,jI x.Hair.Match,.d (.sl 1 (List.map e51 x.Needs)),.d (.sl 2 (List.map e33 x.Stock)),jI x.Pack,jI x.Bad])] [] 1 0) ?_
 obtain ⟨r_13,hx_2,h⟩:=bsome h
 rcases r_13 with (⟨r0_HarnessBook3,r0_bald3,r1_1⟩ | (⟨r0_HarnessBook4,r0_bald4,mf1,r1_2⟩))
 ·refine rC (k92 x true _ hx_2) ?_
  obtain ⟨_,hv_3,h⟩:=bsome h
  have hf_4:=must_ok hv_3
  refine Au 6 (sT [pR 4 1,(5,jI r1_1)] [(1,.var 144 (catV (cv83 r0_HarnessBook3) [.d (.sl 1 (List.map e3 r0_bald3)),.d (.nilMap)]))] 2 0) ?_
  refine RW.nil (hQ_1 _ ?_)
  refine AW.seqK (fun K_5 hK_5=>?_)
  refine Sa (sT [pR 4 1,(5,jI r1_1),(14,.d (.bool (decide (r1_1≠0))))] [(1,.var 144 (catV (cv83 r0_HarnessBook3) [.d (.sl 1 (List.map e3 r0_bald3)),.d (.nilMap)]))] 2 0) ?_
  refine AW.cond rfl (fun hb_6=>?_) (fun hb_6=>False.elim (by rw [hf_4] at hb_6;cases hb_6))
  refine Sa (sT [(2,.d (.nilSl)),(3,jI r1_1)] [] 2 0) ?_
  obtain rfl:=Option.some.inj h
  exact AW.ret (hR_0 _ (retX (.cons (.tmp rfl) (.cons (.tmp rfl) .nil)) (Frz.tup_of ⟨.nil 1,.refl _,trivial⟩) rfl (by kernel_rfl) (by kernel_rfl)))
 ·refine rC (k92 x true _ hx_2) ?_
  refine Au 6 (sT [pR 4 1,(5,jI r1_2)] [(1,.var 144 (catV (cv83 r0_HarnessBook4) [.d (.sl 1 (List.map e3 r0_bald4)),.fmp (List.map m197_3 mf1)]))] 2 0) ?_
  refine RW.nil (hQ_1 _ ?_)
  refine AW.seqK (fun K_7 hK_7=>?_)
  refine Sa (sT [pR 4 1,(5,jI r1_2),(14,.d (.bool (decide (r1_2≠0))))] [(1,.var 144 (catV (cv83 r0_HarnessBook4) [.d (.sl 1 (List.map e3 r0_bald4)),.fmp (List.map m197_3 mf1)]))] 2 0) ?_
  refine AW.cond rfl (fun hb_8=>?_) (fun hb_8=>?_)
  ·have h:=ifT hb_8 h
   refine Sa (sT [(2,.d (.nilSl)),(3,jI r1_2)] [] 2 0) ?_
   obtain rfl:=Option.some.inj h
   exact AW.ret (hR_0 _ (retX (.cons (.tmp rfl) (.cons (.tmp rfl) .nil)) (Frz.tup_of ⟨.nil 1,.refl _,trivial⟩) rfl (by kernel_rfl) (by kernel_rfl)))
  ·have h:=ifF hb_8 h
   refine AW.skip (hK_7 _ ?_)
   refine AW.sdrwK fokW (fun Q_9 hQ_9=>?_)
   refine aX 2 (sT [pR 4 1,(17,.agg [.d (.sl 4 (List.map e65 r0_HarnessBook4.Hair.Hanks)),.d (.sl 3 (List.map e67 r0_HarnessBook4.Hair.Horses)),jI r0_HarnessBook4.Hair.Dark,jI r0_HarnessBook4.Hair.Near,jI r0_HarnessBook4.Hair.Match,.d (.sl 1 (List.map e51 r0_HarnessBook4.Needs)),.d (.sl 2 (List.map e33 r0_HarnessBook4.Stock)),jI r0_HarnessBook4.Pack,jI r0_HarnessBook4.Bad,.d (.sl 1 (List.map e3 r0_bald4)),.fmp (List.map m197_3 mf1)]),(18,.agg [.d (.sl 4 (List.map e65 r0_HarnessBook4.Hair.Hanks)),.d (.sl 3 (List.map e67 r0_HarnessBook4.Hair.Horses)),jI r0_HarnessBook4.Hair.Dark,jI r0_HarnessBook4.Hair.Near,jI r0_HarnessBook4.Hair.Match,.d (.sl 1 (List.map e51 r0_HarnessBook4.Needs)),.d (.sl 2 (List.map e33 r0_HarnessBook4.Stock)),jI r0_HarnessBook4.Pack,jI r0_HarnessBook4.Bad,.d (.sl 1 (List.map e3 r0_bald4)),.fmp (List.map m197_3 mf1)])] [(1,.var 144 (catV (cv83 r0_HarnessBook4) [.d (.sl 1 (List.map e3 r0_bald4)),.fmp (List.map m197_3 mf1)]))] 2 0) ?_
   obtain ⟨r0,hx_10,h⟩:=bsome h
   refine r_call trivial rfl (k94 r0_HarnessBook4 r0_bald4 mf1 _ hx_10) rfl rfl ?_
   obtain ⟨⟨surely,perhaps⟩,hx_11,h⟩:=bsome h
   refine r_call trivial rfl (k93 r0_HarnessBook4 r0_bald4 mf1 r0 _ hx_11) rfl rfl ?_
   refine aX 5 (sT [pR 4 1,(6,jI surely)] [(1,.var 144 (catV (cv83 r0_HarnessBook4) [.d (.sl 1 (List.map e3 r0_bald4)),.fmp (List.map m197_3 mf1)]))] 2 0) ?_
   refine Fi (sT [pR 4 1,(6,jI surely)] [(1,.var 144 (catV (cv83 r0_HarnessBook4) [.d (.sl 1 (List.map e3 r0_bald4)),.fmp (List.map m197_3 mf1)]))] 2 0) ?_
   refine hQ_9 _ ?_
   refine AW.srwK (fun Q_12 hQ_12=>?_)
   refine Au 2 (sT [(23,.agg [.d (.sl 4 (List.map e65 r0_HarnessBook4.Hair.Hanks)),.d (.sl 3 (List.map e67 r0_HarnessBook4.Hair.Horses)),jI r0_HarnessBook4.Hair.Dark,jI r0_HarnessBook4.Hair.Near,jI r0_HarnessBook4.Hair.Match,.d (.sl 1 (List.map e51 r0_HarnessBook4.Needs)),.d (.sl 2 (List.map e33 r0_HarnessBook4.Stock)),jI r0_HarnessBook4.Pack,jI r0_HarnessBook4.Bad,.d (.sl 1 (List.map e3 r0_bald4)),.fmp (List.map m197_3 mf1)]),(24,jI surely)] [] 2 0) ?_
   obtain ⟨r0_1,hx_13,h⟩:=bsome h
   refine rC (k95 r0_HarnessBook4 r0_bald4 mf1 surely _ hx_13) ?_
   refine Au 2 (sT [(2,.d (.sl 1 (List.map e3 r0_1))),(3,jI 0)] [] 2 0) ?_
   refine RW.nil (hQ_12 _ ?_)
   obtain rfl:=Option.some.inj h
   exact rT hR_0 (.cons (.tmp rfl) (.cons (.tmp rfl) .nil))
def g41 (x:HarnessBook):Option ((List Int)×Int):=(g92 x true).bind fun r_13=>match r_13 with | .next (r0_HarnessBook3,r0_bald3,r1_1)=>(must (decide (r1_1≠0))).bind fun _=>some ([],r1_1) | .brk (r0_HarnessBook4,r0_bald4,mf1,r1_2)=>bif (decide (r1_2≠0)) then (some ([],r1_2)) else ((g94 r0_HarnessBook4 r0_bald4 mf1).bind fun r0=>(g93 r0_HarnessBook4 r0_bald4 mf1 r0).bind fun (surely,perhaps)=>(g95 r0_HarnessBook4 r0_bald4 mf1 perhaps).bind fun r0_1=>some (r0_1,0))
theorem k41 (x:HarnessBook) (r:(List Int)×Int) (h:g41 x=some r):SCall Tryd.prog Gs 41 [.agg [.d (.sl 4 (List.map e65 x.Hair.Hanks)),.d (.sl 3 (List.map e67 x.Hair.Horses)),jI x.Hair.Dark,jI x.Hair.Near,jI x.Hair.Match,.d (.sl 1 (List.map e51 x.Needs)),.d (.sl 2 (List.map e33 x.Stock)),jI x.Pack,jI x.Bad]] [] 0 Fr.emp (match r with | (r0_4,r1_4)=>.tup [.d (.sl 1 (List.map e3 r0_4)),jI r1_4]) [] 0 Fr.emp:=by
 unfold g41 at h
 refine SCall.mkK Tryd.func41 c41 rfl rfl (by kernel_rfl) (fun Q_0 hR_0 hN_0=>?_)
 refine Sa (sT [pR 1 0] [(0,.var 83 (cv83 x))] 1 0) ?_
 refine AW.srwK (fun Q_1 hQ_1=>?_)
 refine Au 1 (sT [(9,.agg [.d (.sl 4 (List.map e65 x.Hair.Hanks)),.d (.sl 3 (List.map e67 x.Hair.Horses)),jI x.Hair.Dark,jI x.Hair.Near,jI x.Hair.Match,.d (.sl 1 (List.map e51 x.Needs)),.d (.sl 2 (List.map e33 x.Stock)),jI x.Pack,jI x.Bad])] [] 1 0) ?_
 obtain ⟨r_13,hx_2,h⟩:=bsome h
 rcases r_13 with (⟨r0_HarnessBook3,r0_bald3,r1_1⟩ | (⟨r0_HarnessBook4,r0_bald4,mf1,r1_2⟩))
 ·refine rC (k92 x true _ hx_2) ?_
  obtain ⟨_,hv_3,h⟩:=bsome h
  have hf_4:=must_ok hv_3
  refine Au 6 (sT [pR 4 1,(5,jI r1_1)] [(1,.var 144 (catV (cv83 r0_HarnessBook3) [.d (.sl 1 (List.map e3 r0_bald3)),.d (.nilMap)]))] 2 0) ?_
  refine RW.nil (hQ_1 _ ?_)
  refine AW.seqK (fun K_5 hK_5=>?_)
  refine Sa (sT [pR 4 1,(5,jI r1_1),(14,.d (.bool (decide (r1_1≠0))))] [(1,.var 144 (catV (cv83 r0_HarnessBook3) [.d (.sl 1 (List.map e3 r0_bald3)),.d (.nilMap)]))] 2 0) ?_
  refine AW.cond rfl (fun hb_6=>?_) (fun hb_6=>False.elim (by rw [hf_4] at hb_6;cases hb_6))
  refine Sa (sT [(2,.d (.nilSl)),(3,jI r1_1)] [] 2 0) ?_
  obtain rfl:=Option.some.inj h
  exact AW.ret (hR_0 _ (retX (.cons (.tmp rfl) (.cons (.tmp rfl) .nil)) (Frz.tup_of ⟨.nil 1,.refl _,trivial⟩) rfl (by kernel_rfl) (by kernel_rfl)))
 ·refine rC (k92 x true _ hx_2) ?_
  refine Au 6 (sT [pR 4 1,(5,jI r1_2)] [(1,.var 144 (catV (cv83 r0_HarnessBook4) [.d (.sl 1 (List.map e3 r0_bald4)),.fmp (List.map m197_3 mf1)]))] 2 0) ?_
  refine RW.nil (hQ_1 _ ?_)
  refine AW.seqK (fun K_7 hK_7=>?_)
  refine Sa (sT [pR 4 1,(5,jI r1_2),(14,.d (.bool (decide (r1_2≠0))))] [(1,.var 144 (catV (cv83 r0_HarnessBook4) [.d (.sl 1 (List.map e3 r0_bald4)),.fmp (List.map m197_3 mf1)]))] 2 0) ?_
  refine AW.cond rfl (fun hb_8=>?_) (fun hb_8=>?_)
  ·have h:=ifT hb_8 h
   refine Sa (sT [(2,.d (.nilSl)),(3,jI r1_2)] [] 2 0) ?_
   obtain rfl:=Option.some.inj h
   exact AW.ret (hR_0 _ (retX (.cons (.tmp rfl) (.cons (.tmp rfl) .nil)) (Frz.tup_of ⟨.nil 1,.refl _,trivial⟩) rfl (by kernel_rfl) (by kernel_rfl)))
  ·have h:=ifF hb_8 h
   refine AW.skip (hK_7 _ ?_)
   refine AW.sdrwK fokW (fun Q_9 hQ_9=>?_)
   refine aX 2 (sT [pR 4 1,(17,.agg [.d (.sl 4 (List.map e65 r0_HarnessBook4.Hair.Hanks)),.d (.sl 3 (List.map e67 r0_HarnessBook4.Hair.Horses)),jI r0_HarnessBook4.Hair.Dark,jI r0_HarnessBook4.Hair.Near,jI r0_HarnessBook4.Hair.Match,.d (.sl 1 (List.map e51 r0_HarnessBook4.Needs)),.d (.sl 2 (List.map e33 r0_HarnessBook4.Stock)),jI r0_HarnessBook4.Pack,jI r0_HarnessBook4.Bad,.d (.sl 1 (List.map e3 r0_bald4)),.fmp (List.map m197_3 mf1)]),(18,.agg [.d (.sl 4 (List.map e65 r0_HarnessBook4.Hair.Hanks)),.d (.sl 3 (List.map e67 r0_HarnessBook4.Hair.Horses)),jI r0_HarnessBook4.Hair.Dark,jI r0_HarnessBook4.Hair.Near,jI r0_HarnessBook4.Hair.Match,.d (.sl 1 (List.map e51 r0_HarnessBook4.Needs)),.d (.sl 2 (List.map e33 r0_HarnessBook4.Stock)),jI r0_HarnessBook4.Pack,jI r0_HarnessBook4.Bad,.d (.sl 1 (List.map e3 r0_bald4)),.fmp (List.map m197_3 mf1)])] [(1,.var 144 (catV (cv83 r0_HarnessBook4) [.d (.sl 1 (List.map e3 r0_bald4)),.fmp (List.map m197_3 mf1)]))] 2 0) ?_
   obtain ⟨r0,hx_10,h⟩:=bsome h
   refine r_call trivial rfl (k94 r0_HarnessBook4 r0_bald4 mf1 _ hx_10) rfl rfl ?_
   obtain ⟨⟨surely,perhaps⟩,hx_11,h⟩:=bsome h
   refine r_call trivial rfl (k93 r0_HarnessBook4 r0_bald4 mf1 r0 _ hx_11) rfl rfl ?_
   refine aX 5 (sT [pR 4 1,(7,jI perhaps)] [(1,.var 144 (catV (cv83 r0_HarnessBook4) [.d (.sl 1 (List.map e3 r0_bald4)),.fmp (List.map m197_3 mf1)]))] 2 0) ?_
   refine Fi (sT [pR 4 1,(7,jI perhaps)] [(1,.var 144 (catV (cv83 r0_HarnessBook4) [.d (.sl 1 (List.map e3 r0_bald4)),.fmp (List.map m197_3 mf1)]))] 2 0) ?_
   refine hQ_9 _ ?_
   refine AW.srwK (fun Q_12 hQ_12=>?_)
   refine Au 2 (sT [(23,.agg [.d (.sl 4 (List.map e65 r0_HarnessBook4.Hair.Hanks)),.d (.sl 3 (List.map e67 r0_HarnessBook4.Hair.Horses)),jI r0_HarnessBook4.Hair.Dark,jI r0_HarnessBook4.Hair.Near,jI r0_HarnessBook4.Hair.Match,.d (.sl 1 (List.map e51 r0_HarnessBook4.Needs)),.d (.sl 2 (List.map e33 r0_HarnessBook4.Stock)),jI r0_HarnessBook4.Pack,jI r0_HarnessBook4.Bad,.d (.sl 1 (List.map e3 r0_bald4)),.fmp (List.map m197_3 mf1)]),(24,jI perhaps)] [] 2 0) ?_
   obtain ⟨r0_1,hx_13,h⟩:=bsome h
   refine rC (k95 r0_HarnessBook4 r0_bald4 mf1 perhaps _ hx_13) ?_
   refine Au 2 (sT [(2,.d (.sl 1 (List.map e3 r0_1))),(3,jI 0)] [] 2 0) ?_
   refine RW.nil (hQ_12 _ ?_)
   obtain rfl:=Option.some.inj h
   exact rT hR_0 (.cons (.tmp rfl) (.cons (.tmp rfl) .nil))
end Go.Proofs.Tm
namespace Go.Proofs.Tm
open Go Go.Abs Go.Proofs
def g42_r13 (r0_HarnessBook4:HarnessBook) (r0_bald4:(List Int)) (mf1:List (Harness_want×Int)):((Nat→Int))→(Int×Int)→Option (Ctl (Int×Int) (Unit)):=fun a (Low,High)=>(g94 r0_HarnessBook4 r0_bald4 mf1).bind fun r0=>(g97 r0_HarnessBook4 r0_bald4 mf1 a r0).bind fun r0_2=>(g95 r0_HarnessBook4 r0_bald4 mf1 r0_2).bind fun r0_1=>some (.next ((min Low (r0_1.length:Int)),(max High (r0_1.length:Int))))
def g42 (x:HarnessBook):Option (Span×Int):=(g92 x true).bind fun r_17=>match r_17 with | .next (r0_HarnessBook3,r0_bald3,r1_1)=>(must (decide (r1_1≠0))).bind fun _=>some ((Span.mk 0 0),r1_1) | .brk (r0_HarnessBook4,r0_bald4,mf1,r1_2)=>bif (decide (r1_2≠0)) then (some ((Span.mk 0 0),r1_2)) else ((g96 r0_HarnessBook4 r0_bald4 mf1).bind fun (o0_HarnessBook,o0_bald,mf1_1)=>(g125 (fun a s=>rndC (g42_r13 r0_HarnessBook4 r0_bald4 mf1) a s) o0_HarnessBook o0_bald mf1_1 (.next ((x.Needs.length:Int),0))).bind fun out_13=>match out_13 with | .next (Low,High)=>some ((Span.mk Low High),0) | .brk _=>none)
theorem k42 (x:HarnessBook) (r:Span×Int) (h:g42 x=some r):SCall Tryd.prog Gs 42 [.agg [.d (.sl 4 (List.map e65 x.Hair.Hanks)),.d (.sl 3 (List.map e67 x.Hair.Horses)),jI x.Hair.Dark,jI x.Hair.Near,jI x.Hair.Match,.d (.sl 1 (List.map e51 x.Needs)),.d (.sl 2 (List.map e33 x.Stock)),jI x.Pack,jI x.Bad]] [] 0 Fr.emp (match r with | (r0_5,r1_4)=>.tup [.agg [jI r0_5.Low,jI r0_5.High],jI r1_4]) [] 0 Fr.emp:=by
 unfold g42 at h
 refine SCall.mkK Tryd.func42 c42 rfl rfl (by kernel_rfl) (fun Q_0 hR_0 hN_0=>?_)
 refine Sa (sT [pR 1 0,pR 2 1] [(1,.var 33 [jI 0,jI 0]),(0,.var 83 (cv83 x))] 2 0) ?_
 refine AW.srwK (fun Q_1 hQ_1=>?_)
 refine Au 1 (sT [pR 1 0,pR 2 1,(10,.agg [.d (.sl 4 (List.map e65 x.Hair.Hanks)),.d (.sl 3 (List.map e67 x.Hair.Horses)),jI x.Hair.Dark,jI x.Hair.Near,jI x.Hair.Match,.d (.sl 1 (List.map e51 x.Needs)),.d (.sl 2 (List.map e33 x.Stock)),jI x.Pack,jI x.Bad])] [(1,.var 33 [jI 0,jI 0]),(0,.var 83 (cv83 x))] 2 0) ?_
 obtain ⟨r_17,hx_2,h⟩:=bsome h
 rcases r_17 with (⟨r0_HarnessBook3,r0_bald3,r1_1⟩ | (⟨r0_HarnessBook4,r0_bald4,mf1,r1_2⟩))
 ·refine rC (k92 x true _ hx_2) ?_
  obtain ⟨_,hv_3,h⟩:=bsome h
  have hf_4:=must_ok hv_3
  refine Au 6 (sT [pR 1 0,pR 2 1,pR 4 2,(5,jI r1_1)] [(2,.var 144 (catV (cv83 r0_HarnessBook3) [.d (.sl 1 (List.map e3 r0_bald3)),.d (.nilMap)])),(1,.var 33 [jI 0,jI 0]),(0,.var 83 (cv83 x))] 3 0) ?_
  refine RW.nil (hQ_1 _ ?_)
  refine AW.seqK (fun K_5 hK_5=>?_)
  refine Sa (sT [pR 1 0,pR 2 1,pR 4 2,(5,jI r1_1),(15,.d (.bool (decide (r1_1≠0))))] [(2,.var 144 (catV (cv83 r0_HarnessBook3) [.d (.sl 1 (List.map e3 r0_bald3)),.d (.nilMap)])),(1,.var 33 [jI 0,jI 0]),(0,.var 83 (cv83 x))] 3 0) ?_
  refine AW.cond rfl (fun hb_6=>?_) (fun hb_6=>False.elim (by rw [hf_4] at hb_6;cases hb_6))
  refine Sa (sT [pR 2 1,(3,jI r1_1)] [(1,.var 33 [jI 0,jI 0])] 3 0) ?_
  obtain rfl:=Option.some.inj h
  exact rT hR_0 (.cons (.agg rfl rfl (Nat.le_of_ble_eq_true rfl)) (.cons (.tmp rfl) .nil))
 ·refine rC (k92 x true _ hx_2) ?_
  refine Au 6 (sT [pR 1 0,pR 2 1,pR 4 2,(5,jI r1_2)] [(2,.var 144 (catV (cv83 r0_HarnessBook4) [.d (.sl 1 (List.map e3 r0_bald4)),.fmp (List.map m197_3 mf1)])),(1,.var 33 [jI 0,jI 0]),(0,.var 83 (cv83 x))] 3 0) ?_
  refine RW.nil (hQ_1 _ ?_)
  refine AW.seqK (fun K_7 hK_7=>?_)
  refine Sa (sT [pR 1 0,pR 2 1,pR 4 2,(5,jI r1_2),(15,.d (.bool (decide (r1_2≠0))))] [(2,.var 144 (catV (cv83 r0_HarnessBook4) [.d (.sl 1 (List.map e3 r0_bald4)),.fmp (List.map m197_3 mf1)])),(1,.var 33 [jI 0,jI 0]),(0,.var 83 (cv83 x))] 3 0) ?_
  refine AW.cond rfl (fun hb_8=>?_) (fun hb_8=>?_)
  ·have h:=ifT hb_8 h
   refine Sa (sT [pR 2 1,(3,jI r1_2)] [(1,.var 33 [jI 0,jI 0])] 3 0) ?_
   obtain rfl:=Option.some.inj h
   exact rT hR_0 (.cons (.agg rfl rfl (Nat.le_of_ble_eq_true rfl)) (.cons (.tmp rfl) .nil))
  ·have h:=ifF hb_8 h
   refine AW.skip (hK_7 _ ?_)
   refine AW.srwK (fun Q_9 hQ_9=>?_)
   refine Au 2 (sT [pR 2 1,pR 4 2,(19,.d (.sl 1 (List.map e51 x.Needs)))] [(2,.var 144 (catV (cv83 r0_HarnessBook4) [.d (.sl 1 (List.map e3 r0_bald4)),.fmp (List.map m197_3 mf1)])),(1,.var 33 [jI 0,jI 0])] 3 0) ?_
   refine rL rfl ?_
   refine Au 3 (sT [pR 2 1,pR 4 2,pR 6 3] [(3,.var 33 [jI (x.Needs.length:Int),jI 0]),(2,.var 144 (catV (cv83 r0_HarnessBook4) [.d (.sl 1 (List.map e3 r0_bald4)),.fmp (List.map m197_3 mf1)])),(1,.var 33 [jI 0,jI 0])] 4 0) ?_
   refine RW.nil (hQ_9 _ ?_)
   refine AW.seqK fun K_10 hK_10=>AW.srwK fun Q_11 hQ_11=>?_
   refine Au 1 (sT [pR 2 1,pR 4 2,pR 6 3,(22,.agg [.d (.sl 4 (List.map e65 r0_HarnessBook4.Hair.Hanks)),.d (.sl 3 (List.map e67 r0_HarnessBook4.Hair.Horses)),jI r0_HarnessBook4.Hair.Dark,jI r0_HarnessBook4.Hair.Near,jI r0_HarnessBook4.Hair.Match,.d (.sl 1 (List.map e51 r0_HarnessBook4.Needs)),.d (.sl 2 (List.map e33 r0_HarnessBook4.Stock)),jI r0_HarnessBook4.Pack,jI r0_HarnessBook4.Bad,.d (.sl 1 (List.map e3 r0_bald4)),.fmp (List.map m197_3 mf1)])] [(3,.var 33 [jI (x.Needs.length:Int),jI 0]),(2,.var 144 (catV (cv83 r0_HarnessBook4) [.d (.sl 1 (List.map e3 r0_bald4)),.fmp (List.map m197_3 mf1)])),(1,.var 33 [jI 0,jI 0])] 4 0) ?_
   obtain ⟨⟨o0_HarnessBook,o0_bald,mf1_1⟩,hx_12,h⟩:=bsome h
   refine RW.one fokW (r_callS (zr:=[]) [] trivial rfl (k96 r0_HarnessBook4 r0_bald4 mf1 _ hx_12) trivial rfl rfl ⟨.refl _,trivial⟩ rfl rfl rfl (r_end ?_))
   refine RW.nil (hQ_11 _ ?_)
   refine AW.block ?_
   obtain ⟨out_13,hx_13,h⟩:=bsome h
   refine AW.rfX (fun (⟨Low,High⟩:Int×Int)=>[(5,.dm),(3,.var 33 [jI Low,jI High]),(2,.var 144 (catV (cv83 r0_HarnessBook4) [.d (.sl 1 (List.map e3 r0_bald4)),.fmp (List.map m197_3 mf1)])),(1,.var 33 [jI 0,jI 0])]) (fun (_:Unit)=>[]) (fun _=>some .ret) (g42_r13 r0_HarnessBook4 r0_bald4 mf1) (fun (a:(Nat→Int))=>[.agg [jI (a 0),jI (a 1),jI (a 2)]]) (s0:=((x.Needs.length:Int),0)) (out:=out_13) [pR 2 1,pR 4 2,pR 6 3] [(3,.var 33 [jI (x.Needs.length:Int),jI 0]),(2,.var 144 (catV (cv83 r0_HarnessBook4) [.d (.sl 1 (List.map e3 r0_bald4)),.fmp (List.map m197_3 mf1)])),(1,.var 33 [jI 0,jI 0])] [4] rfl (.clo _ _ _) (by kernel_rfl) (by kernel_rfl) (fun fr_ hY_13=>k125 fr_ _ (fun a s s2 b h=>hY_13 a s s2 b h) o0_HarnessBook o0_bald mf1_1 (.next ((x.Needs.length:Int),0)) _ hx_13) (by kernel_rfl) ⟨rfl,trivial⟩ rfl ⟨rfl,rfl⟩ rfl rfl (fun _=>rfl) (fun _=>rfl) (fun a_13 s_13 c_13 h l_13=>?_) (fun _=>rfl) ?_
   ·have ⟨a,e_13⟩:∃ x,x=a_13:=⟨_,rfl⟩
    subst e_13
    obtain ⟨Low,High⟩:=s_13
    unfold g42_r13 at h
    refine AW.ra (fokR l_13) [] (sT [pR 4 2,pR 6 3,pR 7 6] [(6,.var 154 [jI (a 0),jI (a 1),jI (a 2)]),(5,.dm),(3,.var 33 [jI Low,jI High]),(2,.var 144 (catV (cv83 r0_HarnessBook4) [.d (.sl 1 (List.map e3 r0_bald4)),.fmp (List.map m197_3 mf1)])),(1,.var 33 [jI 0,jI 0])] 7 6) (by kernel_rfl) ?_
    refine AW.block ?_
    refine AW.sdrwK (fokR l_13) (fun Q_14 hQ_14=>?_)
    refine aX 4 (sT [pR 6 3,(25,.agg [.d (.sl 4 (List.map e65 r0_HarnessBook4.Hair.Hanks)),.d (.sl 3 (List.map e67 r0_HarnessBook4.Hair.Horses)),jI r0_HarnessBook4.Hair.Dark,jI r0_HarnessBook4.Hair.Near,jI r0_HarnessBook4.Hair.Match,.d (.sl 1 (List.map e51 r0_HarnessBook4.Needs)),.d (.sl 2 (List.map e33 r0_HarnessBook4.Stock)),jI r0_HarnessBook4.Pack,jI r0_HarnessBook4.Bad,.d (.sl 1 (List.map e3 r0_bald4)),.fmp (List.map m197_3 mf1)]),(26,.agg [.d (.sl 4 (List.map e65 r0_HarnessBook4.Hair.Hanks)),.d (.sl 3 (List.map e67 r0_HarnessBook4.Hair.Horses)),jI r0_HarnessBook4.Hair.Dark,jI r0_HarnessBook4.Hair.Near,jI r0_HarnessBook4.Hair.Match,.d (.sl 1 (List.map e51 r0_HarnessBook4.Needs)),.d (.sl 2 (List.map e33 r0_HarnessBook4.Stock)),jI r0_HarnessBook4.Pack,jI r0_HarnessBook4.Bad,.d (.sl 1 (List.map e3 r0_bald4)),.fmp (List.map m197_3 mf1)]),(27,.agg [jI (a 0),jI (a 1),jI (a 2)]),(28,.agg [.d (.sl 4 (List.map e65 r0_HarnessBook4.Hair.Hanks)),.d (.sl 3 (List.map e67 r0_HarnessBook4.Hair.Horses)),jI r0_HarnessBook4.Hair.Dark,jI r0_HarnessBook4.Hair.Near,jI r0_HarnessBook4.Hair.Match,.d (.sl 1 (List.map e51 r0_HarnessBook4.Needs)),.d (.sl 2 (List.map e33 r0_HarnessBook4.Stock)),jI r0_HarnessBook4.Pack,jI r0_HarnessBook4.Bad,.d (.sl 1 (List.map e3 r0_bald4)),.fmp (List.map m197_3 mf1)])] [(6,.var 154 [jI (a 0),jI (a 1),jI (a 2)]),(5,.dm),(3,.var 33 [jI Low,jI High]),(2,.var 144 (catV (cv83 r0_HarnessBook4) [.d (.sl 1 (List.map e3 r0_bald4)),.fmp (List.map m197_3 mf1)])),(1,.var 33 [jI 0,jI 0])] 7 6) ?_
    obtain ⟨r0,hx_15,h⟩:=bsome h
    refine r_call trivial rfl (k94 r0_HarnessBook4 r0_bald4 mf1 _ hx_15) rfl rfl ?_
    obtain ⟨r0_2,hx_16,h⟩:=bsome h
    refine r_call trivial rfl (k97 r0_HarnessBook4 r0_bald4 mf1 a r0 _ hx_16) rfl rfl ?_
    obtain ⟨r0_1,hx_17,h⟩:=bsome h
    refine r_call trivial rfl (k95 r0_HarnessBook4 r0_bald4 mf1 r0_2 _ hx_17) rfl rfl ?_
    refine r_lenX trivial rfl lenm ?_
    refine aX 1 (sT [pR 6 3,(8,jI (r0_1.length:Int))] [(6,.var 154 [jI (a 0),jI (a 1),jI (a 2)]),(5,.dm),(3,.var 33 [jI Low,jI High]),(2,.var 144 (catV (cv83 r0_HarnessBook4) [.d (.sl 1 (List.map e3 r0_bald4)),.fmp (List.map m197_3 mf1)])),(1,.var 33 [jI 0,jI 0])] 7 6) ?_
    refine Fi (sT [pR 6 3,(8,jI (r0_1.length:Int))] [(5,.dm),(3,.var 33 [jI Low,jI High]),(2,.var 144 (catV (cv83 r0_HarnessBook4) [.d (.sl 1 (List.map e3 r0_bald4)),.fmp (List.map m197_3 mf1)])),(1,.var 33 [jI 0,jI 0])] 7 6) ?_
    refine hQ_14 _ ?_
    refine AW.ra (fokR l_13) [] (sT [] [(3,.var 33 [jI (min Low (r0_1.length:Int)),jI (max High (r0_1.length:Int))]),(5,.dm),(2,.var 144 (catV (cv83 r0_HarnessBook4) [.d (.sl 1 (List.map e3 r0_bald4)),.fmp (List.map m197_3 mf1)])),(1,.var 33 [jI 0,jI 0])] 7 6) (by kernel_rfl) ?_
    obtain rfl:=Option.some.inj h
    exact ⟨(sT [] [(5,.dm),(3,.var 33 [jI (min Low (r0_1.length:Int)),jI (max High (r0_1.length:Int))]),(2,.var 144 (catV (cv83 r0_HarnessBook4) [.d (.sl 1 (List.map e3 r0_bald4)),.fmp (List.map m197_3 mf1)])),(1,.var 33 [jI 0,jI 0])] 6 6),Can.kp (by kernel_rfl),rdX trivial rfl (by kernel_rfl) (by kernel_rfl)⟩
   ·rcases out_13 with ⟨Low,High⟩ | _
    ·refine hK_10 _ ?_
     refine Sa ⟨[pR 2 1,(3,jI 0)],[(1,.var 33 [jI Low,jI High]),(5,.dm)],6,Fr.emp,[5],0⟩ ?_
     obtain rfl:=Option.some.inj h
     exact rT hR_0 (.cons (.agg rfl rfl (Nat.le_of_ble_eq_true rfl)) (.cons (.tmp rfl) .nil))
    ·cases h
def g98 (x:HarnessBook) (n:Int):Option Bool:=(g107 n 0 (wr ((x.Stock.length:Int) - 1))).bind fun r0=>some r0
theorem k98 (x:HarnessBook) (n:Int) (r:Bool) (h:g98 x n=some r):SCall Tryd.prog Gs 98 [.agg [.d (.sl 4 (List.map e65 x.Hair.Hanks)),.d (.sl 3 (List.map e67 x.Hair.Horses)),jI x.Hair.Dark,jI x.Hair.Near,jI x.Hair.Match,.d (.sl 1 (List.map e51 x.Needs)),.d (.sl 2 (List.map e33 x.Stock)),jI x.Pack,jI x.Bad],jI n] [] 0 Fr.emp (.d (.bool r)) [] 0 Fr.emp:=by
 unfold g98 at h
 refine SCall.mkK Tryd.func98 c98 rfl rfl (by kernel_rfl) (fun Q_0 hR_0 hN_0=>?_)
 refine Sa (sT [(1,jI n),pR 2 0] [(0,.var 83 (cv83 x))] 1 0) ?_
 refine AW.srwK (fun Q_1 hQ_1=>?_)
 refine Au 3 (sT [(5,jI n),(7,.d (.sl 2 (List.map e33 x.Stock)))] [] 1 0) ?_
 refine rL rfl ?_
 refine Au 1 (sT [(5,jI n),(9,jI (wr ((x.Stock.length:Int) - 1)))] [] 1 0) ?_
 obtain ⟨r0,hx_2,h⟩:=bsome h
 refine rC (k107 n 0 (wr ((x.Stock.length:Int) - 1)) _ hx_2) ?_
 refine Au 1 (sT [(4,.d (.bool r0))] [] 1 0) ?_
 refine RW.nil (hQ_1 _ ?_)
 obtain rfl:=Option.some.inj h
 exact rT hR_0 (.cons (.tmp rfl) .nil)
def g100 :Option Unit:=some ()
theorem k100  (r:Unit) (h:g100=some r):SCall Tryd.prog Gs 100 [] [] 0 Fr.emp (.agg [.d (.fn 131)]) [] 0 Fr.emp:=by
 unfold g100 at h
 refine SCall.mkK Tryd.func100 c100 rfl rfl (by kernel_rfl) (fun Q_0 hR_0 hN_0=>?_)
 refine Sa (sT [pR 0 0] [(0,.var 159 [.d (.nilFn)])] 1 0) ?_
 refine Sa (sT [pR 0 0] [(0,.var 159 [.d (.fn 131)])] 1 0) ?_
 obtain rfl:=Option.some.inj h
 exact rT hR_0 (.cons (.agg rfl rfl (Nat.le_of_ble_eq_true rfl)) .nil)
def g138_3:Int→Int→Int→Option Int:=fun v p all=>some (wr (all+p))
def g138 (l:(List Int)):Option Int:=(eachS g138_3 l 0 0).bind fun all=>some all
theorem k138 (l:(List Int)) (r:Int) (h:g138 l=some r):SCall Tryd.prog Gs 138 [.d (.sl 1 (List.map e3 l))] [] 0 Fr.emp (jI r) [] 0 Fr.emp:=by
 unfold g138 at h
 refine SCall.mkK Tryd.func138 c138 rfl rfl (by kernel_rfl) (fun Q_0 hR_0 hN_0=>?_)
 refine Sa (sT [(0,.d (.sl 1 (List.map e3 l)))] [] 0 0) ?_
 refine Sa (sT [(0,.d (.sl 1 (List.map e3 l))),(3,jI 0)] [] 0 0) ?_
 refine AW.seqK fun K_1 hK_1=>AW.srwK fun Q_2 hQ_2=>?_
 refine Au 1 (sT [(3,jI 0),(6,.d (.sl 1 (List.map e3 l)))] [] 0 0) ?_
 refine rL rfl ?_
 refine Au 1 (sT [(3,jI 0),(6,.d (.sl 1 (List.map e3 l))),(7,jI (l.length:Int)),(8,jI 0)] [] 0 0) ?_
 refine RW.nil (hQ_2 _ ?_)
 refine AW.block ?_
 refine AW.sln (t:=6) rfl (fun hN_3=>?_)
 rw [List.length_map] at hN_3
 obtain ⟨out_3,hx_3,h⟩:=bsome h
 refine AW.evSK (fun (v:Int) (all:Int)=>(sT [(3,jI all),(6,.d (.sl 1 (List.map e3 l))),(7,jI (l.length:Int)),(8,jI v)] [] 0 0)) g138_3 hx_3 (Can.kp (by kernel_rfl)) (fun v p all hi_3 hl_3 hp_3 c_3 h K_3 hK_3=>?_) (fun v all hi_3 hl_3 hout=>?_)
 ·unfold g138_3 at h
  refine Sa (sT [(3,jI all),(6,.d (.sl 1 (List.map e3 l))),(7,jI (l.length:Int)),(8,jI v),(9,.d (.bool (decide (v<(l.length:Int)))))] [] 0 0) ?_
  refine AW.seqK (fun K_4 hK_4=>?_)
  refine AW.cond rfl (fun hb_5=>?_) (fun hb_5=>False.elim (by have:=of_decide_eq_false hb_5;omega))
  refine AW.skip (hK_4 _ ?_)
  refine AW.seqK (fun K_6 hK_6=>?_)
  refine AW.block ?_
  refine AW.srwK (fun Q_7 hQ_7=>?_)
  refine RW.one fokW (r_iaD trivial rfl rfl hi_3 (row:=e3 p) (mapget hp_3) (r_end ?_))
  refine Au 2 (sT [(3,jI all),(5,jI p),(6,.d (.sl 1 (List.map e3 l))),(7,jI (l.length:Int)),(8,jI v)] [] 0 0) ?_
  refine RW.nil (hQ_7 _ ?_)
  refine Ra (sT [(3,jI (wr (all+p))),(6,.d (.sl 1 (List.map e3 l))),(7,jI (l.length:Int)),(8,jI v)] [] 0 0) ?_
  refine hK_6 _ ?_
  refine Ra (sT [(3,jI (wr (all+p))),(6,.d (.sl 1 (List.map e3 l))),(7,jI (l.length:Int)),(8,jI (wr (v+1)))] [] 0 0) ?_
  obtain rfl:=Option.some.inj h
  have ew:wr (v+1)=v+1:=inext (N:=(l.length:Int)) (by omega) (by omega) (by omega)
  rw [ew]
  exact hK_3 _ (Can.kp (by kernel_rfl))
 ·subst hout
  refine Sa (sT [(3,jI all),(6,.d (.sl 1 (List.map e3 l))),(7,jI (l.length:Int)),(8,jI v),(9,.d (.bool (decide (v<(l.length:Int)))))] [] 0 0) ?_
  refine AW.seqK (fun K_8 hK_8=>?_)
  refine AW.cond rfl (fun hb_9=>False.elim (by have:=of_decide_eq_true hb_9;omega)) (fun hb_9=>?_)
  refine AW.exit ?_
  refine hK_1 _ ?_
  refine Sa (sT [(2,jI all)] [] 0 0) ?_
  obtain rfl:=Option.some.inj h
  exact rT hR_0 (.cons (.tmp rfl) .nil)
def g130_3 (b_HarnessBook:HarnessBook) (b_bald:(List Int)) (mf:List (Harness_want×Int)) (kind:Int):Int→(List Int)→(List Int)→Option (List Int):=fun v p l=>(g128 b_HarnessBook b_bald mf v).bind fun r0_1=>bif r0_1 then ((g129 b_HarnessBook b_bald mf v).bind fun r0_1_1=>(ixN 3 kind).bind fun j=>(appL 8 l [(r0_1_1 j)]).bind fun l1=>some l1) else (some l)
def g130 (b_HarnessBook:HarnessBook) (b_bald:(List Int)) (mf:List (Harness_want×Int)) (kind:Int):Option Int:=(eachS (g130_3 b_HarnessBook b_bald mf kind) b_HarnessBook.Needs 0 ([]:List Int)).bind fun l=>(g138 l).bind fun r0=>some r0
theorem k130 (b_HarnessBook:HarnessBook) (b_bald:(List Int)) (mf:List (Harness_want×Int)) (kind:Int) (r:Int) (h:g130 b_HarnessBook b_bald mf kind=some r):SCall Tryd.prog Gs 130 [.agg [.d (.sl 4 (List.map e65 b_HarnessBook.Hair.Hanks)),.d (.sl 3 (List.map e67 b_HarnessBook.Hair.Horses)),jI b_HarnessBook.Hair.Dark,jI b_HarnessBook.Hair.Near,jI b_HarnessBook.Hair.Match,.d (.sl 1 (List.map e51 b_HarnessBook.Needs)),.d (.sl 2 (List.map e33 b_HarnessBook.Stock)),jI b_HarnessBook.Pack,jI b_HarnessBook.Bad,.d (.sl 1 (List.map e3 b_bald)),.fmp (List.map m197_3 mf)],jI kind] [] 0 Fr.emp (jI r) [] 0 Fr.emp:=by
 unfold g130 at h
 refine SCall.mkK Tryd.func130 c130 rfl rfl (by kernel_rfl) (fun Q_0 hR_0 hN_0=>?_)
 refine Sa (sT [(1,jI kind),pR 2 0] [(0,.var 144 (catV (cv83 b_HarnessBook) [.d (.sl 1 (List.map e3 b_bald)),.fmp (List.map m197_3 mf)]))] 1 0) ?_
 refine Sa (sT [(1,jI kind),pR 2 0,(5,.d (.nilSl))] [(0,.var 144 (catV (cv83 b_HarnessBook) [.d (.sl 1 (List.map e3 b_bald)),.fmp (List.map m197_3 mf)]))] 1 0) ?_
 refine AW.seqK fun K_1 hK_1=>AW.srwK fun Q_2 hQ_2=>?_
 refine Au 3 (sT [(1,jI kind),pR 2 0,(5,.d (.nilSl)),(9,.d (.sl 1 (List.map e51 b_HarnessBook.Needs)))] [(0,.var 144 (catV (cv83 b_HarnessBook) [.d (.sl 1 (List.map e3 b_bald)),.fmp (List.map m197_3 mf)]))] 1 0) ?_
 refine rL rfl ?_
 refine Au 1 (sT [(1,jI kind),pR 2 0,(5,.d (.nilSl)),(10,jI (b_HarnessBook.Needs.length:Int)),(11,jI 0)] [(0,.var 144 (catV (cv83 b_HarnessBook) [.d (.sl 1 (List.map e3 b_bald)),.fmp (List.map m197_3 mf)]))] 1 0) ?_
 refine RW.nil (hQ_2 _ ?_)
 refine AW.block ?_
 refine AW.slh (r:=0) (off:=5) rfl rfl (fun hN_3=>?_)
 rw [List.length_map] at hN_3
 obtain ⟨out_3,hx_3,h⟩:=bsome h
 refine AW.evSK (fun (v:Int) (l:List Int)=>(sT [(1,jI kind),pR 2 0,(5,.own 1 (List.map e3 l).length),(10,jI (b_HarnessBook.Needs.length:Int)),(11,jI v)] [(1,.row 3 1 (List.map e3 l)),(0,.var 144 (catV (cv83 b_HarnessBook) [.d (.sl 1 (List.map e3 b_bald)),.fmp (List.map m197_3 mf)]))] 2 0)) (g130_3 b_HarnessBook b_bald mf kind) hx_3 (Can.trans (Can.thawT 5 3 1 rfl rfl) (Can.kp (by kernel_rfl))) (fun v p l hi_3 hl_3 hp_3 c_3 h K_3 hK_3=>?_) (fun v l hi_3 hl_3 hout=>?_)
 ·unfold g130_3 at h
  refine Sa (sT [(1,jI kind),pR 2 0,(5,.own 1 (List.map e3 l).length),(10,jI (b_HarnessBook.Needs.length:Int)),(11,jI v),(12,.d (.bool (decide (v<(b_HarnessBook.Needs.length:Int)))))] [(1,.row 3 1 (List.map e3 l)),(0,.var 144 (catV (cv83 b_HarnessBook) [.d (.sl 1 (List.map e3 b_bald)),.fmp (List.map m197_3 mf)]))] 2 0) ?_
  refine AW.seqK (fun K_4 hK_4=>?_)
  refine AW.cond rfl (fun hb_5=>?_) (fun hb_5=>False.elim (by have:=of_decide_eq_false hb_5;omega))
  refine AW.skip (hK_4 _ ?_)
  refine AW.seqK (fun K_6 hK_6=>?_)
  refine AW.block ?_
  refine Sa (sT [(1,jI kind),pR 2 0,(5,.own 1 (List.map e3 l).length),(6,jI v),(10,jI (b_HarnessBook.Needs.length:Int)),(11,jI v)] [(1,.row 3 1 (List.map e3 l)),(0,.var 144 (catV (cv83 b_HarnessBook) [.d (.sl 1 (List.map e3 b_bald)),.fmp (List.map m197_3 mf)]))] 2 0) ?_
  refine AW.srwK (fun Q_7 hQ_7=>?_)
  refine Au 2 (sT [(1,jI kind),pR 2 0,(5,.own 1 (List.map e3 l).length),(6,jI v),(10,jI (b_HarnessBook.Needs.length:Int)),(11,jI v),(14,.agg [.d (.sl 4 (List.map e65 b_HarnessBook.Hair.Hanks)),.d (.sl 3 (List.map e67 b_HarnessBook.Hair.Horses)),jI b_HarnessBook.Hair.Dark,jI b_HarnessBook.Hair.Near,jI b_HarnessBook.Hair.Match,.d (.sl 1 (List.map e51 b_HarnessBook.Needs)),.d (.sl 2 (List.map e33 b_HarnessBook.Stock)),jI b_HarnessBook.Pack,jI b_HarnessBook.Bad,.d (.sl 1 (List.map e3 b_bald)),.fmp (List.map m197_3 mf)]),(15,jI v)] [(1,.row 3 1 (List.map e3 l)),(0,.var 144 (catV (cv83 b_HarnessBook) [.d (.sl 1 (List.map e3 b_bald)),.fmp (List.map m197_3 mf)]))] 2 0) ?_
  obtain ⟨r0_1,hx_8,h⟩:=bsome h
  refine rC (k128 b_HarnessBook b_bald mf v _ hx_8) ?_
  refine RW.nil (hQ_7 _ ?_)
  refine AW.cond rfl (fun hb_9=>?_) (fun hb_9=>?_)
  ·have h:=ifT hb_9 h
   refine AW.rw ?_
   refine Au 3 (sT [(1,jI kind),pR 2 0,(10,jI (b_HarnessBook.Needs.length:Int)),(11,jI v),(17,.own 1 (List.map e3 l).length),(18,.agg [.d (.sl 4 (List.map e65 b_HarnessBook.Hair.Hanks)),.d (.sl 3 (List.map e67 b_HarnessBook.Hair.Horses)),jI b_HarnessBook.Hair.Dark,jI b_HarnessBook.Hair.Near,jI b_HarnessBook.Hair.Match,.d (.sl 1 (List.map e51 b_HarnessBook.Needs)),.d (.sl 2 (List.map e33 b_HarnessBook.Stock)),jI b_HarnessBook.Pack,jI b_HarnessBook.Bad,.d (.sl 1 (List.map e3 b_bald)),.fmp (List.map m197_3 mf)]),(19,jI v)] [(1,.row 3 1 (List.map e3 l)),(0,.var 144 (catV (cv83 b_HarnessBook) [.d (.sl 1 (List.map e3 b_bald)),.fmp (List.map m197_3 mf)]))] 2 0) ?_
   obtain ⟨r0_1_1,hx_11,h⟩:=bsome h
   refine rC (k129 b_HarnessBook b_bald mf v _ hx_11) ?_
   refine Au 1 (sT [(1,jI kind),pR 2 0,(10,jI (b_HarnessBook.Needs.length:Int)),(11,jI v),(17,.own 1 (List.map e3 l).length),(20,.agg [jI (r0_1_1 0),jI (r0_1_1 1),jI (r0_1_1 2)]),(21,jI kind)] [(1,.row 3 1 (List.map e3 l)),(0,.var 144 (catV (cv83 b_HarnessBook) [.d (.sl 1 (List.map e3 b_bald)),.fmp (List.map m197_3 mf)]))] 2 0) ?_
   obtain ⟨j,hv_12,h⟩:=bsome h
   refine RW.one fokW (r_idx trivial rfl rfl (ixN_ok hv_12).1 (ixN_ok hv_12).2.1 (u:=jI (r0_1_1 j)) (agt (f:=fun k=>jI (r0_1_1 k)) hv_12) (r_end ?_))
   refine Au 1 (sT [(1,jI kind),pR 2 0,(10,jI (b_HarnessBook.Needs.length:Int)),(11,jI v),(17,.own 1 (List.map e3 l).length),(23,.own 2 (List.map e3 [(r0_1_1 j)]).length)] [(2,.row 3 1 (List.map e3 [(r0_1_1 j)])),(1,.row 3 1 (List.map e3 l)),(0,.var 144 (catV (cv83 b_HarnessBook) [.d (.sl 1 (List.map e3 b_bald)),.fmp (List.map m197_3 mf)]))] 3 0) ?_
   obtain ⟨l1,hv_13,h⟩:=bsome h
   refine RW.one fokW (r_apO trivial rfl rfl rfl rfl rfl rfl (apz hv_13 e3) (apr hv_13 e3) (r_end ?_))
   refine Au 1 (sT [(1,jI kind),pR 2 0,(5,.own 1 (List.map e3 l1).length),(10,jI (b_HarnessBook.Needs.length:Int)),(11,jI v)] [(1,.row 3 1 (List.map e3 l1)),(0,.var 144 (catV (cv83 b_HarnessBook) [.d (.sl 1 (List.map e3 b_bald)),.fmp (List.map m197_3 mf)]))] 3 0) ?_
   refine RW.nil ?_
   refine hK_6 _ ?_
   refine Ra (sT [(1,jI kind),pR 2 0,(5,.own 1 (List.map e3 l1).length),(10,jI (b_HarnessBook.Needs.length:Int)),(11,jI (wr (v+1)))] [(1,.row 3 1 (List.map e3 l1)),(0,.var 144 (catV (cv83 b_HarnessBook) [.d (.sl 1 (List.map e3 b_bald)),.fmp (List.map m197_3 mf)]))] 3 0) ?_
   obtain rfl:=Option.some.inj h
   have ew:wr (v+1)=v+1:=inext (N:=(b_HarnessBook.Needs.length:Int)) (by omega) (by omega) (by omega)
   rw [ew]
   exact hK_3 _ (Can.kp (by kernel_rfl))
  ·have h:=ifF hb_9 h
   refine AW.skip (hK_6 _ ?_)
   refine Ra (sT [(1,jI kind),pR 2 0,(5,.own 1 (List.map e3 l).length),(10,jI (b_HarnessBook.Needs.length:Int)),(11,jI (wr (v+1)))] [(1,.row 3 1 (List.map e3 l)),(0,.var 144 (catV (cv83 b_HarnessBook) [.d (.sl 1 (List.map e3 b_bald)),.fmp (List.map m197_3 mf)]))] 2 0) ?_
   obtain rfl:=Option.some.inj h
   have ew:wr (v+1)=v+1:=inext (N:=(b_HarnessBook.Needs.length:Int)) (by omega) (by omega) (by omega)
   rw [ew]
   exact hK_3 _ (Can.kp (by kernel_rfl))
 ·subst hout
  refine Sa (sT [(1,jI kind),pR 2 0,(5,.own 1 (List.map e3 l).length),(10,jI (b_HarnessBook.Needs.length:Int)),(11,jI v),(12,.d (.bool (decide (v<(b_HarnessBook.Needs.length:Int)))))] [(1,.row 3 1 (List.map e3 l)),(0,.var 144 (catV (cv83 b_HarnessBook) [.d (.sl 1 (List.map e3 b_bald)),.fmp (List.map m197_3 mf)]))] 2 0) ?_
  refine AW.seqK (fun K_14 hK_14=>?_)
  refine AW.cond rfl (fun hb_15=>False.elim (by have:=of_decide_eq_true hb_15;omega)) (fun hb_15=>?_)
  refine AW.exit ?_
  refine hK_1 _ ?_
  refine AW.srwK (fun Q_16 hQ_16=>?_)
  refine Au 1 (sT [(26,.own 1 (List.map e3 l).length)] [(1,.row 3 1 (List.map e3 l))] 2 0) ?_
  obtain ⟨r0,hx_17,h⟩:=bsome h
  refine RW.one fokW (r_callF (rs:=[(1,.row 3 1 (List.map e3 l))]) trivial rfl (k138 l _ hx_17) ⟨rfl,trivial⟩ ⟨(.own rfl rfl),trivial⟩ rfl rfl rfl (r_end ?_))
  refine Au 1 (sT [(4,jI r0)] [] 2 0) ?_
  refine RW.nil (hQ_16 _ ?_)
  obtain rfl:=Option.some.inj h
  exact rT hR_0 (.cons (.tmp rfl) .nil)
def g131 (s:Span):Option Int:=some s.High
theorem k131 (s:Span) (r:Int) (h:g131 s=some r):SCall Tryd.prog Gs 131 [.agg [jI s.Low,jI s.High]] [] 0 Fr.emp (jI r) [] 0 Fr.emp:=by
 unfold g131 at h
 refine SCall.mkK Tryd.func131 c131 rfl rfl (by kernel_rfl) (fun Q_0 hR_0 hN_0=>?_)
 refine Sa (sT [pR 1 0] [(0,.var 33 [jI s.Low,jI s.High])] 1 0) ?_
 refine Sa (sT [(2,jI s.High)] [] 1 0) ?_
 obtain rfl:=Option.some.inj h
 exact rT hR_0 (.cons (.tmp rfl) .nil)
def g99 (b_HarnessBook:HarnessBook) (b_bald:(List Int)) (mf:List (Harness_want×Int)) (kind:Int):Option Int:=(g130 b_HarnessBook b_bald mf kind).bind fun r0_2=>(ixL b_HarnessBook.Stock kind).bind fun p=>(g131 p).bind fun r0=>some (max 0 (wr (r0_2 - r0)))
theorem k99 (b_HarnessBook:HarnessBook) (b_bald:(List Int)) (mf:List (Harness_want×Int)) (kind:Int) (r:Int) (h:g99 b_HarnessBook b_bald mf kind=some r):SCall Tryd.prog Gs 99 [.agg [.d (.sl 4 (List.map e65 b_HarnessBook.Hair.Hanks)),.d (.sl 3 (List.map e67 b_HarnessBook.Hair.Horses)),jI b_HarnessBook.Hair.Dark,jI b_HarnessBook.Hair.Near,jI b_HarnessBook.Hair.Match,.d (.sl 1 (List.map e51 b_HarnessBook.Needs)),.d (.sl 2 (List.map e33 b_HarnessBook.Stock)),jI b_HarnessBook.Pack,jI b_HarnessBook.Bad,.d (.sl 1 (List.map e3 b_bald)),.fmp (List.map m197_3 mf)],jI kind,.agg [.d (.fn 131)]] [] 0 Fr.emp (jI r) [] 0 Fr.emp:=by
 unfold g99 at h
 refine SCall.mkK Tryd.func99 c99 rfl rfl (by kernel_rfl) (fun Q_0 hR_0 hN_0=>?_)
 refine Sa (sT [(1,jI kind),pR 3 0,pR 5 1] [(1,.var 159 [.d (.fn 131)]),(0,.var 144 (catV (cv83 b_HarnessBook) [.d (.sl 1 (List.map e3 b_bald)),.fmp (List.map m197_3 mf)]))] 2 0) ?_
 refine AW.sdrwK fokW (fun Q_1 hQ_1=>?_)
 refine aX 2 (sT [(1,jI kind),pR 3 0,pR 5 1,(7,.agg [.d (.sl 4 (List.map e65 b_HarnessBook.Hair.Hanks)),.d (.sl 3 (List.map e67 b_HarnessBook.Hair.Horses)),jI b_HarnessBook.Hair.Dark,jI b_HarnessBook.Hair.Near,jI b_HarnessBook.Hair.Match,.d (.sl 1 (List.map e51 b_HarnessBook.Needs)),.d (.sl 2 (List.map e33 b_HarnessBook.Stock)),jI b_HarnessBook.Pack,jI b_HarnessBook.Bad,.d (.sl 1 (List.map e3 b_bald)),.fmp (List.map m197_3 mf)]),(8,jI kind)] [(1,.var 159 [.d (.fn 131)]),(0,.var 144 (catV (cv83 b_HarnessBook) [.d (.sl 1 (List.map e3 b_bald)),.fmp (List.map m197_3 mf)]))] 2 0) ?_
 obtain ⟨r0_2,hx_2,h⟩:=bsome h
 refine r_call trivial rfl (k130 b_HarnessBook b_bald mf kind _ hx_2) rfl rfl ?_
 refine aX 6 (sT [(9,jI r0_2),(11,.d (.fn 131)),(14,.d (.sl 2 (List.map e33 b_HarnessBook.Stock))),(15,jI kind)] [(1,.var 159 [.d (.fn 131)]),(0,.var 144 (catV (cv83 b_HarnessBook) [.d (.sl 1 (List.map e3 b_bald)),.fmp (List.map m197_3 mf)]))] 2 0) ?_
 obtain ⟨p,hv_3,h⟩:=bsome h
 refine r_iaD trivial rfl rfl (ixL_ok hv_3).1 (row:=e33 p) (mapget (ixL_ok hv_3).2) ?_
 refine aX 1 (sT [(9,jI r0_2),(11,.d (.fn 131)),(17,.agg [jI p.Low,jI p.High])] [(1,.var 159 [.d (.fn 131)]),(0,.var 144 (catV (cv83 b_HarnessBook) [.d (.sl 1 (List.map e3 b_bald)),.fmp (List.map m197_3 mf)]))] 2 0) ?_
 obtain ⟨r0,hx_4,h⟩:=bsome h
 refine r_callvZ (zr:=[]) trivial rfl (.fn _) (by kernel_rfl) rfl (k131 p _ hx_4) trivial ⟨.refl _,trivial⟩ rfl rfl rfl rfl ?_
 refine aX 3 (sT [(6,jI (max 0 (wr (r0_2 - r0))))] [(1,.var 159 [.d (.fn 131)]),(0,.var 144 (catV (cv83 b_HarnessBook) [.d (.sl 1 (List.map e3 b_bald)),.fmp (List.map m197_3 mf)]))] 2 0) ?_
 refine Fi (sT [(6,jI (max 0 (wr (r0_2 - r0))))] [] 2 0) ?_
 refine hQ_1 _ ?_
 obtain rfl:=Option.some.inj h
 exact rT hR_0 (.cons (.tmp rfl) .nil)
def g101 :Option Unit:=some ()
theorem k101  (r:Unit) (h:g101=some r):SCall Tryd.prog Gs 101 [] [] 0 Fr.emp (.agg [.d (.fn 132)]) [] 0 Fr.emp:=by
 unfold g101 at h
 refine SCall.mkK Tryd.func101 c101 rfl rfl (by kernel_rfl) (fun Q_0 hR_0 hN_0=>?_)
 refine Sa (sT [pR 0 0] [(0,.var 159 [.d (.nilFn)])] 1 0) ?_
 refine Sa (sT [pR 0 0] [(0,.var 159 [.d (.fn 132)])] 1 0) ?_
 obtain rfl:=Option.some.inj h
 exact rT hR_0 (.cons (.agg rfl rfl (Nat.le_of_ble_eq_true rfl)) .nil)
def g132 (s:Span):Option Int:=some s.Low
theorem k132 (s:Span) (r:Int) (h:g132 s=some r):SCall Tryd.prog Gs 132 [.agg [jI s.Low,jI s.High]] [] 0 Fr.emp (jI r) [] 0 Fr.emp:=by
 unfold g132 at h
 refine SCall.mkK Tryd.func132 c132 rfl rfl (by kernel_rfl) (fun Q_0 hR_0 hN_0=>?_)
 refine Sa (sT [pR 1 0] [(0,.var 33 [jI s.Low,jI s.High])] 1 0) ?_
 refine Sa (sT [(2,jI s.Low)] [] 1 0) ?_
 obtain rfl:=Option.some.inj h
 exact rT hR_0 (.cons (.tmp rfl) .nil)
def g99a (b_HarnessBook:HarnessBook) (b_bald:(List Int)) (mf:List (Harness_want×Int)) (kind:Int):Option Int:=(g130 b_HarnessBook b_bald mf kind).bind fun r0_2=>(ixL b_HarnessBook.Stock kind).bind fun p=>(g132 p).bind fun r0=>some (max 0 (wr (r0_2 - r0)))
theorem k99a (b_HarnessBook:HarnessBook) (b_bald:(List Int)) (mf:List (Harness_want×Int)) (kind:Int) (r:Int) (h:g99a b_HarnessBook b_bald mf kind=some r):SCall Tryd.prog Gs 99 [.agg [.d (.sl 4 (List.map e65 b_HarnessBook.Hair.Hanks)),.d (.sl 3 (List.map e67 b_HarnessBook.Hair.Horses)),jI b_HarnessBook.Hair.Dark,jI b_HarnessBook.Hair.Near,jI b_HarnessBook.Hair.Match,.d (.sl 1 (List.map e51 b_HarnessBook.Needs)),.d (.sl 2 (List.map e33 b_HarnessBook.Stock)),jI b_HarnessBook.Pack,jI b_HarnessBook.Bad,.d (.sl 1 (List.map e3 b_bald)),.fmp (List.map m197_3 mf)],jI kind,.agg [.d (.fn 132)]] [] 0 Fr.emp (jI r) [] 0 Fr.emp:=by
 unfold g99a at h
 refine SCall.mkK Tryd.func99 c99 rfl rfl (by kernel_rfl) (fun Q_0 hR_0 hN_0=>?_)
 refine Sa (sT [(1,jI kind),pR 3 0,pR 5 1] [(1,.var 159 [.d (.fn 132)]),(0,.var 144 (catV (cv83 b_HarnessBook) [.d (.sl 1 (List.map e3 b_bald)),.fmp (List.map m197_3 mf)]))] 2 0) ?_
 refine AW.sdrwK fokW (fun Q_1 hQ_1=>?_)
 refine aX 2 (sT [(1,jI kind),pR 3 0,pR 5 1,(7,.agg [.d (.sl 4 (List.map e65 b_HarnessBook.Hair.Hanks)),.d (.sl 3 (List.map e67 b_HarnessBook.Hair.Horses)),jI b_HarnessBook.Hair.Dark,jI b_HarnessBook.Hair.Near,jI b_HarnessBook.Hair.Match,.d (.sl 1 (List.map e51 b_HarnessBook.Needs)),.d (.sl 2 (List.map e33 b_HarnessBook.Stock)),jI b_HarnessBook.Pack,jI b_HarnessBook.Bad,.d (.sl 1 (List.map e3 b_bald)),.fmp (List.map m197_3 mf)]),(8,jI kind)] [(1,.var 159 [.d (.fn 132)]),(0,.var 144 (catV (cv83 b_HarnessBook) [.d (.sl 1 (List.map e3 b_bald)),.fmp (List.map m197_3 mf)]))] 2 0) ?_
 obtain ⟨r0_2,hx_2,h⟩:=bsome h
 refine r_call trivial rfl (k130 b_HarnessBook b_bald mf kind _ hx_2) rfl rfl ?_
 refine aX 6 (sT [(9,jI r0_2),(11,.d (.fn 132)),(14,.d (.sl 2 (List.map e33 b_HarnessBook.Stock))),(15,jI kind)] [(1,.var 159 [.d (.fn 132)]),(0,.var 144 (catV (cv83 b_HarnessBook) [.d (.sl 1 (List.map e3 b_bald)),.fmp (List.map m197_3 mf)]))] 2 0) ?_
 obtain ⟨p,hv_3,h⟩:=bsome h
 refine r_iaD trivial rfl rfl (ixL_ok hv_3).1 (row:=e33 p) (mapget (ixL_ok hv_3).2) ?_
 refine aX 1 (sT [(9,jI r0_2),(11,.d (.fn 132)),(17,.agg [jI p.Low,jI p.High])] [(1,.var 159 [.d (.fn 132)]),(0,.var 144 (catV (cv83 b_HarnessBook) [.d (.sl 1 (List.map e3 b_bald)),.fmp (List.map m197_3 mf)]))] 2 0) ?_
 obtain ⟨r0,hx_4,h⟩:=bsome h
 refine r_callvZ (zr:=[]) trivial rfl (.fn _) (by kernel_rfl) rfl (k132 p _ hx_4) trivial ⟨.refl _,trivial⟩ rfl rfl rfl rfl ?_
 refine aX 3 (sT [(6,jI (max 0 (wr (r0_2 - r0))))] [(1,.var 159 [.d (.fn 132)]),(0,.var 144 (catV (cv83 b_HarnessBook) [.d (.sl 1 (List.map e3 b_bald)),.fmp (List.map m197_3 mf)]))] 2 0) ?_
 refine Fi (sT [(6,jI (max 0 (wr (r0_2 - r0))))] [] 2 0) ?_
 refine hQ_1 _ ?_
 obtain rfl:=Option.some.inj h
 exact rT hR_0 (.cons (.tmp rfl) .nil)
def g43 (x:HarnessBook) (kind:Int):Option (Span×Int):=(g98 x kind).bind fun r0_1=>(g92 x r0_1).bind fun r_14=>match r_14 with | .next (r0_HarnessBook3,r0_bald3,r1_1)=>(must (decide (r1_1≠0))).bind fun _=>some ((Span.mk 0 0),r1_1) | .brk (r0_HarnessBook4,r0_bald4,mf1,r1_2)=>bif (decide (r1_2≠0)) then (some ((Span.mk 0 0),r1_2)) else ((g100).bind fun _=>(g99 r0_HarnessBook4 r0_bald4 mf1 kind).bind fun r0_1_1=>(g101).bind fun _=>(g99a r0_HarnessBook4 r0_bald4 mf1 kind).bind fun r0_1_2=>some ((Span.mk r0_1_1 r0_1_2),0))
theorem k43 (x:HarnessBook) (kind:Int) (r:Span×Int) (h:g43 x kind=some r):SCall Tryd.prog Gs 43 [.agg [.d (.sl 4 (List.map e65 x.Hair.Hanks)),.d (.sl 3 (List.map e67 x.Hair.Horses)),jI x.Hair.Dark,jI x.Hair.Near,jI x.Hair.Match,.d (.sl 1 (List.map e51 x.Needs)),.d (.sl 2 (List.map e33 x.Stock)),jI x.Pack,jI x.Bad],jI kind] [] 0 Fr.emp (match r with | (r0_3,r1_4)=>.tup [.agg [jI r0_3.Low,jI r0_3.High],jI r1_4]) [] 0 Fr.emp:=by
 unfold g43 at h
 refine SCall.mkK Tryd.func43 c43 rfl rfl (by kernel_rfl) (fun Q_0 hR_0 hN_0=>?_)
 refine Sa (sT [(1,jI kind),pR 2 0,pR 4 1] [(1,.var 33 [jI 0,jI 0]),(0,.var 83 (cv83 x))] 2 0) ?_
 refine AW.sdrwK fokW (fun Q_1 hQ_1=>?_)
 refine aX 3 (sT [(1,jI kind),pR 4 1,(9,.agg [.d (.sl 4 (List.map e65 x.Hair.Hanks)),.d (.sl 3 (List.map e67 x.Hair.Horses)),jI x.Hair.Dark,jI x.Hair.Near,jI x.Hair.Match,.d (.sl 1 (List.map e51 x.Needs)),.d (.sl 2 (List.map e33 x.Stock)),jI x.Pack,jI x.Bad]),(10,.agg [.d (.sl 4 (List.map e65 x.Hair.Hanks)),.d (.sl 3 (List.map e67 x.Hair.Horses)),jI x.Hair.Dark,jI x.Hair.Near,jI x.Hair.Match,.d (.sl 1 (List.map e51 x.Needs)),.d (.sl 2 (List.map e33 x.Stock)),jI x.Pack,jI x.Bad]),(11,jI kind)] [(1,.var 33 [jI 0,jI 0]),(0,.var 83 (cv83 x))] 2 0) ?_
 obtain ⟨r0_1,hx_2,h⟩:=bsome h
 refine r_call trivial rfl (k98 x kind _ hx_2) rfl rfl ?_
 obtain ⟨r_14,hx_3,h⟩:=bsome h
 rcases r_14 with (⟨r0_HarnessBook3,r0_bald3,r1_1⟩ | (⟨r0_HarnessBook4,r0_bald4,mf1,r1_2⟩))
 ·refine r_call trivial rfl (k92 x r0_1 _ hx_3) rfl rfl ?_
  obtain ⟨_,hv_4,h⟩:=bsome h
  have hf_5:=must_ok hv_4
  refine aX 6 (sT [(1,jI kind),pR 4 1,pR 6 2,(7,jI r1_1)] [(2,.var 144 (catV (cv83 r0_HarnessBook3) [.d (.sl 1 (List.map e3 r0_bald3)),.d (.nilMap)])),(1,.var 33 [jI 0,jI 0]),(0,.var 83 (cv83 x))] 3 0) ?_
  refine Fi (sT [(1,jI kind),pR 4 1,pR 6 2,(7,jI r1_1)] [(2,.var 144 (catV (cv83 r0_HarnessBook3) [.d (.sl 1 (List.map e3 r0_bald3)),.d (.nilMap)])),(1,.var 33 [jI 0,jI 0])] 3 0) ?_
  refine hQ_1 _ ?_
  refine AW.seqK (fun K_6 hK_6=>?_)
  refine Sa (sT [(1,jI kind),pR 4 1,pR 6 2,(7,jI r1_1),(17,.d (.bool (decide (r1_1≠0))))] [(2,.var 144 (catV (cv83 r0_HarnessBook3) [.d (.sl 1 (List.map e3 r0_bald3)),.d (.nilMap)])),(1,.var 33 [jI 0,jI 0])] 3 0) ?_
  refine AW.cond rfl (fun hb_7=>?_) (fun hb_7=>False.elim (by rw [hf_5] at hb_7;cases hb_7))
  refine Sa (sT [pR 4 1,(5,jI r1_1)] [(1,.var 33 [jI 0,jI 0])] 3 0) ?_
  obtain rfl:=Option.some.inj h
  exact rT hR_0 (.cons (.agg rfl rfl (Nat.le_of_ble_eq_true rfl)) (.cons (.tmp rfl) .nil))
 ·refine r_call trivial rfl (k92 x r0_1 _ hx_3) rfl rfl ?_
  refine aX 6 (sT [(1,jI kind),pR 4 1,pR 6 2,(7,jI r1_2)] [(2,.var 144 (catV (cv83 r0_HarnessBook4) [.d (.sl 1 (List.map e3 r0_bald4)),.fmp (List.map m197_3 mf1)])),(1,.var 33 [jI 0,jI 0]),(0,.var 83 (cv83 x))] 3 0) ?_
  refine Fi (sT [(1,jI kind),pR 4 1,pR 6 2,(7,jI r1_2)] [(2,.var 144 (catV (cv83 r0_HarnessBook4) [.d (.sl 1 (List.map e3 r0_bald4)),.fmp (List.map m197_3 mf1)])),(1,.var 33 [jI 0,jI 0])] 3 0) ?_
  refine hQ_1 _ ?_
  refine AW.seqK (fun K_8 hK_8=>?_)
  refine Sa (sT [(1,jI kind),pR 4 1,pR 6 2,(7,jI r1_2),(17,.d (.bool (decide (r1_2≠0))))] [(2,.var 144 (catV (cv83 r0_HarnessBook4) [.d (.sl 1 (List.map e3 r0_bald4)),.fmp (List.map m197_3 mf1)])),(1,.var 33 [jI 0,jI 0])] 3 0) ?_
  refine AW.cond rfl (fun hb_9=>?_) (fun hb_9=>?_)
  ·have h:=ifT hb_9 h
   refine Sa (sT [pR 4 1,(5,jI r1_2)] [(1,.var 33 [jI 0,jI 0])] 3 0) ?_
   obtain rfl:=Option.some.inj h
   exact rT hR_0 (.cons (.agg rfl rfl (Nat.le_of_ble_eq_true rfl)) (.cons (.tmp rfl) .nil))
  ·have h:=ifF hb_9 h
   refine AW.skip (hK_8 _ ?_)
   refine AW.sdrwK fokW (fun Q_10 hQ_10=>?_)
   refine aX 2 (sT [(1,jI kind),pR 4 1,pR 6 2,(20,.agg [.d (.sl 4 (List.map e65 r0_HarnessBook4.Hair.Hanks)),.d (.sl 3 (List.map e67 r0_HarnessBook4.Hair.Horses)),jI r0_HarnessBook4.Hair.Dark,jI r0_HarnessBook4.Hair.Near,jI r0_HarnessBook4.Hair.Match,.d (.sl 1 (List.map e51 r0_HarnessBook4.Needs)),.d (.sl 2 (List.map e33 r0_HarnessBook4.Stock)),jI r0_HarnessBook4.Pack,jI r0_HarnessBook4.Bad,.d (.sl 1 (List.map e3 r0_bald4)),.fmp (List.map m197_3 mf1)]),(21,jI kind)] [(2,.var 144 (catV (cv83 r0_HarnessBook4) [.d (.sl 1 (List.map e3 r0_bald4)),.fmp (List.map m197_3 mf1)])),(1,.var 33 [jI 0,jI 0])] 3 0) ?_
   obtain ⟨⟨⟩,hx_11,h⟩:=bsome h
   refine r_call trivial rfl (k100 _ hx_11) rfl rfl ?_
   obtain ⟨r0_1_1,hx_12,h⟩:=bsome h
   refine r_call trivial rfl (k99 r0_HarnessBook4 r0_bald4 mf1 kind _ hx_12) rfl rfl ?_
   refine aX 2 (sT [pR 4 1,(23,jI r0_1_1),(24,.agg [.d (.sl 4 (List.map e65 r0_HarnessBook4.Hair.Hanks)),.d (.sl 3 (List.map e67 r0_HarnessBook4.Hair.Horses)),jI r0_HarnessBook4.Hair.Dark,jI r0_HarnessBook4.Hair.Near,jI r0_HarnessBook4.Hair.Match,.d (.sl 1 (List.map e51 r0_HarnessBook4.Needs)),.d (.sl 2 (List.map e33 r0_HarnessBook4.Stock)),jI r0_HarnessBook4.Pack,jI r0_HarnessBook4.Bad,.d (.sl 1 (List.map e3 r0_bald4)),.fmp (List.map m197_3 mf1)]),(25,jI kind)] [(2,.var 144 (catV (cv83 r0_HarnessBook4) [.d (.sl 1 (List.map e3 r0_bald4)),.fmp (List.map m197_3 mf1)])),(1,.var 33 [jI 0,jI 0])] 3 0) ?_
   obtain ⟨⟨⟩,hx_13,h⟩:=bsome h
   refine r_call trivial rfl (k101 _ hx_13) rfl rfl ?_
   obtain ⟨r0_1_2,hx_14,h⟩:=bsome h
   refine r_call trivial rfl (k99a r0_HarnessBook4 r0_bald4 mf1 kind _ hx_14) rfl rfl ?_
   refine aX 3 (sT [pR 4 1,(5,jI 0)] [(1,.var 33 [jI r0_1_1,jI r0_1_2]),(2,.var 144 (catV (cv83 r0_HarnessBook4) [.d (.sl 1 (List.map e3 r0_bald4)),.fmp (List.map m197_3 mf1)]))] 3 0) ?_
   refine Fi (sT [pR 4 1,(5,jI 0)] [(1,.var 33 [jI r0_1_1,jI r0_1_2])] 3 0) ?_
   refine hQ_10 _ ?_
   obtain rfl:=Option.some.inj h
   exact rT hR_0 (.cons (.agg rfl rfl (Nat.le_of_ble_eq_true rfl)) (.cons (.tmp rfl) .nil))
def g102 (b_HarnessBook:HarnessBook) (b_bald:(List Int)) (mf:List (Harness_want×Int)) (kind:Int):Option Int:=(g101).bind fun _=>(g99a b_HarnessBook b_bald mf kind).bind fun r0_1=>(must (decide ((wr (b_HarnessBook.Pack - b_HarnessBook.Bad))≠0))).bind fun _=>some (wr ((wr ((wr (r0_1+(wr (b_HarnessBook.Pack - b_HarnessBook.Bad)))) - 1)).tdiv (wr (b_HarnessBook.Pack - b_HarnessBook.Bad))))
theorem k102 (b_HarnessBook:HarnessBook) (b_bald:(List Int)) (mf:List (Harness_want×Int)) (kind:Int) (r:Int) (h:g102 b_HarnessBook b_bald mf kind=some r):SCall Tryd.prog Gs 102 [.agg [.d (.sl 4 (List.map e65 b_HarnessBook.Hair.Hanks)),.d (.sl 3 (List.map e67 b_HarnessBook.Hair.Horses)),jI b_HarnessBook.Hair.Dark,jI b_HarnessBook.Hair.Near,jI b_HarnessBook.Hair.Match,.d (.sl 1 (List.map e51 b_HarnessBook.Needs)),.d (.sl 2 (List.map e33 b_HarnessBook.Stock)),jI b_HarnessBook.Pack,jI b_HarnessBook.Bad,.d (.sl 1 (List.map e3 b_bald)),.fmp (List.map m197_3 mf)],jI kind] [] 0 Fr.emp (jI r) [] 0 Fr.emp:=by
 unfold g102 at h
 refine SCall.mkK Tryd.func102 c102 rfl rfl (by kernel_rfl) (fun Q_0 hR_0 hN_0=>?_)
 refine Sa (sT [(1,jI kind),pR 2 0] [(0,.var 144 (catV (cv83 b_HarnessBook) [.d (.sl 1 (List.map e3 b_bald)),.fmp (List.map m197_3 mf)]))] 1 0) ?_
 refine Sa (sT [(1,jI kind),pR 2 0,(5,jI (wr (b_HarnessBook.Pack - b_HarnessBook.Bad)))] [(0,.var 144 (catV (cv83 b_HarnessBook) [.d (.sl 1 (List.map e3 b_bald)),.fmp (List.map m197_3 mf)]))] 1 0) ?_
 refine AW.sdrwK fokW (fun Q_1 hQ_1=>?_)
 refine aX 2 (sT [(5,jI (wr (b_HarnessBook.Pack - b_HarnessBook.Bad))),(13,.agg [.d (.sl 4 (List.map e65 b_HarnessBook.Hair.Hanks)),.d (.sl 3 (List.map e67 b_HarnessBook.Hair.Horses)),jI b_HarnessBook.Hair.Dark,jI b_HarnessBook.Hair.Near,jI b_HarnessBook.Hair.Match,.d (.sl 1 (List.map e51 b_HarnessBook.Needs)),.d (.sl 2 (List.map e33 b_HarnessBook.Stock)),jI b_HarnessBook.Pack,jI b_HarnessBook.Bad,.d (.sl 1 (List.map e3 b_bald)),.fmp (List.map m197_3 mf)]),(14,jI kind)] [(0,.var 144 (catV (cv83 b_HarnessBook) [.d (.sl 1 (List.map e3 b_bald)),.fmp (List.map m197_3 mf)]))] 1 0) ?_
 obtain ⟨⟨⟩,hx_2,h⟩:=bsome h
 refine r_call trivial rfl (k101 _ hx_2) rfl rfl ?_
 obtain ⟨r0_1,hx_3,h⟩:=bsome h
 refine r_call trivial rfl (k99a b_HarnessBook b_bald mf kind _ hx_3) rfl rfl ?_
 refine aX 4 (sT [(19,jI (wr ((wr (r0_1+(wr (b_HarnessBook.Pack - b_HarnessBook.Bad)))) - 1))),(20,jI (wr (b_HarnessBook.Pack - b_HarnessBook.Bad)))] [(0,.var 144 (catV (cv83 b_HarnessBook) [.d (.sl 1 (List.map e3 b_bald)),.fmp (List.map m197_3 mf)]))] 1 0) ?_
 obtain ⟨_,hv_4,h⟩:=bsome h
 refine r_quoW trivial rfl rfl (of_decide_eq_true (must_ok hv_4)) ?_
 refine aX 1 (sT [(4,jI (wr ((wr ((wr (r0_1+(wr (b_HarnessBook.Pack - b_HarnessBook.Bad)))) - 1)).tdiv (wr (b_HarnessBook.Pack - b_HarnessBook.Bad)))))] [(0,.var 144 (catV (cv83 b_HarnessBook) [.d (.sl 1 (List.map e3 b_bald)),.fmp (List.map m197_3 mf)]))] 1 0) ?_
 refine Fi (sT [(4,jI (wr ((wr ((wr (r0_1+(wr (b_HarnessBook.Pack - b_HarnessBook.Bad)))) - 1)).tdiv (wr (b_HarnessBook.Pack - b_HarnessBook.Bad)))))] [] 1 0) ?_
 refine hQ_1 _ ?_
 obtain rfl:=Option.some.inj h
 exact rT hR_0 (.cons (.tmp rfl) .nil)
def g44_11 (r0_HarnessBook4:HarnessBook) (r0_bald4:(List Int)) (mf1:List (Harness_want×Int)):Int→Span→(List Int)→Option (List Int):=fun v p l=>(g102 r0_HarnessBook4 r0_bald4 mf1 v).bind fun r0=>(appL 8 l [r0]).bind fun l1=>some l1
def g44 (x:HarnessBook):Option ((List Int)×Int):=(g92 x true).bind fun r_21=>match r_21 with | .next (r0_HarnessBook3,r0_bald3,r1_1)=>(must (decide (r1_1≠0))).bind fun _=>some ([],r1_1) | .brk (r0_HarnessBook4,r0_bald4,mf1,r1_2)=>bif (decide (r1_2≠0)) then (some ([],r1_2)) else ((must (decide ((x.Stock.length:Int)≤9223372036854775807))).bind fun _=>(eachS (g44_11 r0_HarnessBook4 r0_bald4 mf1) x.Stock 0 ([]:List Int)).bind fun l=>(slcL l 0 (l.length:Int)).bind fun l2=>some (l2,0))
theorem k44 (x:HarnessBook) (r:(List Int)×Int) (h:g44 x=some r):SCall Tryd.prog Gs 44 [.agg [.d (.sl 4 (List.map e65 x.Hair.Hanks)),.d (.sl 3 (List.map e67 x.Hair.Horses)),jI x.Hair.Dark,jI x.Hair.Near,jI x.Hair.Match,.d (.sl 1 (List.map e51 x.Needs)),.d (.sl 2 (List.map e33 x.Stock)),jI x.Pack,jI x.Bad]] [] 0 Fr.emp (match r with | (r0_3,r1_4)=>.tup [.d (.sl 1 (List.map e3 r0_3)),jI r1_4]) [] 0 Fr.emp:=by
 unfold g44 at h
 refine SCall.mkK Tryd.func44 c44 rfl rfl (by kernel_rfl) (fun Q_0 hR_0 hN_0=>?_)
 refine Sa (sT [pR 1 0] [(0,.var 83 (cv83 x))] 1 0) ?_
 refine AW.srwK (fun Q_1 hQ_1=>?_)
 refine Au 1 (sT [pR 1 0,(9,.agg [.d (.sl 4 (List.map e65 x.Hair.Hanks)),.d (.sl 3 (List.map e67 x.Hair.Horses)),jI x.Hair.Dark,jI x.Hair.Near,jI x.Hair.Match,.d (.sl 1 (List.map e51 x.Needs)),.d (.sl 2 (List.map e33 x.Stock)),jI x.Pack,jI x.Bad])] [(0,.var 83 (cv83 x))] 1 0) ?_
 obtain ⟨r_21,hx_2,h⟩:=bsome h
 rcases r_21 with (⟨r0_HarnessBook3,r0_bald3,r1_1⟩ | (⟨r0_HarnessBook4,r0_bald4,mf1,r1_2⟩))
 ·refine rC (k92 x true _ hx_2) ?_
  obtain ⟨_,hv_3,h⟩:=bsome h
  have hf_4:=must_ok hv_3
  refine Au 6 (sT [pR 1 0,pR 4 1,(5,jI r1_1)] [(1,.var 144 (catV (cv83 r0_HarnessBook3) [.d (.sl 1 (List.map e3 r0_bald3)),.d (.nilMap)])),(0,.var 83 (cv83 x))] 2 0) ?_
  refine RW.nil (hQ_1 _ ?_)
  refine AW.seqK (fun K_5 hK_5=>?_)
  refine Sa (sT [pR 1 0,pR 4 1,(5,jI r1_1),(14,.d (.bool (decide (r1_1≠0))))] [(1,.var 144 (catV (cv83 r0_HarnessBook3) [.d (.sl 1 (List.map e3 r0_bald3)),.d (.nilMap)])),(0,.var 83 (cv83 x))] 2 0) ?_
  refine AW.cond rfl (fun hb_6=>?_) (fun hb_6=>False.elim (by rw [hf_4] at hb_6;cases hb_6))
  refine Sa (sT [(2,.d (.nilSl)),(3,jI r1_1)] [] 2 0) ?_
  obtain rfl:=Option.some.inj h
  exact AW.ret (hR_0 _ (retX (.cons (.tmp rfl) (.cons (.tmp rfl) .nil)) (Frz.tup_of ⟨.nil 1,.refl _,trivial⟩) rfl (by kernel_rfl) (by kernel_rfl)))
 ·refine rC (k92 x true _ hx_2) ?_
  refine Au 6 (sT [pR 1 0,pR 4 1,(5,jI r1_2)] [(1,.var 144 (catV (cv83 r0_HarnessBook4) [.d (.sl 1 (List.map e3 r0_bald4)),.fmp (List.map m197_3 mf1)])),(0,.var 83 (cv83 x))] 2 0) ?_
  refine RW.nil (hQ_1 _ ?_)
  refine AW.seqK (fun K_7 hK_7=>?_)
  refine Sa (sT [pR 1 0,pR 4 1,(5,jI r1_2),(14,.d (.bool (decide (r1_2≠0))))] [(1,.var 144 (catV (cv83 r0_HarnessBook4) [.d (.sl 1 (List.map e3 r0_bald4)),.fmp (List.map m197_3 mf1)])),(0,.var 83 (cv83 x))] 2 0) ?_
  refine AW.cond rfl (fun hb_8=>?_) (fun hb_8=>?_)
  ·have h:=ifT hb_8 h
   refine Sa (sT [(2,.d (.nilSl)),(3,jI r1_2)] [] 2 0) ?_
   obtain rfl:=Option.some.inj h
   exact AW.ret (hR_0 _ (retX (.cons (.tmp rfl) (.cons (.tmp rfl) .nil)) (Frz.tup_of ⟨.nil 1,.refl _,trivial⟩) rfl (by kernel_rfl) (by kernel_rfl)))
  ·have h:=ifF hb_8 h
   refine AW.skip (hK_7 _ ?_)
   refine Sa (sT [pR 1 0,pR 4 1,(6,.d (.nilSl))] [(1,.var 144 (catV (cv83 r0_HarnessBook4) [.d (.sl 1 (List.map e3 r0_bald4)),.fmp (List.map m197_3 mf1)])),(0,.var 83 (cv83 x))] 2 0) ?_
   refine AW.seqK fun K_9 hK_9=>AW.srwK fun Q_10 hQ_10=>?_
   refine Au 2 (sT [pR 4 1,(6,.d (.nilSl)),(17,.d (.sl 2 (List.map e33 x.Stock)))] [(1,.var 144 (catV (cv83 r0_HarnessBook4) [.d (.sl 1 (List.map e3 r0_bald4)),.fmp (List.map m197_3 mf1)]))] 2 0) ?_
   refine rL rfl ?_
   refine Au 1 (sT [pR 4 1,(6,.d (.nilSl)),(18,jI (x.Stock.length:Int)),(19,jI 0)] [(1,.var 144 (catV (cv83 r0_HarnessBook4) [.d (.sl 1 (List.map e3 r0_bald4)),.fmp (List.map m197_3 mf1)]))] 2 0) ?_
   refine RW.nil (hQ_10 _ ?_)
   refine AW.block ?_
   obtain ⟨_,hN_11,h⟩:=bsome h
   have hN_11:=of_decide_eq_true (must_ok hN_11)
   obtain ⟨out_11,hx_11,h⟩:=bsome h
   refine AW.evSK (fun (v:Int) (l:List Int)=>(sT [pR 4 1,(6,.own 2 (List.map e3 l).length),(18,jI (x.Stock.length:Int)),(19,jI v)] [(2,.row 3 1 (List.map e3 l)),(1,.var 144 (catV (cv83 r0_HarnessBook4) [.d (.sl 1 (List.map e3 r0_bald4)),.fmp (List.map m197_3 mf1)]))] 3 0)) (g44_11 r0_HarnessBook4 r0_bald4 mf1) hx_11 (Can.trans (Can.thawT 6 3 1 rfl rfl) (Can.kp (by kernel_rfl))) (fun v p l hi_11 hl_11 hp_11 c_11 h K_11 hK_11=>?_) (fun v l hi_11 hl_11 hout=>?_)
   ·unfold g44_11 at h
    refine Sa (sT [pR 4 1,(6,.own 2 (List.map e3 l).length),(18,jI (x.Stock.length:Int)),(19,jI v),(20,.d (.bool (decide (v<(x.Stock.length:Int)))))] [(2,.row 3 1 (List.map e3 l)),(1,.var 144 (catV (cv83 r0_HarnessBook4) [.d (.sl 1 (List.map e3 r0_bald4)),.fmp (List.map m197_3 mf1)]))] 3 0) ?_
    refine AW.seqK (fun K_12 hK_12=>?_)
    refine AW.cond rfl (fun hb_13=>?_) (fun hb_13=>False.elim (by have:=of_decide_eq_false hb_13;omega))
    refine AW.skip (hK_12 _ ?_)
    refine AW.seqK (fun K_14 hK_14=>?_)
    refine AW.block ?_
    refine Sa (sT [pR 4 1,(6,.own 2 (List.map e3 l).length),(7,jI v),(18,jI (x.Stock.length:Int)),(19,jI v)] [(2,.row 3 1 (List.map e3 l)),(1,.var 144 (catV (cv83 r0_HarnessBook4) [.d (.sl 1 (List.map e3 r0_bald4)),.fmp (List.map m197_3 mf1)]))] 3 0) ?_
    refine AW.rw ?_
    refine Au 3 (sT [pR 4 1,(18,jI (x.Stock.length:Int)),(19,jI v),(22,.own 2 (List.map e3 l).length),(23,.agg [.d (.sl 4 (List.map e65 r0_HarnessBook4.Hair.Hanks)),.d (.sl 3 (List.map e67 r0_HarnessBook4.Hair.Horses)),jI r0_HarnessBook4.Hair.Dark,jI r0_HarnessBook4.Hair.Near,jI r0_HarnessBook4.Hair.Match,.d (.sl 1 (List.map e51 r0_HarnessBook4.Needs)),.d (.sl 2 (List.map e33 r0_HarnessBook4.Stock)),jI r0_HarnessBook4.Pack,jI r0_HarnessBook4.Bad,.d (.sl 1 (List.map e3 r0_bald4)),.fmp (List.map m197_3 mf1)]),(24,jI v)] [(2,.row 3 1 (List.map e3 l)),(1,.var 144 (catV (cv83 r0_HarnessBook4) [.d (.sl 1 (List.map e3 r0_bald4)),.fmp (List.map m197_3 mf1)]))] 3 0) ?_
    obtain ⟨r0,hx_16,h⟩:=bsome h
    refine rC (k102 r0_HarnessBook4 r0_bald4 mf1 v _ hx_16) ?_
    refine Au 1 (sT [pR 4 1,(18,jI (x.Stock.length:Int)),(19,jI v),(22,.own 2 (List.map e3 l).length),(26,.own 3 (List.map e3 [r0]).length)] [(3,.row 3 1 (List.map e3 [r0])),(2,.row 3 1 (List.map e3 l)),(1,.var 144 (catV (cv83 r0_HarnessBook4) [.d (.sl 1 (List.map e3 r0_bald4)),.fmp (List.map m197_3 mf1)]))] 4 0) ?_
    obtain ⟨l1,hv_17,h⟩:=bsome h
    refine RW.one fokW (r_apO trivial rfl rfl rfl rfl rfl rfl (apz hv_17 e3) (apr hv_17 e3) (r_end ?_))
    refine Au 1 (sT [pR 4 1,(6,.own 2 (List.map e3 l1).length),(18,jI (x.Stock.length:Int)),(19,jI v)] [(2,.row 3 1 (List.map e3 l1)),(1,.var 144 (catV (cv83 r0_HarnessBook4) [.d (.sl 1 (List.map e3 r0_bald4)),.fmp (List.map m197_3 mf1)]))] 4 0) ?_
    refine RW.nil ?_
    refine hK_14 _ ?_
    refine Ra (sT [pR 4 1,(6,.own 2 (List.map e3 l1).length),(18,jI (x.Stock.length:Int)),(19,jI (wr (v+1)))] [(2,.row 3 1 (List.map e3 l1)),(1,.var 144 (catV (cv83 r0_HarnessBook4) [.d (.sl 1 (List.map e3 r0_bald4)),.fmp (List.map m197_3 mf1)]))] 4 0) ?_
    obtain rfl:=Option.some.inj h
    have ew:wr (v+1)=v+1:=inext (N:=(x.Stock.length:Int)) (by omega) (by omega) (by omega)
    rw [ew]
    exact hK_11 _ (Can.kp (by kernel_rfl))
   ·subst hout
    refine Sa (sT [pR 4 1,(6,.own 2 (List.map e3 l).length),(18,jI (x.Stock.length:Int)),(19,jI v),(20,.d (.bool (decide (v<(x.Stock.length:Int)))))] [(2,.row 3 1 (List.map e3 l)),(1,.var 144 (catV (cv83 r0_HarnessBook4) [.d (.sl 1 (List.map e3 r0_bald4)),.fmp (List.map m197_3 mf1)]))] 3 0) ?_
    refine AW.seqK (fun K_18 hK_18=>?_)
    refine AW.cond rfl (fun hb_19=>False.elim (by have:=of_decide_eq_true hb_19;omega)) (fun hb_19=>?_)
    refine AW.exit ?_
    refine hK_9 _ ?_
    refine AW.can (Can.fzE 6 2 rfl rfl rfl) ?_
    refine AW.srwK (fun Q_20 hQ_20=>?_)
    refine Au 2 (sT [(6,.d (.sl 1 (List.map e3 l))),(29,.d (.sl 1 (List.map e3 l))),(30,.d (.sl 1 (List.map e3 l)))] [] 3 0) ?_
    refine rL rfl ?_
    refine Au 1 (sT [(29,.d (.sl 1 (List.map e3 l))),(31,jI (l.length:Int)),(32,.d (.sl 1 (List.map e3 l)))] [] 3 0) ?_
    refine rL rfl ?_
    obtain ⟨l2,hv_21,h⟩:=bsome h
    refine RW.one fokW (r_slN trivial rfl rfl rfl DSl.d (slcL_ok hv_21).2.1 (by rw [List.length_map];exact (slcL_ok hv_21).2.2.1) rfl (slz hv_21 e3) (r_end ?_))
    refine Au 2 (sT [(2,.fsl 1 (List.map e3 l2)),(3,jI 0)] [] 3 0) ?_
    refine RW.nil (hQ_20 _ ?_)
    obtain rfl:=Option.some.inj h
    exact AW.ret (hR_0 _ (retX (.cons (.tmp rfl) (.cons (.tmp rfl) .nil)) (Frz.tup_of ⟨.fsl _ _,.refl _,trivial⟩) rfl (by kernel_rfl) (by kernel_rfl)))
def g156 (b_HarnessBook:HarnessBook) (b_bald:(List Int)) (mf:List (Harness_want×Int)) (kind:Int):Option Int:=(g101).bind fun _=>(ixL b_HarnessBook.Stock kind).bind fun p=>(g132 p).bind fun r0=>(g102 b_HarnessBook b_bald mf kind).bind fun r0_1=>(g130 b_HarnessBook b_bald mf kind).bind fun r0_2=>some (wr ((wr (r0+(wr (r0_1*(wr (b_HarnessBook.Pack - b_HarnessBook.Bad)))))) - r0_2))
theorem k156 (b_HarnessBook:HarnessBook) (b_bald:(List Int)) (mf:List (Harness_want×Int)) (kind:Int) (r:Int) (h:g156 b_HarnessBook b_bald mf kind=some r):SCall Tryd.prog Gs 156 [.agg [.d (.sl 4 (List.map e65 b_HarnessBook.Hair.Hanks)),.d (.sl 3 (List.map e67 b_HarnessBook.Hair.Horses)),jI b_HarnessBook.Hair.Dark,jI b_HarnessBook.Hair.Near,jI b_HarnessBook.Hair.Match,.d (.sl 1 (List.map e51 b_HarnessBook.Needs)),.d (.sl 2 (List.map e33 b_HarnessBook.Stock)),jI b_HarnessBook.Pack,jI b_HarnessBook.Bad,.d (.sl 1 (List.map e3 b_bald)),.fmp (List.map m197_3 mf)],jI kind] [] 0 Fr.emp (jI r) [] 0 Fr.emp:=by
 unfold g156 at h
 refine SCall.mkK Tryd.func156 c156 rfl rfl (by kernel_rfl) (fun Q_0 hR_0 hN_0=>?_)
 refine Sa (sT [(1,jI kind),pR 2 0] [(0,.var 144 (catV (cv83 b_HarnessBook) [.d (.sl 1 (List.map e3 b_bald)),.fmp (List.map m197_3 mf)]))] 1 0) ?_
 refine AW.sdrwK fokW (fun Q_1 hQ_1=>?_)
 obtain ⟨⟨⟩,hx_2,h⟩:=bsome h
 refine r_call trivial rfl (k101 _ hx_2) rfl rfl ?_
 refine aX 5 (sT [(1,jI kind),pR 2 0,(6,.d (.fn 132)),(9,.d (.sl 2 (List.map e33 b_HarnessBook.Stock))),(10,jI kind)] [(0,.var 144 (catV (cv83 b_HarnessBook) [.d (.sl 1 (List.map e3 b_bald)),.fmp (List.map m197_3 mf)]))] 1 0) ?_
 obtain ⟨p,hv_3,h⟩:=bsome h
 refine r_iaD trivial rfl rfl (ixL_ok hv_3).1 (row:=e33 p) (mapget (ixL_ok hv_3).2) ?_
 refine aX 1 (sT [(1,jI kind),pR 2 0,(6,.d (.fn 132)),(12,.agg [jI p.Low,jI p.High])] [(0,.var 144 (catV (cv83 b_HarnessBook) [.d (.sl 1 (List.map e3 b_bald)),.fmp (List.map m197_3 mf)]))] 1 0) ?_
 obtain ⟨r0,hx_4,h⟩:=bsome h
 refine r_callvZ (zr:=[]) trivial rfl (.fn _) (by kernel_rfl) rfl (k132 p _ hx_4) trivial ⟨.refl _,trivial⟩ rfl rfl rfl rfl ?_
 refine aX 2 (sT [(1,jI kind),pR 2 0,(13,jI r0),(14,.agg [.d (.sl 4 (List.map e65 b_HarnessBook.Hair.Hanks)),.d (.sl 3 (List.map e67 b_HarnessBook.Hair.Horses)),jI b_HarnessBook.Hair.Dark,jI b_HarnessBook.Hair.Near,jI b_HarnessBook.Hair.Match,.d (.sl 1 (List.map e51 b_HarnessBook.Needs)),.d (.sl 2 (List.map e33 b_HarnessBook.Stock)),jI b_HarnessBook.Pack,jI b_HarnessBook.Bad,.d (.sl 1 (List.map e3 b_bald)),.fmp (List.map m197_3 mf)]),(15,jI kind)] [(0,.var 144 (catV (cv83 b_HarnessBook) [.d (.sl 1 (List.map e3 b_bald)),.fmp (List.map m197_3 mf)]))] 1 0) ?_
 obtain ⟨r0_1,hx_5,h⟩:=bsome h
 refine r_call trivial rfl (k102 b_HarnessBook b_bald mf kind _ hx_5) rfl rfl ?_
 refine aX 11 (sT [(25,jI (wr (r0+(wr (r0_1*(wr (b_HarnessBook.Pack - b_HarnessBook.Bad))))))),(26,.agg [.d (.sl 4 (List.map e65 b_HarnessBook.Hair.Hanks)),.d (.sl 3 (List.map e67 b_HarnessBook.Hair.Horses)),jI b_HarnessBook.Hair.Dark,jI b_HarnessBook.Hair.Near,jI b_HarnessBook.Hair.Match,.d (.sl 1 (List.map e51 b_HarnessBook.Needs)),.d (.sl 2 (List.map e33 b_HarnessBook.Stock)),jI b_HarnessBook.Pack,jI b_HarnessBook.Bad,.d (.sl 1 (List.map e3 b_bald)),.fmp (List.map m197_3 mf)]),(27,jI kind)] [(0,.var 144 (catV (cv83 b_HarnessBook) [.d (.sl 1 (List.map e3 b_bald)),.fmp (List.map m197_3 mf)]))] 1 0) ?_
 obtain ⟨r0_2,hx_6,h⟩:=bsome h
 refine r_call trivial rfl (k130 b_HarnessBook b_bald mf kind _ hx_6) rfl rfl ?_
 refine aX 2 (sT [(4,jI (wr ((wr (r0+(wr (r0_1*(wr (b_HarnessBook.Pack - b_HarnessBook.Bad)))))) - r0_2)))] [(0,.var 144 (catV (cv83 b_HarnessBook) [.d (.sl 1 (List.map e3 b_bald)),.fmp (List.map m197_3 mf)]))] 1 0) ?_
 refine Fi (sT [(4,jI (wr ((wr (r0+(wr (r0_1*(wr (b_HarnessBook.Pack - b_HarnessBook.Bad)))))) - r0_2)))] [] 1 0) ?_
 refine hQ_1 _ ?_
 obtain rfl:=Option.some.inj h
 exact rT hR_0 (.cons (.tmp rfl) .nil)
def g157 (b_HarnessBook:HarnessBook) (b_bald:(List Int)) (mf:List (Harness_want×Int)) (kind:Int):Option Int:=(g100).bind fun _=>(ixL b_HarnessBook.Stock kind).bind fun p=>(g131 p).bind fun r0=>(g102 b_HarnessBook b_bald mf kind).bind fun r0_1=>(g130 b_HarnessBook b_bald mf kind).bind fun r0_2=>some (wr ((wr (r0+(wr (r0_1*b_HarnessBook.Pack)))) - r0_2))
theorem k157 (b_HarnessBook:HarnessBook) (b_bald:(List Int)) (mf:List (Harness_want×Int)) (kind:Int) (r:Int) (h:g157 b_HarnessBook b_bald mf kind=some r):SCall Tryd.prog Gs 157 [.agg [.d (.sl 4 (List.map e65 b_HarnessBook.Hair.Hanks)),.d (.sl 3 (List.map e67 b_HarnessBook.Hair.Horses)),jI b_HarnessBook.Hair.Dark,jI b_HarnessBook.Hair.Near,jI b_HarnessBook.Hair.Match,.d (.sl 1 (List.map e51 b_HarnessBook.Needs)),.d (.sl 2 (List.map e33 b_HarnessBook.Stock)),jI b_HarnessBook.Pack,jI b_HarnessBook.Bad,.d (.sl 1 (List.map e3 b_bald)),.fmp (List.map m197_3 mf)],jI kind] [] 0 Fr.emp (jI r) [] 0 Fr.emp:=by
 unfold g157 at h
 refine SCall.mkK Tryd.func157 c157 rfl rfl (by kernel_rfl) (fun Q_0 hR_0 hN_0=>?_)
 refine Sa (sT [(1,jI kind),pR 2 0] [(0,.var 144 (catV (cv83 b_HarnessBook) [.d (.sl 1 (List.map e3 b_bald)),.fmp (List.map m197_3 mf)]))] 1 0) ?_
 refine AW.sdrwK fokW (fun Q_1 hQ_1=>?_)
 obtain ⟨⟨⟩,hx_2,h⟩:=bsome h
 refine r_call trivial rfl (k100 _ hx_2) rfl rfl ?_
 refine aX 5 (sT [(1,jI kind),pR 2 0,(6,.d (.fn 131)),(9,.d (.sl 2 (List.map e33 b_HarnessBook.Stock))),(10,jI kind)] [(0,.var 144 (catV (cv83 b_HarnessBook) [.d (.sl 1 (List.map e3 b_bald)),.fmp (List.map m197_3 mf)]))] 1 0) ?_
 obtain ⟨p,hv_3,h⟩:=bsome h
 refine r_iaD trivial rfl rfl (ixL_ok hv_3).1 (row:=e33 p) (mapget (ixL_ok hv_3).2) ?_
 refine aX 1 (sT [(1,jI kind),pR 2 0,(6,.d (.fn 131)),(12,.agg [jI p.Low,jI p.High])] [(0,.var 144 (catV (cv83 b_HarnessBook) [.d (.sl 1 (List.map e3 b_bald)),.fmp (List.map m197_3 mf)]))] 1 0) ?_
 obtain ⟨r0,hx_4,h⟩:=bsome h
 refine r_callvZ (zr:=[]) trivial rfl (.fn _) (by kernel_rfl) rfl (k131 p _ hx_4) trivial ⟨.refl _,trivial⟩ rfl rfl rfl rfl ?_
 refine aX 2 (sT [(1,jI kind),pR 2 0,(13,jI r0),(14,.agg [.d (.sl 4 (List.map e65 b_HarnessBook.Hair.Hanks)),.d (.sl 3 (List.map e67 b_HarnessBook.Hair.Horses)),jI b_HarnessBook.Hair.Dark,jI b_HarnessBook.Hair.Near,jI b_HarnessBook.Hair.Match,.d (.sl 1 (List.map e51 b_HarnessBook.Needs)),.d (.sl 2 (List.map e33 b_HarnessBook.Stock)),jI b_HarnessBook.Pack,jI b_HarnessBook.Bad,.d (.sl 1 (List.map e3 b_bald)),.fmp (List.map m197_3 mf)]),(15,jI kind)] [(0,.var 144 (catV (cv83 b_HarnessBook) [.d (.sl 1 (List.map e3 b_bald)),.fmp (List.map m197_3 mf)]))] 1 0) ?_
 obtain ⟨r0_1,hx_5,h⟩:=bsome h
 refine r_call trivial rfl (k102 b_HarnessBook b_bald mf kind _ hx_5) rfl rfl ?_
 refine aX 7 (sT [(21,jI (wr (r0+(wr (r0_1*b_HarnessBook.Pack))))),(22,.agg [.d (.sl 4 (List.map e65 b_HarnessBook.Hair.Hanks)),.d (.sl 3 (List.map e67 b_HarnessBook.Hair.Horses)),jI b_HarnessBook.Hair.Dark,jI b_HarnessBook.Hair.Near,jI b_HarnessBook.Hair.Match,.d (.sl 1 (List.map e51 b_HarnessBook.Needs)),.d (.sl 2 (List.map e33 b_HarnessBook.Stock)),jI b_HarnessBook.Pack,jI b_HarnessBook.Bad,.d (.sl 1 (List.map e3 b_bald)),.fmp (List.map m197_3 mf)]),(23,jI kind)] [(0,.var 144 (catV (cv83 b_HarnessBook) [.d (.sl 1 (List.map e3 b_bald)),.fmp (List.map m197_3 mf)]))] 1 0) ?_
 obtain ⟨r0_2,hx_6,h⟩:=bsome h
 refine r_call trivial rfl (k130 b_HarnessBook b_bald mf kind _ hx_6) rfl rfl ?_
 refine aX 2 (sT [(4,jI (wr ((wr (r0+(wr (r0_1*b_HarnessBook.Pack)))) - r0_2)))] [(0,.var 144 (catV (cv83 b_HarnessBook) [.d (.sl 1 (List.map e3 b_bald)),.fmp (List.map m197_3 mf)]))] 1 0) ?_
 refine Fi (sT [(4,jI (wr ((wr (r0+(wr (r0_1*b_HarnessBook.Pack)))) - r0_2)))] [] 1 0) ?_
 refine hQ_1 _ ?_
 obtain rfl:=Option.some.inj h
 exact rT hR_0 (.cons (.tmp rfl) .nil)
def g45 (x:HarnessBook) (kind:Int):Option (Span×Int):=(g98 x kind).bind fun r0_1=>(g92 x r0_1).bind fun r_12=>match r_12 with | .next (r0_HarnessBook3,r0_bald3,r1_1)=>(must (decide (r1_1≠0))).bind fun _=>some ((Span.mk 0 0),r1_1) | .brk (r0_HarnessBook4,r0_bald4,mf1,r1_2)=>bif (decide (r1_2≠0)) then (some ((Span.mk 0 0),r1_2)) else ((g156 r0_HarnessBook4 r0_bald4 mf1 kind).bind fun r0_3=>(g157 r0_HarnessBook4 r0_bald4 mf1 kind).bind fun r0_3_1=>some ((Span.mk r0_3 r0_3_1),0))
theorem k45 (x:HarnessBook) (kind:Int) (r:Span×Int) (h:g45 x kind=some r):SCall Tryd.prog Gs 45 [.agg [.d (.sl 4 (List.map e65 x.Hair.Hanks)),.d (.sl 3 (List.map e67 x.Hair.Horses)),jI x.Hair.Dark,jI x.Hair.Near,jI x.Hair.Match,.d (.sl 1 (List.map e51 x.Needs)),.d (.sl 2 (List.map e33 x.Stock)),jI x.Pack,jI x.Bad],jI kind] [] 0 Fr.emp (match r with | (r0_4,r1_4)=>.tup [.agg [jI r0_4.Low,jI r0_4.High],jI r1_4]) [] 0 Fr.emp:=by
 unfold g45 at h
 refine SCall.mkK Tryd.func45 c45 rfl rfl (by kernel_rfl) (fun Q_0 hR_0 hN_0=>?_)
 refine Sa (sT [(1,jI kind),pR 2 0,pR 4 1] [(1,.var 33 [jI 0,jI 0]),(0,.var 83 (cv83 x))] 2 0) ?_
 refine AW.sdrwK fokW (fun Q_1 hQ_1=>?_)
 refine aX 3 (sT [(1,jI kind),pR 4 1,(9,.agg [.d (.sl 4 (List.map e65 x.Hair.Hanks)),.d (.sl 3 (List.map e67 x.Hair.Horses)),jI x.Hair.Dark,jI x.Hair.Near,jI x.Hair.Match,.d (.sl 1 (List.map e51 x.Needs)),.d (.sl 2 (List.map e33 x.Stock)),jI x.Pack,jI x.Bad]),(10,.agg [.d (.sl 4 (List.map e65 x.Hair.Hanks)),.d (.sl 3 (List.map e67 x.Hair.Horses)),jI x.Hair.Dark,jI x.Hair.Near,jI x.Hair.Match,.d (.sl 1 (List.map e51 x.Needs)),.d (.sl 2 (List.map e33 x.Stock)),jI x.Pack,jI x.Bad]),(11,jI kind)] [(1,.var 33 [jI 0,jI 0]),(0,.var 83 (cv83 x))] 2 0) ?_
 obtain ⟨r0_1,hx_2,h⟩:=bsome h
 refine r_call trivial rfl (k98 x kind _ hx_2) rfl rfl ?_
 obtain ⟨r_12,hx_3,h⟩:=bsome h
 rcases r_12 with (⟨r0_HarnessBook3,r0_bald3,r1_1⟩ | (⟨r0_HarnessBook4,r0_bald4,mf1,r1_2⟩))
 ·refine r_call trivial rfl (k92 x r0_1 _ hx_3) rfl rfl ?_
  obtain ⟨_,hv_4,h⟩:=bsome h
  have hf_5:=must_ok hv_4
  refine aX 6 (sT [(1,jI kind),pR 4 1,pR 6 2,(7,jI r1_1)] [(2,.var 144 (catV (cv83 r0_HarnessBook3) [.d (.sl 1 (List.map e3 r0_bald3)),.d (.nilMap)])),(1,.var 33 [jI 0,jI 0]),(0,.var 83 (cv83 x))] 3 0) ?_
  refine Fi (sT [(1,jI kind),pR 4 1,pR 6 2,(7,jI r1_1)] [(2,.var 144 (catV (cv83 r0_HarnessBook3) [.d (.sl 1 (List.map e3 r0_bald3)),.d (.nilMap)])),(1,.var 33 [jI 0,jI 0])] 3 0) ?_
  refine hQ_1 _ ?_
  refine AW.seqK (fun K_6 hK_6=>?_)
  refine Sa (sT [(1,jI kind),pR 4 1,pR 6 2,(7,jI r1_1),(17,.d (.bool (decide (r1_1≠0))))] [(2,.var 144 (catV (cv83 r0_HarnessBook3) [.d (.sl 1 (List.map e3 r0_bald3)),.d (.nilMap)])),(1,.var 33 [jI 0,jI 0])] 3 0) ?_
  refine AW.cond rfl (fun hb_7=>?_) (fun hb_7=>False.elim (by rw [hf_5] at hb_7;cases hb_7))
  refine Sa (sT [pR 4 1,(5,jI r1_1)] [(1,.var 33 [jI 0,jI 0])] 3 0) ?_
  obtain rfl:=Option.some.inj h
  exact rT hR_0 (.cons (.agg rfl rfl (Nat.le_of_ble_eq_true rfl)) (.cons (.tmp rfl) .nil))
 ·refine r_call trivial rfl (k92 x r0_1 _ hx_3) rfl rfl ?_
  refine aX 6 (sT [(1,jI kind),pR 4 1,pR 6 2,(7,jI r1_2)] [(2,.var 144 (catV (cv83 r0_HarnessBook4) [.d (.sl 1 (List.map e3 r0_bald4)),.fmp (List.map m197_3 mf1)])),(1,.var 33 [jI 0,jI 0]),(0,.var 83 (cv83 x))] 3 0) ?_
  refine Fi (sT [(1,jI kind),pR 4 1,pR 6 2,(7,jI r1_2)] [(2,.var 144 (catV (cv83 r0_HarnessBook4) [.d (.sl 1 (List.map e3 r0_bald4)),.fmp (List.map m197_3 mf1)])),(1,.var 33 [jI 0,jI 0])] 3 0) ?_
  refine hQ_1 _ ?_
  refine AW.seqK (fun K_8 hK_8=>?_)
  refine Sa (sT [(1,jI kind),pR 4 1,pR 6 2,(7,jI r1_2),(17,.d (.bool (decide (r1_2≠0))))] [(2,.var 144 (catV (cv83 r0_HarnessBook4) [.d (.sl 1 (List.map e3 r0_bald4)),.fmp (List.map m197_3 mf1)])),(1,.var 33 [jI 0,jI 0])] 3 0) ?_
  refine AW.cond rfl (fun hb_9=>?_) (fun hb_9=>?_)
  ·have h:=ifT hb_9 h
   refine Sa (sT [pR 4 1,(5,jI r1_2)] [(1,.var 33 [jI 0,jI 0])] 3 0) ?_
   obtain rfl:=Option.some.inj h
   exact rT hR_0 (.cons (.agg rfl rfl (Nat.le_of_ble_eq_true rfl)) (.cons (.tmp rfl) .nil))
  ·have h:=ifF hb_9 h
   refine AW.skip (hK_8 _ ?_)
   refine AW.sdrwK fokW (fun Q_10 hQ_10=>?_)
   refine aX 4 (sT [(1,jI kind),pR 4 1,pR 6 2,(21,.d (.fn 156)),(22,.agg [.d (.sl 4 (List.map e65 r0_HarnessBook4.Hair.Hanks)),.d (.sl 3 (List.map e67 r0_HarnessBook4.Hair.Horses)),jI r0_HarnessBook4.Hair.Dark,jI r0_HarnessBook4.Hair.Near,jI r0_HarnessBook4.Hair.Match,.d (.sl 1 (List.map e51 r0_HarnessBook4.Needs)),.d (.sl 2 (List.map e33 r0_HarnessBook4.Stock)),jI r0_HarnessBook4.Pack,jI r0_HarnessBook4.Bad,.d (.sl 1 (List.map e3 r0_bald4)),.fmp (List.map m197_3 mf1)]),(23,jI kind)] [(2,.var 144 (catV (cv83 r0_HarnessBook4) [.d (.sl 1 (List.map e3 r0_bald4)),.fmp (List.map m197_3 mf1)])),(1,.var 33 [jI 0,jI 0])] 3 0) ?_
   obtain ⟨r0_3,hx_11,h⟩:=bsome h
   refine r_callvZ (zr:=[]) trivial rfl (.fn _) (by kernel_rfl) rfl (k156 r0_HarnessBook4 r0_bald4 mf1 kind _ hx_11) trivial ⟨.refl _,.refl _,trivial⟩ rfl rfl rfl rfl ?_
   refine aX 4 (sT [pR 4 1,(24,jI r0_3),(26,.d (.fn 157)),(27,.agg [.d (.sl 4 (List.map e65 r0_HarnessBook4.Hair.Hanks)),.d (.sl 3 (List.map e67 r0_HarnessBook4.Hair.Horses)),jI r0_HarnessBook4.Hair.Dark,jI r0_HarnessBook4.Hair.Near,jI r0_HarnessBook4.Hair.Match,.d (.sl 1 (List.map e51 r0_HarnessBook4.Needs)),.d (.sl 2 (List.map e33 r0_HarnessBook4.Stock)),jI r0_HarnessBook4.Pack,jI r0_HarnessBook4.Bad,.d (.sl 1 (List.map e3 r0_bald4)),.fmp (List.map m197_3 mf1)]),(28,jI kind)] [(2,.var 144 (catV (cv83 r0_HarnessBook4) [.d (.sl 1 (List.map e3 r0_bald4)),.fmp (List.map m197_3 mf1)])),(1,.var 33 [jI 0,jI 0])] 3 0) ?_
   obtain ⟨r0_3_1,hx_12,h⟩:=bsome h
   refine r_callvZ (zr:=[]) trivial rfl (.fn _) (by kernel_rfl) rfl (k157 r0_HarnessBook4 r0_bald4 mf1 kind _ hx_12) trivial ⟨.refl _,.refl _,trivial⟩ rfl rfl rfl rfl ?_
   refine aX 3 (sT [pR 4 1,(5,jI 0)] [(1,.var 33 [jI r0_3,jI r0_3_1]),(2,.var 144 (catV (cv83 r0_HarnessBook4) [.d (.sl 1 (List.map e3 r0_bald4)),.fmp (List.map m197_3 mf1)]))] 3 0) ?_
   refine Fi (sT [pR 4 1,(5,jI 0)] [(1,.var 33 [jI r0_3,jI r0_3_1])] 3 0) ?_
   refine hQ_10 _ ?_
   obtain rfl:=Option.some.inj h
   exact rT hR_0 (.cons (.agg rfl rfl (Nat.le_of_ble_eq_true rfl)) (.cons (.tmp rfl) .nil))
def g103 (b_HarnessBook:HarnessBook) (b_bald:(List Int)) (mf:List (Harness_want×Int)):Option Int:=(g94 b_HarnessBook b_bald mf).bind fun r0=>(g93 b_HarnessBook b_bald mf r0).bind fun (surely,perhaps)=>(g95 b_HarnessBook b_bald mf (bAndN perhaps surely)).bind fun r0_1=>some (r0_1.length:Int)
theorem k103 (b_HarnessBook:HarnessBook) (b_bald:(List Int)) (mf:List (Harness_want×Int)) (r:Int) (h:g103 b_HarnessBook b_bald mf=some r):SCall Tryd.prog Gs 103 [.agg [.d (.sl 4 (List.map e65 b_HarnessBook.Hair.Hanks)),.d (.sl 3 (List.map e67 b_HarnessBook.Hair.Horses)),jI b_HarnessBook.Hair.Dark,jI b_HarnessBook.Hair.Near,jI b_HarnessBook.Hair.Match,.d (.sl 1 (List.map e51 b_HarnessBook.Needs)),.d (.sl 2 (List.map e33 b_HarnessBook.Stock)),jI b_HarnessBook.Pack,jI b_HarnessBook.Bad,.d (.sl 1 (List.map e3 b_bald)),.fmp (List.map m197_3 mf)]] [] 0 Fr.emp (jI r) [] 0 Fr.emp:=by
 unfold g103 at h
 refine SCall.mkK Tryd.func103 c103 rfl rfl (by kernel_rfl) (fun Q_0 hR_0 hN_0=>?_)
 refine Sa (sT [pR 1 0] [(0,.var 144 (catV (cv83 b_HarnessBook) [.d (.sl 1 (List.map e3 b_bald)),.fmp (List.map m197_3 mf)]))] 1 0) ?_
 refine AW.sdrwK fokW (fun Q_1 hQ_1=>?_)
 refine aX 2 (sT [pR 1 0,(6,.agg [.d (.sl 4 (List.map e65 b_HarnessBook.Hair.Hanks)),.d (.sl 3 (List.map e67 b_HarnessBook.Hair.Horses)),jI b_HarnessBook.Hair.Dark,jI b_HarnessBook.Hair.Near,jI b_HarnessBook.Hair.Match,.d (.sl 1 (List.map e51 b_HarnessBook.Needs)),.d (.sl 2 (List.map e33 b_HarnessBook.Stock)),jI b_HarnessBook.Pack,jI b_HarnessBook.Bad,.d (.sl 1 (List.map e3 b_bald)),.fmp (List.map m197_3 mf)]),(7,.agg [.d (.sl 4 (List.map e65 b_HarnessBook.Hair.Hanks)),.d (.sl 3 (List.map e67 b_HarnessBook.Hair.Horses)),jI b_HarnessBook.Hair.Dark,jI b_HarnessBook.Hair.Near,jI b_HarnessBook.Hair.Match,.d (.sl 1 (List.map e51 b_HarnessBook.Needs)),.d (.sl 2 (List.map e33 b_HarnessBook.Stock)),jI b_HarnessBook.Pack,jI b_HarnessBook.Bad,.d (.sl 1 (List.map e3 b_bald)),.fmp (List.map m197_3 mf)])] [(0,.var 144 (catV (cv83 b_HarnessBook) [.d (.sl 1 (List.map e3 b_bald)),.fmp (List.map m197_3 mf)]))] 1 0) ?_
 obtain ⟨r0,hx_2,h⟩:=bsome h
 refine r_call trivial rfl (k94 b_HarnessBook b_bald mf _ hx_2) rfl rfl ?_
 obtain ⟨⟨surely,perhaps⟩,hx_3,h⟩:=bsome h
 refine r_call trivial rfl (k93 b_HarnessBook b_bald mf r0 _ hx_3) rfl rfl ?_
 refine aX 5 (sT [pR 1 0,(3,jI surely),(4,jI perhaps)] [(0,.var 144 (catV (cv83 b_HarnessBook) [.d (.sl 1 (List.map e3 b_bald)),.fmp (List.map m197_3 mf)]))] 1 0) ?_
 refine Fi (sT [pR 1 0,(3,jI surely),(4,jI perhaps)] [(0,.var 144 (catV (cv83 b_HarnessBook) [.d (.sl 1 (List.map e3 b_bald)),.fmp (List.map m197_3 mf)]))] 1 0) ?_
 refine hQ_1 _ ?_
 refine AW.srwK (fun Q_4 hQ_4=>?_)
 refine Au 3 (sT [(12,.agg [.d (.sl 4 (List.map e65 b_HarnessBook.Hair.Hanks)),.d (.sl 3 (List.map e67 b_HarnessBook.Hair.Horses)),jI b_HarnessBook.Hair.Dark,jI b_HarnessBook.Hair.Near,jI b_HarnessBook.Hair.Match,.d (.sl 1 (List.map e51 b_HarnessBook.Needs)),.d (.sl 2 (List.map e33 b_HarnessBook.Stock)),jI b_HarnessBook.Pack,jI b_HarnessBook.Bad,.d (.sl 1 (List.map e3 b_bald)),.fmp (List.map m197_3 mf)]),(13,jI perhaps),(14,jI surely)] [] 1 0) ?_
 refine RW.one fokW (r_andN trivial rfl rfl (r_end ?_))
 obtain ⟨r0_1,hx_5,h⟩:=bsome h
 refine rC (k95 b_HarnessBook b_bald mf (bAndN perhaps surely) _ hx_5) ?_
 refine rL rfl ?_
 refine Au 1 (sT [(2,jI (r0_1.length:Int))] [] 1 0) ?_
 refine RW.nil (hQ_4 _ ?_)
 obtain rfl:=Option.some.inj h
 exact rT hR_0 (.cons (.tmp rfl) .nil)
def g104 (s:(List Span)):Option (List Span):=(must (decide (0<(s.length:Int)))).bind fun _=>(appL 16 ([]:List Span) s).bind fun l=>some l
theorem k104 (s:(List Span)) (r:List Span) (h:g104 s=some r):SCall Tryd.prog Gs 104 [.d (.sl 2 (List.map e33 s))] [] 0 Fr.emp (.own 0 (List.map e33 r).length) [(0,.row 33 2 (List.map e33 r))] 1 Fr.emp:=by
 unfold g104 at h
 refine SCall.mkK Tryd.func104 c104 rfl rfl (by kernel_rfl) (fun Q_0 hR_0 hN_0=>?_)
 refine Sa (sT [(0,.d (.sl 2 (List.map e33 s)))] [] 0 0) ?_
 refine AW.seqK fun K_1 hK_1=>AW.srwK fun Q_2 hQ_2=>?_
 refine Au 1 (sT [(0,.d (.sl 2 (List.map e33 s))),(3,.d (.sl 2 (List.map e33 s)))] [] 0 0) ?_
 obtain ⟨_,hv_3,h⟩:=bsome h
 refine RW.one fokW (r_snil trivial rfl (of_decide_eq_true (must_ok hv_3)) (r_end ?_))
 refine RW.nil (hQ_2 _ ?_)
 refine AW.condF rfl ?_
 refine AW.skip (hK_1 _ ?_)
 refine AW.srwK (fun Q_4 hQ_4=>?_)
 refine Au 2 (sT [(5,.own 0 (List.map e33 []).length),(6,.d (.sl 2 (List.map e33 s)))] [(0,.row 33 2 (List.map e33 []))] 1 0) ?_
 obtain ⟨l,hv_5,h⟩:=bsome h
 refine RW.one fokW (r_apD trivial rfl rfl rfl rfl (apz hv_5 e33) (apr hv_5 e33) (r_end ?_))
 refine Au 1 (sT [(2,.own 0 (List.map e33 l).length)] [(0,.row 33 2 (List.map e33 l))] 1 0) ?_
 refine RW.nil (hQ_4 _ ?_)
 obtain rfl:=Option.some.inj h
 exact rT hR_0 (.cons (.tmp rfl) .nil)
def g46_21 (x:HarnessBook) (r0_HarnessBook4:HarnessBook) (r0_bald4:(List Int)) (mf1:List (Harness_want×Int)) (v:Int) (p:Span):Int→Int→Option Int:=fun v1 worst=>(g104 x.Stock).bind fun r0=>(ixL r0 v).bind fun p1=>(g103 (HarnessBook.mk r0_HarnessBook4.Hair r0_HarnessBook4.Needs (setL r0 v (Span.mk (wr (p.Low+v1)) (wr (p.Low+v1)))) r0_HarnessBook4.Pack r0_HarnessBook4.Bad) r0_bald4 mf1).bind fun r0_2_1=>some (max worst r0_2_1)
def g46_15 (x:HarnessBook) (r0_HarnessBook4:HarnessBook) (r0_bald4:(List Int)) (mf1:List (Harness_want×Int)):Int→Span→(Int×Int)→Option (Int×Int):=fun v p (best,least)=>(forS (g46_21 x r0_HarnessBook4 r0_bald4 mf1 v p) ((((wr ((wr (p.High - p.Low))+1)):Int) - 0).toNat) 0 0).bind fun worst=>bif ((decide (best<0))||(decide (worst<least))) then (some (v,worst)) else (some (best,least))
def g46 (x:HarnessBook):Option (Int×Int):=(g92 x true).bind fun r_35=>match r_35 with | .next (r0_HarnessBook3,r0_bald3,r1_1)=>(must (decide (r1_1≠0))).bind fun _=>some (0,r1_1) | .brk (r0_HarnessBook4,r0_bald4,mf1,r1_2)=>bif (decide (r1_2≠0)) then (some (0,r1_2)) else ((g103 r0_HarnessBook4 r0_bald4 mf1).bind fun r0_2=>bif (decide (r0_2=0)) then (some (0,4)) else ((eachS (g46_15 x r0_HarnessBook4 r0_bald4 mf1) x.Stock 0 ((-1),0)).bind fun (best,least)=>some (best,0)))
theorem k46 (x:HarnessBook) (r:Int×Int) (h:g46 x=some r):SCall Tryd.prog Gs 46 [.agg [.d (.sl 4 (List.map e65 x.Hair.Hanks)),.d (.sl 3 (List.map e67 x.Hair.Horses)),jI x.Hair.Dark,jI x.Hair.Near,jI x.Hair.Match,.d (.sl 1 (List.map e51 x.Needs)),.d (.sl 2 (List.map e33 x.Stock)),jI x.Pack,jI x.Bad]] [] 0 Fr.emp (match r with | (r0_5,r1_5)=>.tup [jI r0_5,jI r1_5]) [] 0 Fr.emp:=by
 unfold g46 at h
 refine SCall.mkK Tryd.func46 c46 rfl rfl (by kernel_rfl) (fun Q_0 hR_0 hN_0=>?_)
 refine Sa (sT [pR 1 0] [(0,.var 83 (cv83 x))] 1 0) ?_
 refine AW.srwK (fun Q_1 hQ_1=>?_)
 refine Au 1 (sT [pR 1 0,(14,.agg [.d (.sl 4 (List.map e65 x.Hair.Hanks)),.d (.sl 3 (List.map e67 x.Hair.Horses)),jI x.Hair.Dark,jI x.Hair.Near,jI x.Hair.Match,.d (.sl 1 (List.map e51 x.Needs)),.d (.sl 2 (List.map e33 x.Stock)),jI x.Pack,jI x.Bad])] [(0,.var 83 (cv83 x))] 1 0) ?_
 obtain ⟨r_35,hx_2,h⟩:=bsome h
 rcases r_35 with (⟨r0_HarnessBook3,r0_bald3,r1_1⟩ | (⟨r0_HarnessBook4,r0_bald4,mf1,r1_2⟩))
 ·refine rC (k92 x true _ hx_2) ?_
  obtain ⟨_,hv_3,h⟩:=bsome h
  have hf_4:=must_ok hv_3
  refine Au 6 (sT [pR 1 0,pR 4 1,(5,jI r1_1)] [(1,.var 144 (catV (cv83 r0_HarnessBook3) [.d (.sl 1 (List.map e3 r0_bald3)),.d (.nilMap)])),(0,.var 83 (cv83 x))] 2 0) ?_
  refine RW.nil (hQ_1 _ ?_)
  refine AW.seqK (fun K_5 hK_5=>?_)
  refine Sa (sT [pR 1 0,pR 4 1,(5,jI r1_1),(19,.d (.bool (decide (r1_1≠0))))] [(1,.var 144 (catV (cv83 r0_HarnessBook3) [.d (.sl 1 (List.map e3 r0_bald3)),.d (.nilMap)])),(0,.var 83 (cv83 x))] 2 0) ?_
  refine AW.cond rfl (fun hb_6=>?_) (fun hb_6=>False.elim (by rw [hf_4] at hb_6;cases hb_6))
  refine Sa (sT [(2,jI 0),(3,jI r1_1)] [] 2 0) ?_
  obtain rfl:=Option.some.inj h
  exact rT hR_0 (.cons (.tmp rfl) (.cons (.tmp rfl) .nil))
 ·refine rC (k92 x true _ hx_2) ?_
  refine Au 6 (sT [pR 1 0,pR 4 1,(5,jI r1_2)] [(1,.var 144 (catV (cv83 r0_HarnessBook4) [.d (.sl 1 (List.map e3 r0_bald4)),.fmp (List.map m197_3 mf1)])),(0,.var 83 (cv83 x))] 2 0) ?_
  refine RW.nil (hQ_1 _ ?_)
  refine AW.seqK (fun K_7 hK_7=>?_)
  refine Sa (sT [pR 1 0,pR 4 1,(5,jI r1_2),(19,.d (.bool (decide (r1_2≠0))))] [(1,.var 144 (catV (cv83 r0_HarnessBook4) [.d (.sl 1 (List.map e3 r0_bald4)),.fmp (List.map m197_3 mf1)])),(0,.var 83 (cv83 x))] 2 0) ?_
  refine AW.cond rfl (fun hb_8=>?_) (fun hb_8=>?_)
  ·have h:=ifT hb_8 h
   refine Sa (sT [(2,jI 0),(3,jI r1_2)] [] 2 0) ?_
   obtain rfl:=Option.some.inj h
   exact rT hR_0 (.cons (.tmp rfl) (.cons (.tmp rfl) .nil))
  ·have h:=ifF hb_8 h
   refine AW.skip (hK_7 _ ?_)
   refine AW.seqK fun K_9 hK_9=>AW.srwK fun Q_10 hQ_10=>?_
   refine Au 1 (sT [pR 1 0,pR 4 1,(21,.agg [.d (.sl 4 (List.map e65 r0_HarnessBook4.Hair.Hanks)),.d (.sl 3 (List.map e67 r0_HarnessBook4.Hair.Horses)),jI r0_HarnessBook4.Hair.Dark,jI r0_HarnessBook4.Hair.Near,jI r0_HarnessBook4.Hair.Match,.d (.sl 1 (List.map e51 r0_HarnessBook4.Needs)),.d (.sl 2 (List.map e33 r0_HarnessBook4.Stock)),jI r0_HarnessBook4.Pack,jI r0_HarnessBook4.Bad,.d (.sl 1 (List.map e3 r0_bald4)),.fmp (List.map m197_3 mf1)])] [(1,.var 144 (catV (cv83 r0_HarnessBook4) [.d (.sl 1 (List.map e3 r0_bald4)),.fmp (List.map m197_3 mf1)])),(0,.var 83 (cv83 x))] 2 0) ?_
   obtain ⟨r0_2,hx_11,h⟩:=bsome h
   refine rC (k103 r0_HarnessBook4 r0_bald4 mf1 _ hx_11) ?_
   refine Au 1 (sT [pR 1 0,pR 4 1,(23,.d (.bool (decide (r0_2=0))))] [(1,.var 144 (catV (cv83 r0_HarnessBook4) [.d (.sl 1 (List.map e3 r0_bald4)),.fmp (List.map m197_3 mf1)])),(0,.var 83 (cv83 x))] 2 0) ?_
   refine RW.nil (hQ_10 _ ?_)
   refine AW.cond rfl (fun hb_12=>?_) (fun hb_12=>?_)
   ·have h:=ifT hb_12 h
    refine Sa (sT [(2,jI 0),(3,jI 4)] [] 2 0) ?_
    obtain rfl:=Option.some.inj h
    exact rT hR_0 (.cons (.tmp rfl) (.cons (.tmp rfl) .nil))
   ·have h:=ifF hb_12 h
    refine AW.skip (hK_9 _ ?_)
    refine Sa (sT [pR 1 0,pR 4 1,(6,jI (-1)),(7,jI 0)] [(1,.var 144 (catV (cv83 r0_HarnessBook4) [.d (.sl 1 (List.map e3 r0_bald4)),.fmp (List.map m197_3 mf1)])),(0,.var 83 (cv83 x))] 2 0) ?_
    refine AW.seqK fun K_13 hK_13=>AW.srwK fun Q_14 hQ_14=>?_
    refine Au 2 (sT [pR 1 0,pR 4 1,(6,jI (-1)),(7,jI 0),(25,.d (.sl 2 (List.map e33 x.Stock)))] [(1,.var 144 (catV (cv83 r0_HarnessBook4) [.d (.sl 1 (List.map e3 r0_bald4)),.fmp (List.map m197_3 mf1)])),(0,.var 83 (cv83 x))] 2 0) ?_
    refine rL rfl ?_
    refine Au 1 (sT [pR 1 0,pR 4 1,(6,jI (-1)),(7,jI 0),(25,.d (.sl 2 (List.map e33 x.Stock))),(26,jI (x.Stock.length:Int)),(27,jI 0)] [(1,.var 144 (catV (cv83 r0_HarnessBook4) [.d (.sl 1 (List.map e3 r0_bald4)),.fmp (List.map m197_3 mf1)])),(0,.var 83 (cv83 x))] 2 0) ?_
    refine RW.nil (hQ_14 _ ?_)
    refine AW.block ?_
    refine AW.sln (t:=25) rfl (fun hN_15=>?_)
    rw [List.length_map] at hN_15
    obtain ⟨out_15,hx_15,h⟩:=bsome h
    refine AW.evSK (fun (v:Int) (⟨best,least⟩:Int×Int)=>(sT [pR 1 0,pR 4 1,(6,jI best),(7,jI least),(25,.d (.sl 2 (List.map e33 x.Stock))),(26,jI (x.Stock.length:Int)),(27,jI v)] [(1,.var 144 (catV (cv83 r0_HarnessBook4) [.d (.sl 1 (List.map e3 r0_bald4)),.fmp (List.map m197_3 mf1)])),(0,.var 83 (cv83 x))] 2 0)) (g46_15 x r0_HarnessBook4 r0_bald4 mf1) hx_15 (Can.kp (by kernel_rfl)) (fun v p s_15 hi_15 hl_15 hp_15 c_15 h K_15 hK_15=>?_) (fun v s_15 hi_15 hl_15 hout=>?_)
    ·obtain ⟨best,least⟩:=s_15
     unfold g46_15 at h
     refine Sa (sT [pR 1 0,pR 4 1,(6,jI best),(7,jI least),(25,.d (.sl 2 (List.map e33 x.Stock))),(26,jI (x.Stock.length:Int)),(27,jI v),(28,.d (.bool (decide (v<(x.Stock.length:Int)))))] [(1,.var 144 (catV (cv83 r0_HarnessBook4) [.d (.sl 1 (List.map e3 r0_bald4)),.fmp (List.map m197_3 mf1)])),(0,.var 83 (cv83 x))] 2 0) ?_
     refine AW.seqK (fun K_16 hK_16=>?_)
     refine AW.cond rfl (fun hb_17=>?_) (fun hb_17=>False.elim (by have:=of_decide_eq_false hb_17;omega))
     refine AW.skip (hK_16 _ ?_)
     refine AW.seqK (fun K_18 hK_18=>?_)
     refine AW.block ?_
     refine AW.srwK (fun Q_19 hQ_19=>?_)
     refine Au 1 (sT [pR 1 0,pR 4 1,(6,jI best),(7,jI least),(25,.d (.sl 2 (List.map e33 x.Stock))),(26,jI (x.Stock.length:Int)),(27,jI v),(29,jI v)] [(1,.var 144 (catV (cv83 r0_HarnessBook4) [.d (.sl 1 (List.map e3 r0_bald4)),.fmp (List.map m197_3 mf1)])),(0,.var 83 (cv83 x))] 2 0) ?_
     refine RW.one fokW (r_iaD trivial rfl rfl hi_15 (row:=e33 p) (mapget hp_15) (r_end ?_))
     refine Au 4 (sT [pR 1 0,pR 4 1,(6,jI best),(7,jI least),(8,jI v),pR 9 2,(25,.d (.sl 2 (List.map e33 x.Stock))),(26,jI (x.Stock.length:Int)),(27,jI v)] [(2,.var 33 [jI p.Low,jI p.High]),(1,.var 144 (catV (cv83 r0_HarnessBook4) [.d (.sl 1 (List.map e3 r0_bald4)),.fmp (List.map m197_3 mf1)])),(0,.var 83 (cv83 x))] 3 0) ?_
     refine RW.nil (hQ_19 _ ?_)
     refine Sa (sT [pR 1 0,pR 4 1,(6,jI best),(7,jI least),(8,jI v),pR 9 2,(10,jI 0),(25,.d (.sl 2 (List.map e33 x.Stock))),(26,jI (x.Stock.length:Int)),(27,jI v)] [(2,.var 33 [jI p.Low,jI p.High]),(1,.var 144 (catV (cv83 r0_HarnessBook4) [.d (.sl 1 (List.map e3 r0_bald4)),.fmp (List.map m197_3 mf1)])),(0,.var 83 (cv83 x))] 3 0) ?_
     refine AW.seqK (fun K_20 hK_20=>?_)
     refine Sa (sT [pR 1 0,pR 4 1,(6,jI best),(7,jI least),(8,jI v),pR 9 2,(10,jI 0),(25,.d (.sl 2 (List.map e33 x.Stock))),(26,jI (x.Stock.length:Int)),(27,jI v),(37,jI (wr ((wr (p.High - p.Low))+1))),(38,jI 0)] [(2,.var 33 [jI p.Low,jI p.High]),(1,.var 144 (catV (cv83 r0_HarnessBook4) [.d (.sl 1 (List.map e3 r0_bald4)),.fmp (List.map m197_3 mf1)])),(0,.var 83 (cv83 x))] 3 0) ?_
     refine AW.block ?_
     have hN_21:(wr ((wr (p.High - p.Low))+1))≤9223372036854775807:=(wr_range _).2
     obtain ⟨out_21,hx_21,h⟩:=bsome h
     refine AW.lpSK (fun (v1:Int) (worst:Int)=>(sT [pR 1 0,pR 4 1,(6,jI best),(7,jI least),(8,jI v),pR 9 2,(10,jI worst),(25,.d (.sl 2 (List.map e33 x.Stock))),(26,jI (x.Stock.length:Int)),(27,jI v),(37,jI (wr ((wr (p.High - p.Low))+1))),(38,jI v1)] [(2,.var 33 [jI p.Low,jI p.High]),(1,.var 144 (catV (cv83 r0_HarnessBook4) [.d (.sl 1 (List.map e3 r0_bald4)),.fmp (List.map m197_3 mf1)])),(0,.var 83 (cv83 x))] 3 0)) (g46_21 x r0_HarnessBook4 r0_bald4 mf1 v p) ((wr ((wr (p.High - p.Low))+1))) hx_21 (Can.kp (by kernel_rfl)) (fun v1 worst hi_21 hl_21 c_21 h K_21 hK_21=>?_) (fun v1 worst hi_21 hl_21 hout=>?_)
     ·unfold g46_21 at h
      refine Sa (sT [pR 1 0,pR 4 1,(6,jI best),(7,jI least),(8,jI v),pR 9 2,(10,jI worst),(25,.d (.sl 2 (List.map e33 x.Stock))),(26,jI (x.Stock.length:Int)),(27,jI v),(37,jI (wr ((wr (p.High - p.Low))+1))),(38,jI v1),(39,.d (.bool (decide (v1<(wr ((wr (p.High - p.Low))+1))))))] [(2,.var 33 [jI p.Low,jI p.High]),(1,.var 144 (catV (cv83 r0_HarnessBook4) [.d (.sl 1 (List.map e3 r0_bald4)),.fmp (List.map m197_3 mf1)])),(0,.var 83 (cv83 x))] 3 0) ?_
      refine AW.seqK (fun K_22 hK_22=>?_)
      refine AW.cond rfl (fun hb_23=>?_) (fun hb_23=>False.elim (by have:=of_decide_eq_false hb_23;omega))
      refine AW.skip (hK_22 _ ?_)
      refine AW.seqK (fun K_24 hK_24=>?_)
      refine AW.block ?_
      refine Sa (sT [pR 1 0,pR 4 1,(6,jI best),(7,jI least),(8,jI v),pR 9 2,(10,jI worst),(11,jI v1),(25,.d (.sl 2 (List.map e33 x.Stock))),(26,jI (x.Stock.length:Int)),(27,jI v),(37,jI (wr ((wr (p.High - p.Low))+1))),(38,jI v1)] [(2,.var 33 [jI p.Low,jI p.High]),(1,.var 144 (catV (cv83 r0_HarnessBook4) [.d (.sl 1 (List.map e3 r0_bald4)),.fmp (List.map m197_3 mf1)])),(0,.var 83 (cv83 x))] 3 0) ?_
      refine Sa (sT [pR 1 0,pR 4 1,(6,jI best),(7,jI least),(8,jI v),pR 9 2,(10,jI worst),(11,jI v1),pR 12 3,(25,.d (.sl 2 (List.map e33 x.Stock))),(26,jI (x.Stock.length:Int)),(27,jI v),(37,jI (wr ((wr (p.High - p.Low))+1))),(38,jI v1)] [(3,.var 144 (catV (cv83 r0_HarnessBook4) [.d (.sl 1 (List.map e3 r0_bald4)),.fmp (List.map m197_3 mf1)])),(2,.var 33 [jI p.Low,jI p.High]),(1,.var 144 (catV (cv83 r0_HarnessBook4) [.d (.sl 1 (List.map e3 r0_bald4)),.fmp (List.map m197_3 mf1)])),(0,.var 83 (cv83 x))] 4 0) ?_
      refine AW.srwK (fun Q_25 hQ_25=>?_)
      refine Au 2 (sT [pR 1 0,pR 4 1,(6,jI best),(7,jI least),(8,jI v),pR 9 2,(10,jI worst),(11,jI v1),pR 12 3,(25,.d (.sl 2 (List.map e33 x.Stock))),(26,jI (x.Stock.length:Int)),(27,jI v),(37,jI (wr ((wr (p.High - p.Low))+1))),(38,jI v1),(43,.d (.sl 2 (List.map e33 x.Stock)))] [(3,.var 144 (catV (cv83 r0_HarnessBook4) [.d (.sl 1 (List.map e3 r0_bald4)),.fmp (List.map m197_3 mf1)])),(2,.var 33 [jI p.Low,jI p.High]),(1,.var 144 (catV (cv83 r0_HarnessBook4) [.d (.sl 1 (List.map e3 r0_bald4)),.fmp (List.map m197_3 mf1)])),(0,.var 83 (cv83 x))] 4 0) ?_
      obtain ⟨r0,hx_26,h⟩:=bsome h
      refine RW.one fokW (r_callS (zr:=[]) [] trivial rfl (k104 x.Stock _ hx_26) trivial rfl rfl ⟨.refl _,trivial⟩ rfl rfl rfl (r_end ?_))
      refine Au 3 (sT [pR 1 0,pR 4 1,(6,jI best),(7,jI least),(8,jI v),pR 9 2,(10,jI worst),(11,jI v1),pR 12 3,(25,.d (.sl 2 (List.map e33 x.Stock))),(26,jI (x.Stock.length:Int)),(27,jI v),(37,jI (wr ((wr (p.High - p.Low))+1))),(38,jI v1)] [(3,.var 144 (catV (cv61 r0_HarnessBook4.Hair) [.d (.sl 1 (List.map e51 r0_HarnessBook4.Needs)),.own 4 (List.map e33 r0).length,jI r0_HarnessBook4.Pack,jI r0_HarnessBook4.Bad,.d (.sl 1 (List.map e3 r0_bald4)),.fmp (List.map m197_3 mf1)])),(4,.row 33 2 (List.map e33 r0)),(2,.var 33 [jI p.Low,jI p.High]),(1,.var 144 (catV (cv83 r0_HarnessBook4) [.d (.sl 1 (List.map e3 r0_bald4)),.fmp (List.map m197_3 mf1)])),(0,.var 83 (cv83 x))] 5 0) ?_
      refine RW.nil (hQ_25 _ ?_)
      refine AW.srwK (fun Q_27 hQ_27=>?_)
      refine Au 13 (sT [pR 1 0,pR 4 1,(6,jI best),(7,jI least),(8,jI v),pR 9 2,(10,jI worst),pR 12 3,(25,.d (.sl 2 (List.map e33 x.Stock))),(26,jI (x.Stock.length:Int)),(27,jI v),(37,jI (wr ((wr (p.High - p.Low))+1))),(38,jI v1),(49,.own 4 (List.map e33 r0).length),(50,jI v),(59,.agg [jI (wr (p.Low+v1)),jI (wr (p.Low+v1))])] [(3,.var 144 (catV (cv61 r0_HarnessBook4.Hair) [.d (.sl 1 (List.map e51 r0_HarnessBook4.Needs)),.own 4 (List.map e33 r0).length,jI r0_HarnessBook4.Pack,jI r0_HarnessBook4.Bad,.d (.sl 1 (List.map e3 r0_bald4)),.fmp (List.map m197_3 mf1)])),(4,.row 33 2 (List.map e33 r0)),(2,.var 33 [jI p.Low,jI p.High]),(1,.var 144 (catV (cv83 r0_HarnessBook4) [.d (.sl 1 (List.map e3 r0_bald4)),.fmp (List.map m197_3 mf1)])),(0,.var 83 (cv83 x))] 5 0) ?_
      obtain ⟨p1,hv_28,h⟩:=bsome h
      refine RW.one fokW (r_iaO trivial rfl rfl rfl (ixL_ok hv_28).1 (ix_lt (ixL_ok hv_28).2) rfl (r_end ?_))
      refine RW.one fokW (r_stE trivial rfl rfl rfl rfl (mapget (f:=e33) (ixL_ok hv_28).2) rfl rfl rfl (Nat.le_of_ble_eq_true rfl) (stz (f:=e33) (x:=(Span.mk (wr (p.Low+v1)) (wr (p.Low+v1)))) rfl) (r_end ?_))
      rw [lenset (f:=e33) (xs:=r0) (i:=v) (x:=(Span.mk (wr (p.Low+v1)) (wr (p.Low+v1))))]
      refine RW.nil (hQ_27 _ ?_)
      refine AW.can (Can.fzH 3 6 4 rfl rfl rfl rfl) ?_
      refine AW.kp (sT [pR 1 0,pR 4 1,(6,jI best),(7,jI least),(8,jI v),pR 9 2,(10,jI worst),pR 12 3,(25,.d (.sl 2 (List.map e33 x.Stock))),(26,jI (x.Stock.length:Int)),(27,jI v),(37,jI (wr ((wr (p.High - p.Low))+1))),(38,jI v1)] [(3,.var 144 (catV (cv61 r0_HarnessBook4.Hair) [.d (.sl 1 (List.map e51 r0_HarnessBook4.Needs)),.d (.sl 2 (List.map e33 (setL r0 v (Span.mk (wr (p.Low+v1)) (wr (p.Low+v1)))))),jI r0_HarnessBook4.Pack,jI r0_HarnessBook4.Bad,.d (.sl 1 (List.map e3 r0_bald4)),.fmp (List.map m197_3 mf1)])),(2,.var 33 [jI p.Low,jI p.High]),(1,.var 144 (catV (cv83 r0_HarnessBook4) [.d (.sl 1 (List.map e3 r0_bald4)),.fmp (List.map m197_3 mf1)])),(0,.var 83 (cv83 x))] 5 0) (by kernel_rfl) ?_
      refine AW.rw ?_
      refine Au 2 (sT [pR 1 0,pR 4 1,(6,jI best),(7,jI least),(8,jI v),pR 9 2,(25,.d (.sl 2 (List.map e33 x.Stock))),(26,jI (x.Stock.length:Int)),(27,jI v),(37,jI (wr ((wr (p.High - p.Low))+1))),(38,jI v1),(61,jI worst),(62,.agg [.d (.sl 4 (List.map e65 r0_HarnessBook4.Hair.Hanks)),.d (.sl 3 (List.map e67 r0_HarnessBook4.Hair.Horses)),jI r0_HarnessBook4.Hair.Dark,jI r0_HarnessBook4.Hair.Near,jI r0_HarnessBook4.Hair.Match,.d (.sl 1 (List.map e51 r0_HarnessBook4.Needs)),.d (.sl 2 (List.map e33 (setL r0 v (Span.mk (wr (p.Low+v1)) (wr (p.Low+v1)))))),jI r0_HarnessBook4.Pack,jI r0_HarnessBook4.Bad,.d (.sl 1 (List.map e3 r0_bald4)),.fmp (List.map m197_3 mf1)])] [(2,.var 33 [jI p.Low,jI p.High]),(1,.var 144 (catV (cv83 r0_HarnessBook4) [.d (.sl 1 (List.map e3 r0_bald4)),.fmp (List.map m197_3 mf1)])),(0,.var 83 (cv83 x))] 5 0) ?_
      obtain ⟨r0_2_1,hx_30,h⟩:=bsome h
      refine rC (k103 (HarnessBook.mk r0_HarnessBook4.Hair r0_HarnessBook4.Needs (setL r0 v (Span.mk (wr (p.Low+v1)) (wr (p.Low+v1)))) r0_HarnessBook4.Pack r0_HarnessBook4.Bad) r0_bald4 mf1 _ hx_30) ?_
      refine Au 2 (sT [pR 1 0,pR 4 1,(6,jI best),(7,jI least),(8,jI v),pR 9 2,(10,jI (max worst r0_2_1)),(25,.d (.sl 2 (List.map e33 x.Stock))),(26,jI (x.Stock.length:Int)),(27,jI v),(37,jI (wr ((wr (p.High - p.Low))+1))),(38,jI v1)] [(2,.var 33 [jI p.Low,jI p.High]),(1,.var 144 (catV (cv83 r0_HarnessBook4) [.d (.sl 1 (List.map e3 r0_bald4)),.fmp (List.map m197_3 mf1)])),(0,.var 83 (cv83 x))] 5 0) ?_
      refine RW.nil ?_
      refine hK_24 _ ?_
      refine Ra (sT [pR 1 0,pR 4 1,(6,jI best),(7,jI least),(8,jI v),pR 9 2,(10,jI (max worst r0_2_1)),(25,.d (.sl 2 (List.map e33 x.Stock))),(26,jI (x.Stock.length:Int)),(27,jI v),(37,jI (wr ((wr (p.High - p.Low))+1))),(38,jI (wr (v1+1)))] [(2,.var 33 [jI p.Low,jI p.High]),(1,.var 144 (catV (cv83 r0_HarnessBook4) [.d (.sl 1 (List.map e3 r0_bald4)),.fmp (List.map m197_3 mf1)])),(0,.var 83 (cv83 x))] 5 0) ?_
      obtain rfl:=Option.some.inj h
      have ew:wr (v1+1)=v1+1:=inext (N:=(wr ((wr (p.High - p.Low))+1))) (by omega) (by omega) (by omega)
      rw [ew]
      exact hK_21 _ (Can.kp (by kernel_rfl))
     ·subst hout
      refine Sa (sT [pR 1 0,pR 4 1,(6,jI best),(7,jI least),(8,jI v),pR 9 2,(10,jI worst),(25,.d (.sl 2 (List.map e33 x.Stock))),(26,jI (x.Stock.length:Int)),(27,jI v),(37,jI (wr ((wr (p.High - p.Low))+1))),(38,jI v1),(39,.d (.bool (decide (v1<(wr ((wr (p.High - p.Low))+1))))))] [(2,.var 33 [jI p.Low,jI p.High]),(1,.var 144 (catV (cv83 r0_HarnessBook4) [.d (.sl 1 (List.map e3 r0_bald4)),.fmp (List.map m197_3 mf1)])),(0,.var 83 (cv83 x))] 3 0) ?_
      refine AW.seqK (fun K_31 hK_31=>?_)
      refine AW.cond rfl (fun hb_32=>False.elim (by have:=of_decide_eq_true hb_32;omega)) (fun hb_32=>?_)
      refine AW.exit ?_
      refine hK_20 _ ?_
      refine AW.sa fokW [68] (sT [pR 1 0,pR 4 1,(6,jI best),(7,jI least),(8,jI v),(10,jI worst),(25,.d (.sl 2 (List.map e33 x.Stock))),(26,jI (x.Stock.length:Int)),(27,jI v),(72,.d (.bool ((decide (best<0))||(decide (worst<least)))))] [(1,.var 144 (catV (cv83 r0_HarnessBook4) [.d (.sl 1 (List.map e3 r0_bald4)),.fmp (List.map m197_3 mf1)])),(0,.var 83 (cv83 x))] 3 0) (by kernel_rfl) ?_
      refine AW.cond rfl (fun hb_33=>?_) (fun hb_33=>?_)
      ·have h:=ifT hb_33 h
       refine Ra (sT [pR 1 0,pR 4 1,(6,jI v),(7,jI worst),(25,.d (.sl 2 (List.map e33 x.Stock))),(26,jI (x.Stock.length:Int)),(27,jI v)] [(1,.var 144 (catV (cv83 r0_HarnessBook4) [.d (.sl 1 (List.map e3 r0_bald4)),.fmp (List.map m197_3 mf1)])),(0,.var 83 (cv83 x))] 3 0) ?_
       refine hK_18 _ ?_
       refine Ra (sT [pR 1 0,pR 4 1,(6,jI v),(7,jI worst),(25,.d (.sl 2 (List.map e33 x.Stock))),(26,jI (x.Stock.length:Int)),(27,jI (wr (v+1)))] [(1,.var 144 (catV (cv83 r0_HarnessBook4) [.d (.sl 1 (List.map e3 r0_bald4)),.fmp (List.map m197_3 mf1)])),(0,.var 83 (cv83 x))] 3 0) ?_
       obtain rfl:=Option.some.inj h
       have ew:wr (v+1)=v+1:=inext (N:=(x.Stock.length:Int)) (by omega) (by omega) (by omega)
       rw [ew]
       exact hK_15 _ (Can.kp (by kernel_rfl))
      ·have h:=ifF hb_33 h
       refine AW.skip (hK_18 _ ?_)
       refine Ra (sT [pR 1 0,pR 4 1,(6,jI best),(7,jI least),(25,.d (.sl 2 (List.map e33 x.Stock))),(26,jI (x.Stock.length:Int)),(27,jI (wr (v+1)))] [(1,.var 144 (catV (cv83 r0_HarnessBook4) [.d (.sl 1 (List.map e3 r0_bald4)),.fmp (List.map m197_3 mf1)])),(0,.var 83 (cv83 x))] 3 0) ?_
       obtain rfl:=Option.some.inj h
       have ew:wr (v+1)=v+1:=inext (N:=(x.Stock.length:Int)) (by omega) (by omega) (by omega)
       rw [ew]
       exact hK_15 _ (Can.kp (by kernel_rfl))
    ·obtain ⟨best,least⟩:=s_15
     subst hout
     refine Sa (sT [pR 1 0,pR 4 1,(6,jI best),(7,jI least),(25,.d (.sl 2 (List.map e33 x.Stock))),(26,jI (x.Stock.length:Int)),(27,jI v),(28,.d (.bool (decide (v<(x.Stock.length:Int)))))] [(1,.var 144 (catV (cv83 r0_HarnessBook4) [.d (.sl 1 (List.map e3 r0_bald4)),.fmp (List.map m197_3 mf1)])),(0,.var 83 (cv83 x))] 2 0) ?_
     refine AW.seqK (fun K_34 hK_34=>?_)
     refine AW.cond rfl (fun hb_35=>False.elim (by have:=of_decide_eq_true hb_35;omega)) (fun hb_35=>?_)
     refine AW.exit ?_
     refine hK_13 _ ?_
     refine Sa (sT [(2,jI best),(3,jI 0)] [] 2 0) ?_
     obtain rfl:=Option.some.inj h
     exact rT hR_0 (.cons (.tmp rfl) (.cons (.tmp rfl) .nil))
def g105_12 (rec_:(List Int)→HarnessBook→HarnessBook→(List Int)→(List (Harness_want×Int))→Int→(List Int)→Option (Int×(List Int))) (order:(List Int)) (o0:HarnessBook) (o1_HarnessBook:HarnessBook) (o1_bald:(List Int)) (mf:List (Harness_want×Int)):Int→(List Int)→(Int×(List Int))→Option (Int×(List Int)):=fun v p (v1,v2)=>(g106 order v).bind fun r0_1=>bif (!r0_1) then ((slcL order 0 (order.length:Int)).bind fun l=>(appL 8 l [v]).bind fun l1=>(rec_ l1 o0 o1_HarnessBook o1_bald mf v1 v2).bind fun (o2_4_1,o3_4_1)=>some (o2_4_1,o3_4_1)) else (some (v1,v2))
def g105:Nat→(List Int)→HarnessBook→HarnessBook→(List Int)→(List (Harness_want×Int))→Int→(List Int)→Option (Int×(List Int))
 | 0,_,_,_,_,_,_,_=>none
 | n_+1,order,o0,o1_HarnessBook,o1_bald,mf,o2,o3=>bif (decide ((order.length:Int)=(o0.Needs.length:Int))) then ((g93 o1_HarnessBook o1_bald mf order).bind fun (surely,perhaps)=>(g95 o1_HarnessBook o1_bald mf surely).bind fun r0=>bif (decide (o2<(r0.length:Int))) then (some ((r0.length:Int),order)) else (some (o2,o3))) else ((eachS (g105_12 (g105 n_) order o0 o1_HarnessBook o1_bald mf) o0.Needs 0 (o2,o3)).bind fun (v1,v2)=>some (v1,v2))
theorem k105:∀ (n_:Nat) (order:(List Int)) (o0:HarnessBook) (o1_HarnessBook:HarnessBook) (o1_bald:(List Int)) (mf:List (Harness_want×Int)) (o2:Int) (o3:(List Int)) (r:Int×(List Int)) (h:g105 n_ order o0 o1_HarnessBook o1_bald mf o2 o3=some r),SCall Tryd.prog Gs 105 [.d (.sl 1 (List.map e3 order)),.ptr 0 0,.ptr 1 0,.ptr 2 0,.ptr 3 0,.ptr 4 0] [(0,.var 83 (cv83 o0)),(1,.var 144 (catV (cv83 o1_HarnessBook) [.d (.sl 1 (List.map e3 o1_bald)),.fmp (List.map m197_3 mf)])),(2,.var 3 [jI o2]),(3,.var 51 [.d (.sl 1 (List.map e3 o3))]),(4,.var 166 [.clo 105 [] [.ptr 0 0,.ptr 1 0,.ptr 2 0,.ptr 3 0,.ptr 4 0]])] 5 Fr.emp (match r with | (o2_4,o3_4)=>.tup []) (match r with | (o2_4,o3_4)=>[(0,.var 83 (cv83 o0)),(1,.var 144 (catV (cv83 o1_HarnessBook) [.d (.sl 1 (List.map e3 o1_bald)),.fmp (List.map m197_3 mf)])),(2,.var 3 [jI o2_4]),(3,.var 51 [.d (.sl 1 (List.map e3 o3_4))]),(4,.var 166 [.clo 105 [] [.ptr 0 0,.ptr 1 0,.ptr 2 0,.ptr 3 0,.ptr 4 0]])]) 5 Fr.emp:=by
 intro n_
 induction n_ with
 | zero=>intro order o0 o1_HarnessBook o1_bald mf o2 o3 r h;cases h
 | succ n_ ih=>
  intro order o0 o1_HarnessBook o1_bald mf o2 o3 r h
  rw [g105] at h
  refine SCall.mkK Tryd.func105 c105 rfl rfl (by kernel_rfl) (fun Q_0 hR_0 hN_0=>?_)
  refine AW.srwK (fun Q_1 hQ_1=>?_)
  refine Au 1 (sT [(0,.d (.sl 1 (List.map e3 order))),pR 1 0,pR 2 1,pR 3 2,pR 4 3,pR 5 4,(12,.d (.sl 1 (List.map e3 order)))] [(0,.var 83 (cv83 o0)),(1,.var 144 (catV (cv83 o1_HarnessBook) [.d (.sl 1 (List.map e3 o1_bald)),.fmp (List.map m197_3 mf)])),(2,.var 3 [jI o2]),(3,.var 51 [.d (.sl 1 (List.map e3 o3))]),(4,.var 166 [.clo 105 [] [.ptr 0 0,.ptr 1 0,.ptr 2 0,.ptr 3 0,.ptr 4 0]])] 5 5) ?_
  refine rL rfl ?_
  refine Au 1 (sT [(0,.d (.sl 1 (List.map e3 order))),pR 1 0,pR 2 1,pR 3 2,pR 4 3,pR 5 4,(7,jI (order.length:Int))] [(0,.var 83 (cv83 o0)),(1,.var 144 (catV (cv83 o1_HarnessBook) [.d (.sl 1 (List.map e3 o1_bald)),.fmp (List.map m197_3 mf)])),(2,.var 3 [jI o2]),(3,.var 51 [.d (.sl 1 (List.map e3 o3))]),(4,.var 166 [.clo 105 [] [.ptr 0 0,.ptr 1 0,.ptr 2 0,.ptr 3 0,.ptr 4 0]])] 5 5) ?_
  refine RW.nil (hQ_1 _ ?_)
  refine AW.seqK fun K_2 hK_2=>AW.srwK fun Q_3 hQ_3=>?_
  refine Au 3 (sT [(0,.d (.sl 1 (List.map e3 order))),pR 1 0,pR 2 1,pR 3 2,pR 4 3,pR 5 4,(7,jI (order.length:Int)),(14,jI (order.length:Int)),(16,.d (.sl 1 (List.map e51 o0.Needs)))] [(0,.var 83 (cv83 o0)),(1,.var 144 (catV (cv83 o1_HarnessBook) [.d (.sl 1 (List.map e3 o1_bald)),.fmp (List.map m197_3 mf)])),(2,.var 3 [jI o2]),(3,.var 51 [.d (.sl 1 (List.map e3 o3))]),(4,.var 166 [.clo 105 [] [.ptr 0 0,.ptr 1 0,.ptr 2 0,.ptr 3 0,.ptr 4 0]])] 5 5) ?_
  refine rL rfl ?_
  refine Au 1 (sT [(0,.d (.sl 1 (List.map e3 order))),pR 1 0,pR 2 1,pR 3 2,pR 4 3,pR 5 4,(7,jI (order.length:Int)),(18,.d (.bool (decide ((order.length:Int)=(o0.Needs.length:Int)))))] [(0,.var 83 (cv83 o0)),(1,.var 144 (catV (cv83 o1_HarnessBook) [.d (.sl 1 (List.map e3 o1_bald)),.fmp (List.map m197_3 mf)])),(2,.var 3 [jI o2]),(3,.var 51 [.d (.sl 1 (List.map e3 o3))]),(4,.var 166 [.clo 105 [] [.ptr 0 0,.ptr 1 0,.ptr 2 0,.ptr 3 0,.ptr 4 0]])] 5 5) ?_
  refine RW.nil (hQ_3 _ ?_)
  refine AW.cond rfl (fun hb_4=>?_) (fun hb_4=>?_)
  ·have h:=ifT hb_4 h
   refine AW.srwK (fun Q_5 hQ_5=>?_)
   refine Au 2 (sT [(0,.d (.sl 1 (List.map e3 order))),pR 2 1,pR 3 2,pR 4 3,(20,.agg [.d (.sl 4 (List.map e65 o1_HarnessBook.Hair.Hanks)),.d (.sl 3 (List.map e67 o1_HarnessBook.Hair.Horses)),jI o1_HarnessBook.Hair.Dark,jI o1_HarnessBook.Hair.Near,jI o1_HarnessBook.Hair.Match,.d (.sl 1 (List.map e51 o1_HarnessBook.Needs)),.d (.sl 2 (List.map e33 o1_HarnessBook.Stock)),jI o1_HarnessBook.Pack,jI o1_HarnessBook.Bad,.d (.sl 1 (List.map e3 o1_bald)),.fmp (List.map m197_3 mf)]),(21,.d (.sl 1 (List.map e3 order)))] [(0,.var 83 (cv83 o0)),(1,.var 144 (catV (cv83 o1_HarnessBook) [.d (.sl 1 (List.map e3 o1_bald)),.fmp (List.map m197_3 mf)])),(2,.var 3 [jI o2]),(3,.var 51 [.d (.sl 1 (List.map e3 o3))]),(4,.var 166 [.clo 105 [] [.ptr 0 0,.ptr 1 0,.ptr 2 0,.ptr 3 0,.ptr 4 0]])] 5 5) ?_
   obtain ⟨⟨surely,perhaps⟩,hx_6,h⟩:=bsome h
   refine rC (k93 o1_HarnessBook o1_bald mf order _ hx_6) ?_
   refine Au 5 (sT [(0,.d (.sl 1 (List.map e3 order))),pR 2 1,pR 3 2,pR 4 3,(8,jI surely)] [(0,.var 83 (cv83 o0)),(1,.var 144 (catV (cv83 o1_HarnessBook) [.d (.sl 1 (List.map e3 o1_bald)),.fmp (List.map m197_3 mf)])),(2,.var 3 [jI o2]),(3,.var 51 [.d (.sl 1 (List.map e3 o3))]),(4,.var 166 [.clo 105 [] [.ptr 0 0,.ptr 1 0,.ptr 2 0,.ptr 3 0,.ptr 4 0]])] 5 5) ?_
   refine RW.nil (hQ_5 _ ?_)
   refine AW.seqK fun K_7 hK_7=>AW.srwK fun Q_8 hQ_8=>?_
   refine Au 2 (sT [(0,.d (.sl 1 (List.map e3 order))),pR 3 2,pR 4 3,(25,.agg [.d (.sl 4 (List.map e65 o1_HarnessBook.Hair.Hanks)),.d (.sl 3 (List.map e67 o1_HarnessBook.Hair.Horses)),jI o1_HarnessBook.Hair.Dark,jI o1_HarnessBook.Hair.Near,jI o1_HarnessBook.Hair.Match,.d (.sl 1 (List.map e51 o1_HarnessBook.Needs)),.d (.sl 2 (List.map e33 o1_HarnessBook.Stock)),jI o1_HarnessBook.Pack,jI o1_HarnessBook.Bad,.d (.sl 1 (List.map e3 o1_bald)),.fmp (List.map m197_3 mf)]),(26,jI surely)] [(0,.var 83 (cv83 o0)),(1,.var 144 (catV (cv83 o1_HarnessBook) [.d (.sl 1 (List.map e3 o1_bald)),.fmp (List.map m197_3 mf)])),(2,.var 3 [jI o2]),(3,.var 51 [.d (.sl 1 (List.map e3 o3))]),(4,.var 166 [.clo 105 [] [.ptr 0 0,.ptr 1 0,.ptr 2 0,.ptr 3 0,.ptr 4 0]])] 5 5) ?_
   obtain ⟨r0,hx_9,h⟩:=bsome h
   refine rC (k95 o1_HarnessBook o1_bald mf surely _ hx_9) ?_
   refine rL rfl ?_
   refine Au 1 (sT [(0,.d (.sl 1 (List.map e3 order))),pR 3 2,pR 4 3,(10,jI (r0.length:Int))] [(0,.var 83 (cv83 o0)),(1,.var 144 (catV (cv83 o1_HarnessBook) [.d (.sl 1 (List.map e3 o1_bald)),.fmp (List.map m197_3 mf)])),(2,.var 3 [jI o2]),(3,.var 51 [.d (.sl 1 (List.map e3 o3))]),(4,.var 166 [.clo 105 [] [.ptr 0 0,.ptr 1 0,.ptr 2 0,.ptr 3 0,.ptr 4 0]])] 5 5) ?_
   refine RW.nil (hQ_8 _ ?_)
   refine Sa (sT [(0,.d (.sl 1 (List.map e3 order))),pR 3 2,pR 4 3,(10,jI (r0.length:Int)),(31,.d (.bool (decide (o2<(r0.length:Int)))))] [(0,.var 83 (cv83 o0)),(1,.var 144 (catV (cv83 o1_HarnessBook) [.d (.sl 1 (List.map e3 o1_bald)),.fmp (List.map m197_3 mf)])),(2,.var 3 [jI o2]),(3,.var 51 [.d (.sl 1 (List.map e3 o3))]),(4,.var 166 [.clo 105 [] [.ptr 0 0,.ptr 1 0,.ptr 2 0,.ptr 3 0,.ptr 4 0]])] 5 5) ?_
   refine AW.cond rfl (fun hb_10=>?_) (fun hb_10=>?_)
   ·have h:=ifT hb_10 h
    refine Ra (sT [] [(2,.var 3 [jI (r0.length:Int)]),(3,.var 51 [.d (.sl 1 (List.map e3 order))]),(0,.var 83 (cv83 o0)),(1,.var 144 (catV (cv83 o1_HarnessBook) [.d (.sl 1 (List.map e3 o1_bald)),.fmp (List.map m197_3 mf)])),(4,.var 166 [.clo 105 [] [.ptr 0 0,.ptr 1 0,.ptr 2 0,.ptr 3 0,.ptr 4 0]])] 5 5) ?_
    refine hK_7 _ ?_
    obtain rfl:=Option.some.inj h
    exact rT hR_0 .nil
   ·have h:=ifF hb_10 h
    refine AW.skip (hK_7 _ ?_)
    obtain rfl:=Option.some.inj h
    exact rT hR_0 .nil
  ·have h:=ifF hb_4 h
   refine AW.skip (hK_2 _ ?_)
   refine AW.srwK (fun Q_11 hQ_11=>?_)
   refine Au 2 (sT [(0,.d (.sl 1 (List.map e3 order))),pR 5 4,(7,jI (order.length:Int)),(35,.d (.sl 1 (List.map e51 o0.Needs)))] [(0,.var 83 (cv83 o0)),(1,.var 144 (catV (cv83 o1_HarnessBook) [.d (.sl 1 (List.map e3 o1_bald)),.fmp (List.map m197_3 mf)])),(2,.var 3 [jI o2]),(3,.var 51 [.d (.sl 1 (List.map e3 o3))]),(4,.var 166 [.clo 105 [] [.ptr 0 0,.ptr 1 0,.ptr 2 0,.ptr 3 0,.ptr 4 0]])] 5 5) ?_
   refine rL rfl ?_
   refine Au 1 (sT [(0,.d (.sl 1 (List.map e3 order))),pR 5 4,(7,jI (order.length:Int)),(36,jI (o0.Needs.length:Int)),(37,jI 0)] [(0,.var 83 (cv83 o0)),(1,.var 144 (catV (cv83 o1_HarnessBook) [.d (.sl 1 (List.map e3 o1_bald)),.fmp (List.map m197_3 mf)])),(2,.var 3 [jI o2]),(3,.var 51 [.d (.sl 1 (List.map e3 o3))]),(4,.var 166 [.clo 105 [] [.ptr 0 0,.ptr 1 0,.ptr 2 0,.ptr 3 0,.ptr 4 0]])] 5 5) ?_
   refine RW.nil (hQ_11 _ ?_)
   refine AW.block ?_
   refine AW.slh (r:=0) (off:=5) rfl rfl (fun hN_12=>?_)
   rw [List.length_map] at hN_12
   obtain ⟨out_12,hx_12,h⟩:=bsome h
   refine AW.evSK (fun (v:Int) (⟨v1,v2⟩:Int×(List Int))=>(sT [(0,.d (.sl 1 (List.map e3 order))),pR 5 4,(7,jI (order.length:Int)),(36,jI (o0.Needs.length:Int)),(37,jI v)] [(0,.var 83 (cv83 o0)),(1,.var 144 (catV (cv83 o1_HarnessBook) [.d (.sl 1 (List.map e3 o1_bald)),.fmp (List.map m197_3 mf)])),(2,.var 3 [jI v1]),(3,.var 51 [.d (.sl 1 (List.map e3 v2))]),(4,.var 166 [.clo 105 [] [.ptr 0 0,.ptr 1 0,.ptr 2 0,.ptr 3 0,.ptr 4 0]])] 5 5)) (g105_12 (g105 n_) order o0 o1_HarnessBook o1_bald mf) hx_12 (Can.kp (by kernel_rfl)) (fun v p s_12 hi_12 hl_12 hp_12 c_12 h K_12 hK_12=>?_) (fun v s_12 hi_12 hl_12 hout=>?_)
   ·obtain ⟨v1,v2⟩:=s_12
    unfold g105_12 at h
    refine Sa (sT [(0,.d (.sl 1 (List.map e3 order))),pR 5 4,(7,jI (order.length:Int)),(36,jI (o0.Needs.length:Int)),(37,jI v),(38,.d (.bool (decide (v<(o0.Needs.length:Int)))))] [(0,.var 83 (cv83 o0)),(1,.var 144 (catV (cv83 o1_HarnessBook) [.d (.sl 1 (List.map e3 o1_bald)),.fmp (List.map m197_3 mf)])),(2,.var 3 [jI v1]),(3,.var 51 [.d (.sl 1 (List.map e3 v2))]),(4,.var 166 [.clo 105 [] [.ptr 0 0,.ptr 1 0,.ptr 2 0,.ptr 3 0,.ptr 4 0]])] 5 5) ?_
    refine AW.seqK (fun K_13 hK_13=>?_)
    refine AW.cond rfl (fun hb_14=>?_) (fun hb_14=>False.elim (by have:=of_decide_eq_false hb_14;omega))
    refine AW.skip (hK_13 _ ?_)
    refine AW.seqK (fun K_15 hK_15=>?_)
    refine AW.block ?_
    refine Sa (sT [(0,.d (.sl 1 (List.map e3 order))),pR 5 4,(7,jI (order.length:Int)),(11,jI v),(36,jI (o0.Needs.length:Int)),(37,jI v)] [(0,.var 83 (cv83 o0)),(1,.var 144 (catV (cv83 o1_HarnessBook) [.d (.sl 1 (List.map e3 o1_bald)),.fmp (List.map m197_3 mf)])),(2,.var 3 [jI v1]),(3,.var 51 [.d (.sl 1 (List.map e3 v2))]),(4,.var 166 [.clo 105 [] [.ptr 0 0,.ptr 1 0,.ptr 2 0,.ptr 3 0,.ptr 4 0]])] 5 5) ?_
    refine AW.srwK (fun Q_16 hQ_16=>?_)
    refine Au 2 (sT [(0,.d (.sl 1 (List.map e3 order))),pR 5 4,(7,jI (order.length:Int)),(11,jI v),(36,jI (o0.Needs.length:Int)),(37,jI v),(40,.d (.sl 1 (List.map e3 order))),(41,jI v)] [(0,.var 83 (cv83 o0)),(1,.var 144 (catV (cv83 o1_HarnessBook) [.d (.sl 1 (List.map e3 o1_bald)),.fmp (List.map m197_3 mf)])),(2,.var 3 [jI v1]),(3,.var 51 [.d (.sl 1 (List.map e3 v2))]),(4,.var 166 [.clo 105 [] [.ptr 0 0,.ptr 1 0,.ptr 2 0,.ptr 3 0,.ptr 4 0]])] 5 5) ?_
    obtain ⟨r0_1,hx_17,h⟩:=bsome h
    refine rC (k106 order v _ hx_17) ?_
    refine Au 1 (sT [(0,.d (.sl 1 (List.map e3 order))),pR 5 4,(7,jI (order.length:Int)),(11,jI v),(36,jI (o0.Needs.length:Int)),(37,jI v),(43,.d (.bool (!r0_1)))] [(0,.var 83 (cv83 o0)),(1,.var 144 (catV (cv83 o1_HarnessBook) [.d (.sl 1 (List.map e3 o1_bald)),.fmp (List.map m197_3 mf)])),(2,.var 3 [jI v1]),(3,.var 51 [.d (.sl 1 (List.map e3 v2))]),(4,.var 166 [.clo 105 [] [.ptr 0 0,.ptr 1 0,.ptr 2 0,.ptr 3 0,.ptr 4 0]])] 5 5) ?_
    refine RW.nil (hQ_16 _ ?_)
    refine AW.cond rfl (fun hb_18=>?_) (fun hb_18=>?_)
    ·have h:=ifT hb_18 h
     refine AW.drw fokW ?_
     refine aX 4 (sT [(0,.d (.sl 1 (List.map e3 order))),pR 5 4,(7,jI (order.length:Int)),(11,jI v),(36,jI (o0.Needs.length:Int)),(37,jI v),(44,.clo 105 [] [.ptr 0 0,.ptr 1 0,.ptr 2 0,.ptr 3 0,.ptr 4 0]),(45,.d (.sl 1 (List.map e3 order))),(46,jI (order.length:Int)),(47,jI (order.length:Int))] [(0,.var 83 (cv83 o0)),(1,.var 144 (catV (cv83 o1_HarnessBook) [.d (.sl 1 (List.map e3 o1_bald)),.fmp (List.map m197_3 mf)])),(2,.var 3 [jI v1]),(3,.var 51 [.d (.sl 1 (List.map e3 v2))]),(4,.var 166 [.clo 105 [] [.ptr 0 0,.ptr 1 0,.ptr 2 0,.ptr 3 0,.ptr 4 0]])] 5 5) ?_
     obtain ⟨l,hv_20,h⟩:=bsome h
     refine r_slN trivial rfl rfl rfl DSl.d (slcL_ok hv_20).2.1 (by rw [List.length_map];exact (slcL_ok hv_20).2.2.1) rfl (slz hv_20 e3) ?_
     refine aX 2 (sT [(0,.d (.sl 1 (List.map e3 order))),pR 5 4,(7,jI (order.length:Int)),(36,jI (o0.Needs.length:Int)),(37,jI v),(44,.clo 105 [] [.ptr 0 0,.ptr 1 0,.ptr 2 0,.ptr 3 0,.ptr 4 0]),(48,.fsl 1 (List.map e3 l)),(50,.own 5 (List.map e3 [v]).length)] [(5,.row 3 1 (List.map e3 [v])),(0,.var 83 (cv83 o0)),(1,.var 144 (catV (cv83 o1_HarnessBook) [.d (.sl 1 (List.map e3 o1_bald)),.fmp (List.map m197_3 mf)])),(2,.var 3 [jI v1]),(3,.var 51 [.d (.sl 1 (List.map e3 v2))]),(4,.var 166 [.clo 105 [] [.ptr 0 0,.ptr 1 0,.ptr 2 0,.ptr 3 0,.ptr 4 0]])] 6 5) ?_
     obtain ⟨l1,hv_21,h⟩:=bsome h
     refine r_apF trivial rfl rfl rfl rfl (by simp) (zs:=List.map e3 l1) (apz hv_21 e3) (apr hv_21 e3) ?_
     obtain ⟨⟨o2_4_1,o3_4_1⟩,hx_22,h⟩:=bsome h
     refine r_callvE (zr:=[(6,.row 3 1 (List.map e3 l1))]) [0,1,2,3,4] trivial rfl (.clo _ _ _) (by kernel_rfl) rfl (ih l1 o0 o1_HarnessBook o1_bald mf v1 v2 _ hx_22) ⟨rfl,rfl,rfl,rfl,rfl,rfl,trivial⟩ rfl rfl ⟨(.own rfl rfl),.refl _,.refl _,.refl _,.refl _,.refl _,trivial⟩ rfl rfl rfl ?_
     refine Fi (sT [(0,.d (.sl 1 (List.map e3 order))),pR 5 4,(7,jI (order.length:Int)),(36,jI (o0.Needs.length:Int)),(37,jI v)] [(0,.var 83 (cv83 o0)),(1,.var 144 (catV (cv83 o1_HarnessBook) [.d (.sl 1 (List.map e3 o1_bald)),.fmp (List.map m197_3 mf)])),(2,.var 3 [jI o2_4_1]),(3,.var 51 [.d (.sl 1 (List.map e3 o3_4_1))]),(4,.var 166 [.clo 105 [] [.ptr 0 0,.ptr 1 0,.ptr 2 0,.ptr 3 0,.ptr 4 0]])] 7 5) ?_
     refine hK_15 _ ?_
     refine Ra (sT [(0,.d (.sl 1 (List.map e3 order))),pR 5 4,(7,jI (order.length:Int)),(36,jI (o0.Needs.length:Int)),(37,jI (wr (v+1)))] [(0,.var 83 (cv83 o0)),(1,.var 144 (catV (cv83 o1_HarnessBook) [.d (.sl 1 (List.map e3 o1_bald)),.fmp (List.map m197_3 mf)])),(2,.var 3 [jI o2_4_1]),(3,.var 51 [.d (.sl 1 (List.map e3 o3_4_1))]),(4,.var 166 [.clo 105 [] [.ptr 0 0,.ptr 1 0,.ptr 2 0,.ptr 3 0,.ptr 4 0]])] 7 5) ?_
     obtain rfl:=Option.some.inj h
     have ew:wr (v+1)=v+1:=inext (N:=(o0.Needs.length:Int)) (by omega) (by omega) (by omega)
     rw [ew]
     exact hK_12 _ (Can.kp (by kernel_rfl))
    ·have h:=ifF hb_18 h
     refine AW.skip (hK_15 _ ?_)
     refine Ra (sT [(0,.d (.sl 1 (List.map e3 order))),pR 5 4,(7,jI (order.length:Int)),(36,jI (o0.Needs.length:Int)),(37,jI (wr (v+1)))] [(0,.var 83 (cv83 o0)),(1,.var 144 (catV (cv83 o1_HarnessBook) [.d (.sl 1 (List.map e3 o1_bald)),.fmp (List.map m197_3 mf)])),(2,.var 3 [jI v1]),(3,.var 51 [.d (.sl 1 (List.map e3 v2))]),(4,.var 166 [.clo 105 [] [.ptr 0 0,.ptr 1 0,.ptr 2 0,.ptr 3 0,.ptr 4 0]])] 5 5) ?_
     obtain rfl:=Option.some.inj h
     have ew:wr (v+1)=v+1:=inext (N:=(o0.Needs.length:Int)) (by omega) (by omega) (by omega)
     rw [ew]
     exact hK_12 _ (Can.kp (by kernel_rfl))
   ·obtain ⟨v1,v2⟩:=s_12
    subst hout
    refine Sa (sT [(0,.d (.sl 1 (List.map e3 order))),pR 5 4,(7,jI (order.length:Int)),(36,jI (o0.Needs.length:Int)),(37,jI v),(38,.d (.bool (decide (v<(o0.Needs.length:Int)))))] [(0,.var 83 (cv83 o0)),(1,.var 144 (catV (cv83 o1_HarnessBook) [.d (.sl 1 (List.map e3 o1_bald)),.fmp (List.map m197_3 mf)])),(2,.var 3 [jI v1]),(3,.var 51 [.d (.sl 1 (List.map e3 v2))]),(4,.var 166 [.clo 105 [] [.ptr 0 0,.ptr 1 0,.ptr 2 0,.ptr 3 0,.ptr 4 0]])] 5 5) ?_
    refine AW.seqK (fun K_23 hK_23=>?_)
    refine AW.cond rfl (fun hb_24=>False.elim (by have:=of_decide_eq_true hb_24;omega)) (fun hb_24=>?_)
    refine AW.exit ?_
    obtain rfl:=Option.some.inj h
    exact hN_0 _ (retX .nil (.refl _) rfl (by kernel_rfl) (by kernel_rfl))
def g47 (x:HarnessBook):Option ((List Int)×Int):=(g92 x true).bind fun r_12=>match r_12 with | .next (r0_HarnessBook3,r0_bald3,r1_1)=>(must (decide (r1_1≠0))).bind fun _=>some ([],r1_1) | .brk (r0_HarnessBook4,r0_bald4,mf1,r1_2)=>bif (decide (r1_2≠0)) then (some ([],r1_2)) else ((g105 1000 ([]:(List Int)) x r0_HarnessBook4 r0_bald4 mf1 (-1) ([]:List Int)).bind fun (o2_4,o3_4)=>(slcL o3_4 0 (o3_4.length:Int)).bind fun l=>some (l,0))
theorem k47 (x:HarnessBook) (r:(List Int)×Int) (h:g47 x=some r):SCall Tryd.prog Gs 47 [.agg [.d (.sl 4 (List.map e65 x.Hair.Hanks)),.d (.sl 3 (List.map e67 x.Hair.Horses)),jI x.Hair.Dark,jI x.Hair.Near,jI x.Hair.Match,.d (.sl 1 (List.map e51 x.Needs)),.d (.sl 2 (List.map e33 x.Stock)),jI x.Pack,jI x.Bad]] [] 0 Fr.emp (match r with | (r0_2,r1_4)=>.tup [.d (.sl 1 (List.map e3 r0_2)),jI r1_4]) [] 0 Fr.emp:=by
 unfold g47 at h
 refine SCall.mkK Tryd.func47 c47 rfl rfl (by kernel_rfl) (fun Q_0 hR_0 hN_0=>?_)
 refine Sa (sT [pR 1 0] [(0,.var 83 (cv83 x))] 1 0) ?_
 refine AW.srwK (fun Q_1 hQ_1=>?_)
 refine Au 1 (sT [pR 1 0,(10,.agg [.d (.sl 4 (List.map e65 x.Hair.Hanks)),.d (.sl 3 (List.map e67 x.Hair.Horses)),jI x.Hair.Dark,jI x.Hair.Near,jI x.Hair.Match,.d (.sl 1 (List.map e51 x.Needs)),.d (.sl 2 (List.map e33 x.Stock)),jI x.Pack,jI x.Bad])] [(0,.var 83 (cv83 x))] 1 0) ?_
 obtain ⟨r_12,hx_2,h⟩:=bsome h
 rcases r_12 with (⟨r0_HarnessBook3,r0_bald3,r1_1⟩ | (⟨r0_HarnessBook4,r0_bald4,mf1,r1_2⟩))
 ·refine rC (k92 x true _ hx_2) ?_
  obtain ⟨_,hv_3,h⟩:=bsome h
  have hf_4:=must_ok hv_3
  refine Au 6 (sT [pR 1 0,pR 4 1,(5,jI r1_1)] [(1,.var 144 (catV (cv83 r0_HarnessBook3) [.d (.sl 1 (List.map e3 r0_bald3)),.d (.nilMap)])),(0,.var 83 (cv83 x))] 2 0) ?_
  refine RW.nil (hQ_1 _ ?_)
  refine AW.seqK (fun K_5 hK_5=>?_)
  refine Sa (sT [pR 1 0,pR 4 1,(5,jI r1_1),(15,.d (.bool (decide (r1_1≠0))))] [(1,.var 144 (catV (cv83 r0_HarnessBook3) [.d (.sl 1 (List.map e3 r0_bald3)),.d (.nilMap)])),(0,.var 83 (cv83 x))] 2 0) ?_
  refine AW.cond rfl (fun hb_6=>?_) (fun hb_6=>False.elim (by rw [hf_4] at hb_6;cases hb_6))
  refine Sa (sT [(2,.d (.nilSl)),(3,jI r1_1)] [] 2 0) ?_
  obtain rfl:=Option.some.inj h
  exact AW.ret (hR_0 _ (retX (.cons (.tmp rfl) (.cons (.tmp rfl) .nil)) (Frz.tup_of ⟨.nil 1,.refl _,trivial⟩) rfl (by kernel_rfl) (by kernel_rfl)))
 ·refine rC (k92 x true _ hx_2) ?_
  refine Au 6 (sT [pR 1 0,pR 4 1,(5,jI r1_2)] [(1,.var 144 (catV (cv83 r0_HarnessBook4) [.d (.sl 1 (List.map e3 r0_bald4)),.fmp (List.map m197_3 mf1)])),(0,.var 83 (cv83 x))] 2 0) ?_
  refine RW.nil (hQ_1 _ ?_)
  refine AW.seqK (fun K_7 hK_7=>?_)
  refine Sa (sT [pR 1 0,pR 4 1,(5,jI r1_2),(15,.d (.bool (decide (r1_2≠0))))] [(1,.var 144 (catV (cv83 r0_HarnessBook4) [.d (.sl 1 (List.map e3 r0_bald4)),.fmp (List.map m197_3 mf1)])),(0,.var 83 (cv83 x))] 2 0) ?_
  refine AW.cond rfl (fun hb_8=>?_) (fun hb_8=>?_)
  ·have h:=ifT hb_8 h
   refine Sa (sT [(2,.d (.nilSl)),(3,jI r1_2)] [] 2 0) ?_
   obtain rfl:=Option.some.inj h
   exact AW.ret (hR_0 _ (retX (.cons (.tmp rfl) (.cons (.tmp rfl) .nil)) (Frz.tup_of ⟨.nil 1,.refl _,trivial⟩) rfl (by kernel_rfl) (by kernel_rfl)))
  ·have h:=ifF hb_8 h
   refine AW.skip (hK_7 _ ?_)
   refine Sa (sT [pR 1 0,pR 4 1,pR 6 2] [(2,.var 51 [.d (.nilSl)]),(1,.var 144 (catV (cv83 r0_HarnessBook4) [.d (.sl 1 (List.map e3 r0_bald4)),.fmp (List.map m197_3 mf1)])),(0,.var 83 (cv83 x))] 3 0) ?_
   refine Sa (sT [pR 1 0,pR 4 1,pR 6 2,pR 7 3] [(3,.var 3 [jI (-1)]),(2,.var 51 [.d (.nilSl)]),(1,.var 144 (catV (cv83 r0_HarnessBook4) [.d (.sl 1 (List.map e3 r0_bald4)),.fmp (List.map m197_3 mf1)])),(0,.var 83 (cv83 x))] 4 0) ?_
   refine Sa (sT [pR 1 0,pR 4 1,pR 6 2,pR 7 3,pR 8 4] [(4,.var 166 [.d (.nilFn)]),(3,.var 3 [jI (-1)]),(2,.var 51 [.d (.nilSl)]),(1,.var 144 (catV (cv83 r0_HarnessBook4) [.d (.sl 1 (List.map e3 r0_bald4)),.fmp (List.map m197_3 mf1)])),(0,.var 83 (cv83 x))] 5 0) ?_
   refine Sa (sT [pR 6 2,pR 8 4] [(4,.var 166 [.clo 105 [] [.ptr 0 0,.ptr 1 0,.ptr 3 0,.ptr 2 0,.ptr 4 0]]),(3,.var 3 [jI (-1)]),(2,.var 51 [.d (.nilSl)]),(1,.var 144 (catV (cv83 r0_HarnessBook4) [.d (.sl 1 (List.map e3 r0_bald4)),.fmp (List.map m197_3 mf1)])),(0,.var 83 (cv83 x))] 5 0) ?_
   refine AW.can (Can.wkH 2 0 1 rfl rfl) ?_
   refine AW.srwK (fun Q_9 hQ_9=>?_)
   refine Au 1 (sT [pR 6 2,(18,.clo 105 [] [.ptr 0 0,.ptr 1 0,.ptr 3 0,.ptr 2 0,.ptr 4 0])] [(2,.var 51 [.d (.sl 1 (List.map e3 ([]:List Int)))]),(4,.var 166 [.clo 105 [] [.ptr 0 0,.ptr 1 0,.ptr 3 0,.ptr 2 0,.ptr 4 0]]),(3,.var 3 [jI (-1)]),(1,.var 144 (catV (cv83 r0_HarnessBook4) [.d (.sl 1 (List.map e3 r0_bald4)),.fmp (List.map m197_3 mf1)])),(0,.var 83 (cv83 x))] 5 0) ?_
   obtain ⟨⟨o2_4,o3_4⟩,hx_10,h⟩:=bsome h
   refine RW.one fokW (r_callvE (zr:=[]) [0,1,3,2,4] trivial rfl (.clo _ _ _) (by kernel_rfl) rfl (k105 1000 ([]:(List Int)) x r0_HarnessBook4 r0_bald4 mf1 (-1) ([]:List Int) _ hx_10) ⟨rfl,rfl,rfl,rfl,rfl,trivial⟩ rfl rfl ⟨(.nil 1),.refl _,.refl _,.refl _,.refl _,.refl _,trivial⟩ rfl rfl rfl (r_end ?_))
   refine RW.nil (hQ_9 _ ?_)
   refine AW.srwK (fun Q_11 hQ_11=>?_)
   refine Au 2 (sT [pR 6 2,(20,.d (.sl 1 (List.map e3 o3_4))),(21,.d (.sl 1 (List.map e3 o3_4)))] [(2,.var 51 [.d (.sl 1 (List.map e3 o3_4))])] 5 0) ?_
   refine rL rfl ?_
   refine Au 1 (sT [(20,.d (.sl 1 (List.map e3 o3_4))),(22,jI (o3_4.length:Int)),(23,.d (.sl 1 (List.map e3 o3_4)))] [] 5 0) ?_
   refine rL rfl ?_
   obtain ⟨l,hv_12,h⟩:=bsome h
   refine RW.one fokW (r_slN trivial rfl rfl rfl DSl.d (slcL_ok hv_12).2.1 (by rw [List.length_map];exact (slcL_ok hv_12).2.2.1) rfl (slz hv_12 e3) (r_end ?_))
   refine Au 2 (sT [(2,.fsl 1 (List.map e3 l)),(3,jI 0)] [] 5 0) ?_
   refine RW.nil (hQ_11 _ ?_)
   obtain rfl:=Option.some.inj h
   exact AW.ret (hR_0 _ (retX (.cons (.tmp rfl) (.cons (.tmp rfl) .nil)) (Frz.tup_of ⟨.fsl _ _,.refl _,trivial⟩) rfl (by kernel_rfl) (by kernel_rfl)))
def g91b :Option ((List HairHank)×(List HairHorse)×Int×Int×Int):=(g10 10 11).bind fun r0=>(g10 4 5).bind fun r0_1=>(g123 r0 r0_1).bind fun r0_2=>(g10 8 9).bind fun r0_3=>(g24 6).bind fun r0_4=>(g123 r0_3 r0_4).bind fun r0_5=>(g10 20 22).bind fun r0_6=>(g24 3).bind fun r0_7=>(g123 r0_6 r0_7).bind fun r0_8=>some ([r0_2,r0_5,r0_8],[(HairHorse.mk 6 4 6),(HairHorse.mk 5 3 7)],2,1,1)
theorem k91b  (r:(List HairHank)×(List HairHorse)×Int×Int×Int) (h:g91b=some r):SCall Tryd.prog Gs 91 [] [] 0 Fr.emp (match r with | (r0_Hanks,r0_Horses,r0_Dark,r0_Near,r0_Match)=>.agg [.own 1 (List.map e65 r0_Hanks).length,.own 2 (List.map e67 r0_Horses).length,jI r0_Dark,jI r0_Near,jI r0_Match]) (match r with | (r0_Hanks,r0_Horses,r0_Dark,r0_Near,r0_Match)=>[(1,.row 65 4 (List.map e65 r0_Hanks)),(2,.row 67 3 (List.map e67 r0_Horses))]) 3 Fr.emp:=by
 unfold g91b at h
 refine SCall.mkK Tryd.func91 c91 rfl rfl (by kernel_rfl) (fun Q_0 hR_0 hN_0=>?_)
 refine Sa (sT [pR 0 0] [(0,.var 61 [.d (.nilSl),.d (.nilSl),jI 0,jI 0,jI 0])] 1 0) ?_
 refine AW.srwK (fun Q_1 hQ_1=>?_)
 obtain ⟨r0,hx_2,h⟩:=bsome h
 refine rC (k10 10 11 _ hx_2) ?_
 obtain ⟨r0_1,hx_3,h⟩:=bsome h
 refine rC (k10 4 5 _ hx_3) ?_
 obtain ⟨r0_2,hx_4,h⟩:=bsome h
 refine rC (k123 r0 r0_1 _ hx_4) ?_
 obtain ⟨r0_3,hx_5,h⟩:=bsome h
 refine rC (k10 8 9 _ hx_5) ?_
 obtain ⟨r0_4,hx_6,h⟩:=bsome h
 refine rC (k24 6 _ hx_6) ?_
 obtain ⟨r0_5,hx_7,h⟩:=bsome h
 refine rC (k123 r0_3 r0_4 _ hx_7) ?_
 obtain ⟨r0_6,hx_8,h⟩:=bsome h
 refine rC (k10 20 22 _ hx_8) ?_
 obtain ⟨r0_7,hx_9,h⟩:=bsome h
 refine rC (k24 3 _ hx_9) ?_
 obtain ⟨r0_8,hx_10,h⟩:=bsome h
 refine rC (k123 r0_6 r0_7 _ hx_10) ?_
 refine Au 6 (sT [pR 0 0] [(0,.var 61 [.own 1 (List.map e65 [r0_2,r0_5,r0_8]).length,.own 2 (List.map e67 [(HairHorse.mk 6 4 6),(HairHorse.mk 5 3 7)]).length,jI 2,jI 1,jI 1]),(2,.row 67 3 (List.map e67 [(HairHorse.mk 6 4 6),(HairHorse.mk 5 3 7)])),(1,.row 65 4 (List.map e65 [r0_2,r0_5,r0_8]))] 3 0) ?_
 refine RW.nil (hQ_1 _ ?_)
 obtain rfl:=Option.some.inj h
 exact rT hR_0 (.cons (.agg rfl rfl (Nat.le_of_ble_eq_true rfl)) .nil)
end Go.Proofs.Tm
