/- Told functions, and that the program does so, part 3. Conditions: none. -/
import Derived.Test.YtgdkhppmlfmacaaDoorTdb
set_option linter.unusedVariables false
set_option linter.unusedSimpArgs false
namespace Go.Proofs.Tm
open Go Go.Abs Go.Proofs
def g39b :Option ((List HairHank)×(List HairHorse)×Int×Int×Int×(List (List Int))×(List Span)×Int×Int):=(g91b).bind fun (r0_Hanks,r0_Horses,r0_Dark,r0_Near,r0_Match)=>(g10 2 3).bind fun r0=>(g10 4 5).bind fun r0_1=>some (r0_Hanks,r0_Horses,r0_Dark,r0_Near,r0_Match,[[1,4],[1,2]],[r0,r0_1],7,1)
theorem k39b  (r:(List HairHank)×(List HairHorse)×Int×Int×Int×(List (List Int))×(List Span)×Int×Int) (h:g39b=some r):SCall Tryd.prog Gs 39 [] [] 0 Fr.emp (match r with | (r0_Hair_Hanks,r0_Hair_Horses,r0_Hair_Dark,r0_Hair_Near,r0_Hair_Match,r0_Needs,r0_Stock,r0_Pack,r0_Bad)=>.agg [.own 2 (List.map e65 r0_Hair_Hanks).length,.own 3 (List.map e67 r0_Hair_Horses).length,jI r0_Hair_Dark,jI r0_Hair_Near,jI r0_Hair_Match,.own 6 (List.map e51 r0_Needs).length,.own 7 (List.map e33 r0_Stock).length,jI r0_Pack,jI r0_Bad]) (match r with | (r0_Hair_Hanks,r0_Hair_Horses,r0_Hair_Dark,r0_Hair_Near,r0_Hair_Match,r0_Needs,r0_Stock,r0_Pack,r0_Bad)=>[(2,.row 65 4 (List.map e65 r0_Hair_Hanks)),(3,.row 67 3 (List.map e67 r0_Hair_Horses)),(6,.row 51 1 (List.map e51 r0_Needs)),(7,.row 33 2 (List.map e33 r0_Stock))]) 8 Fr.emp:=by
 unfold g39b at h
 refine SCall.mkK Tryd.func39 c39 rfl rfl (by kernel_rfl) (fun Q_0 hR_0 hN_0=>?_)
 refine Sa (sT [pR 0 0] [(0,.var 83 [.d (.nilSl),.d (.nilSl),jI 0,jI 0,jI 0,.d (.nilSl),.d (.nilSl),jI 0,jI 0])] 1 0) ?_
 refine AW.srwK (fun Q_1 hQ_1=>?_)
 obtain ⟨⟨r0_Hanks,r0_Horses,r0_Dark,r0_Near,r0_Match⟩,hx_2,h⟩:=bsome h
 refine RW.one fokW (r_callS (zr:=[]) [] trivial rfl (k91b _ hx_2) trivial rfl rfl trivial rfl rfl rfl (r_end ?_))
 refine RW.one fokW (r_bslF trivial rfl rfl rfl rfl rfl rfl (ys:=List.map e3 [1,4]) rfl (r_end ?_))
 refine RW.one fokW (r_bslF trivial rfl rfl rfl rfl rfl rfl (ys:=List.map e3 [1,2]) rfl (r_end ?_))
 refine Au 1 (sT [pR 0 0,(1,.agg [.own 2 (List.map e65 r0_Hanks).length,.own 3 (List.map e67 r0_Horses).length,jI r0_Dark,jI r0_Near,jI r0_Match]),(4,.own 6 (List.map e51 ([[1,4],[1,2]])).length)] [(6,.row 51 1 (List.map e51 ([[1,4],[1,2]]))),(2,.row 65 4 (List.map e65 r0_Hanks)),(3,.row 67 3 (List.map e67 r0_Horses)),(0,.var 83 [.d (.nilSl),.d (.nilSl),jI 0,jI 0,jI 0,.d (.nilSl),.d (.nilSl),jI 0,jI 0])] 7 0) ?_
 obtain ⟨r0,hx_3,h⟩:=bsome h
 refine rC (k10 2 3 _ hx_3) ?_
 obtain ⟨r0_1,hx_4,h⟩:=bsome h
 refine rC (k10 4 5 _ hx_4) ?_
 refine Au 3 (sT [pR 0 0] [(0,.var 83 [.own 2 (List.map e65 r0_Hanks).length,.own 3 (List.map e67 r0_Horses).length,jI r0_Dark,jI r0_Near,jI r0_Match,.own 6 (List.map e51 ([[1,4],[1,2]])).length,.own 7 (List.map e33 [r0,r0_1]).length,jI 7,jI 1]),(7,.row 33 2 (List.map e33 [r0,r0_1])),(6,.row 51 1 (List.map e51 ([[1,4],[1,2]]))),(2,.row 65 4 (List.map e65 r0_Hanks)),(3,.row 67 3 (List.map e67 r0_Horses))] 8 0) ?_
 refine RW.nil (hQ_1 _ ?_)
 obtain rfl:=Option.some.inj h
 exact rT hR_0 (.cons (.agg rfl rfl (Nat.le_of_ble_eq_true rfl)) .nil)
def g49 :Option HarnessBook:=(g39b).bind fun (r0_Hair_Hanks,r0_Hair_Horses,r0_Hair_Dark,r0_Hair_Near,r0_Hair_Match,r0_Needs,r0_Stock,r0_Pack,r0_Bad)=>(must (decide (0<2))).bind fun _=>(slcL r0_Hair_Hanks 0 2).bind fun l=>(g10 7 8).bind fun r0=>(ixL l 1).bind fun p=>some (HarnessBook.mk (HairBook.mk (setL l 1 (HairHank.mk r0 p.Shade)) r0_Hair_Horses r0_Hair_Dark r0_Hair_Near r0_Hair_Match) r0_Needs r0_Stock r0_Pack r0_Bad)
theorem k49  (r:HarnessBook) (h:g49=some r):SCall Tryd.prog Gs 49 [] [] 0 Fr.emp (.agg [.d (.sl 4 (List.map e65 r.Hair.Hanks)),.d (.sl 3 (List.map e67 r.Hair.Horses)),jI r.Hair.Dark,jI r.Hair.Near,jI r.Hair.Match,.d (.sl 1 (List.map e51 r.Needs)),.d (.sl 2 (List.map e33 r.Stock)),jI r.Pack,jI r.Bad]) [] 0 Fr.emp:=by
 unfold g49 at h
 refine SCall.mkK Tryd.func49 c49 rfl rfl (by kernel_rfl) (fun Q_0 hR_0 hN_0=>?_)
 refine Sa (sT [pR 0 0] [(0,.var 83 [.d (.nilSl),.d (.nilSl),jI 0,jI 0,jI 0,.d (.nilSl),.d (.nilSl),jI 0,jI 0])] 1 0) ?_
 refine AW.srwK (fun Q_1 hQ_1=>?_)
 obtain ⟨⟨r0_Hair_Hanks,r0_Hair_Horses,r0_Hair_Dark,r0_Hair_Near,r0_Hair_Match,r0_Needs,r0_Stock,r0_Pack,r0_Bad⟩,hx_2,h⟩:=bsome h
 refine RW.one fokW (r_callS (zr:=[]) [] trivial rfl (k39b _ hx_2) trivial rfl rfl trivial rfl rfl rfl (r_end ?_))
 refine Au 2 (sT [pR 0 0,pR 1 9] [(9,.var 83 [.own 3 (List.map e65 r0_Hair_Hanks).length,.own 4 (List.map e67 r0_Hair_Horses).length,jI r0_Hair_Dark,jI r0_Hair_Near,jI r0_Hair_Match,.own 7 (List.map e51 r0_Needs).length,.own 8 (List.map e33 r0_Stock).length,jI r0_Pack,jI r0_Bad]),(3,.row 65 4 (List.map e65 r0_Hair_Hanks)),(4,.row 67 3 (List.map e67 r0_Hair_Horses)),(7,.row 51 1 (List.map e51 r0_Needs)),(8,.row 33 2 (List.map e33 r0_Stock)),(0,.var 83 [.d (.nilSl),.d (.nilSl),jI 0,jI 0,jI 0,.d (.nilSl),.d (.nilSl),jI 0,jI 0])] 10 0) ?_
 refine RW.nil (hQ_1 _ ?_)
 refine AW.srwK (fun Q_3 hQ_3=>?_)
 refine Au 3 (sT [pR 0 0,pR 1 9,(5,.own 3 (List.map e65 r0_Hair_Hanks).length)] [(9,.var 83 [.own 3 (List.map e65 r0_Hair_Hanks).length,.own 4 (List.map e67 r0_Hair_Horses).length,jI r0_Hair_Dark,jI r0_Hair_Near,jI r0_Hair_Match,.own 7 (List.map e51 r0_Needs).length,.own 8 (List.map e33 r0_Stock).length,jI r0_Pack,jI r0_Bad]),(3,.row 65 4 (List.map e65 r0_Hair_Hanks)),(4,.row 67 3 (List.map e67 r0_Hair_Horses)),(7,.row 51 1 (List.map e51 r0_Needs)),(8,.row 33 2 (List.map e33 r0_Stock)),(0,.var 83 [.d (.nilSl),.d (.nilSl),jI 0,jI 0,jI 0,.d (.nilSl),.d (.nilSl),jI 0,jI 0])] 10 0) ?_
 obtain ⟨_,hv_4,h⟩:=bsome h
 obtain ⟨l,hv_5,h⟩:=bsome h
 refine RW.one fokW (r_slO trivial rfl rfl rfl rfl (of_decide_eq_true (must_ok hv_4)) (by rw [List.length_map];exact (slcL_ok hv_5).2.2.1) (sll (f:=e65) hv_5) (slz0 hv_5 e65) (r_end ?_))
 refine Au 3 (sT [pR 0 0,pR 1 9] [(9,.var 83 [.own 10 (List.map e65 l).length,.own 4 (List.map e67 r0_Hair_Horses).length,jI r0_Hair_Dark,jI r0_Hair_Near,jI r0_Hair_Match,.own 7 (List.map e51 r0_Needs).length,.own 8 (List.map e33 r0_Stock).length,jI r0_Pack,jI r0_Bad]),(10,.row 65 4 (List.map e65 l)),(4,.row 67 3 (List.map e67 r0_Hair_Horses)),(7,.row 51 1 (List.map e51 r0_Needs)),(8,.row 33 2 (List.map e33 r0_Stock)),(0,.var 83 [.d (.nilSl),.d (.nilSl),jI 0,jI 0,jI 0,.d (.nilSl),.d (.nilSl),jI 0,jI 0])] 11 0) ?_
 refine RW.nil (hQ_3 _ ?_)
 refine AW.sdrwK fokW (fun Q_6 hQ_6=>?_)
 refine aX 3 (sT [pR 0 0,pR 1 9,(11,.own 10 (List.map e65 l).length)] [(9,.var 83 [.own 10 (List.map e65 l).length,.own 4 (List.map e67 r0_Hair_Horses).length,jI r0_Hair_Dark,jI r0_Hair_Near,jI r0_Hair_Match,.own 7 (List.map e51 r0_Needs).length,.own 8 (List.map e33 r0_Stock).length,jI r0_Pack,jI r0_Bad]),(10,.row 65 4 (List.map e65 l)),(4,.row 67 3 (List.map e67 r0_Hair_Horses)),(7,.row 51 1 (List.map e51 r0_Needs)),(8,.row 33 2 (List.map e33 r0_Stock)),(0,.var 83 [.d (.nilSl),.d (.nilSl),jI 0,jI 0,jI 0,.d (.nilSl),.d (.nilSl),jI 0,jI 0])] 11 0) ?_
 obtain ⟨r0,hx_7,h⟩:=bsome h
 refine r_call trivial rfl (k10 7 8 _ hx_7) rfl rfl ?_
 obtain ⟨p,hv_8,h⟩:=bsome h
 refine r_iaO trivial rfl rfl rfl (ixL_ok hv_8).1 (ix_lt (ixL_ok hv_8).2) rfl ?_
 refine aX 1 (sT [pR 0 0,pR 1 9,(12,.agg [jI r0.Low,jI r0.High]),(14,.eptr 10 (List.map e65 l).length (1:Int).toNat 0)] [(9,.var 83 [.own 10 (List.map e65 l).length,.own 4 (List.map e67 r0_Hair_Horses).length,jI r0_Hair_Dark,jI r0_Hair_Near,jI r0_Hair_Match,.own 7 (List.map e51 r0_Needs).length,.own 8 (List.map e33 r0_Stock).length,jI r0_Pack,jI r0_Bad]),(10,.row 65 4 (List.map e65 l)),(4,.row 67 3 (List.map e67 r0_Hair_Horses)),(7,.row 51 1 (List.map e51 r0_Needs)),(8,.row 33 2 (List.map e33 r0_Stock)),(0,.var 83 [.d (.nilSl),.d (.nilSl),jI 0,jI 0,jI 0,.d (.nilSl),.d (.nilSl),jI 0,jI 0])] 11 0) ?_
 refine r_stE trivial rfl rfl rfl rfl (mapget (f:=e65) (ixL_ok hv_8).2) rfl rfl rfl (Nat.le_of_ble_eq_true rfl) (stz (f:=e65) (x:=(HairHank.mk r0 p.Shade)) rfl) ?_
 rw [lenset (f:=e65) (xs:=l) (i:=1) (x:=(HairHank.mk r0 p.Shade))]
 refine Fi (sT [pR 0 0,pR 1 9] [(10,.row 65 4 (List.map e65 (setL l 1 (HairHank.mk r0 p.Shade)))),(9,.var 83 [.own 10 (List.map e65 (setL l 1 (HairHank.mk r0 p.Shade))).length,.own 4 (List.map e67 r0_Hair_Horses).length,jI r0_Hair_Dark,jI r0_Hair_Near,jI r0_Hair_Match,.own 7 (List.map e51 r0_Needs).length,.own 8 (List.map e33 r0_Stock).length,jI r0_Pack,jI r0_Bad]),(4,.row 67 3 (List.map e67 r0_Hair_Horses)),(7,.row 51 1 (List.map e51 r0_Needs)),(8,.row 33 2 (List.map e33 r0_Stock)),(0,.var 83 [.d (.nilSl),.d (.nilSl),jI 0,jI 0,jI 0,.d (.nilSl),.d (.nilSl),jI 0,jI 0])] 11 0) ?_
 refine hQ_6 _ ?_
 refine Sa (sT [pR 0 0] [(0,.var 83 [.own 10 (List.map e65 (setL l 1 (HairHank.mk r0 p.Shade))).length,.own 4 (List.map e67 r0_Hair_Horses).length,jI r0_Hair_Dark,jI r0_Hair_Near,jI r0_Hair_Match,.own 7 (List.map e51 r0_Needs).length,.own 8 (List.map e33 r0_Stock).length,jI r0_Pack,jI r0_Bad]),(10,.row 65 4 (List.map e65 (setL l 1 (HairHank.mk r0 p.Shade)))),(4,.row 67 3 (List.map e67 r0_Hair_Horses)),(7,.row 51 1 (List.map e51 r0_Needs)),(8,.row 33 2 (List.map e33 r0_Stock))] 11 0) ?_
 obtain rfl:=Option.some.inj h
 exact AW.ret (hR_0 _ (retX (.cons (.agg rfl rfl (Nat.le_of_ble_eq_true rfl)) .nil) (Frz.agg_of ⟨(.own rfl rfl),(.own rfl rfl),.refl _,.refl _,.refl _,(.own rfl rfl),(.own rfl rfl),.refl _,.refl _,trivial⟩) rfl (by kernel_rfl) (by kernel_rfl)))
def g50 :Option HarnessBook:=(g39b).bind fun (r0_Hair_Hanks,r0_Hair_Horses,r0_Hair_Dark,r0_Hair_Near,r0_Hair_Match,r0_Needs,r0_Stock,r0_Pack,r0_Bad)=>(g10 3 4).bind fun r0=>(ixL r0_Stock 1).bind fun p=>some (HarnessBook.mk (HairBook.mk r0_Hair_Hanks r0_Hair_Horses r0_Hair_Dark r0_Hair_Near r0_Hair_Match) r0_Needs (setL r0_Stock 1 r0) r0_Pack r0_Bad)
theorem k50  (r:HarnessBook) (h:g50=some r):SCall Tryd.prog Gs 50 [] [] 0 Fr.emp (.agg [.d (.sl 4 (List.map e65 r.Hair.Hanks)),.d (.sl 3 (List.map e67 r.Hair.Horses)),jI r.Hair.Dark,jI r.Hair.Near,jI r.Hair.Match,.d (.sl 1 (List.map e51 r.Needs)),.d (.sl 2 (List.map e33 r.Stock)),jI r.Pack,jI r.Bad]) [] 0 Fr.emp:=by
 unfold g50 at h
 refine SCall.mkK Tryd.func50 c50 rfl rfl (by kernel_rfl) (fun Q_0 hR_0 hN_0=>?_)
 refine Sa (sT [pR 0 0] [(0,.var 83 [.d (.nilSl),.d (.nilSl),jI 0,jI 0,jI 0,.d (.nilSl),.d (.nilSl),jI 0,jI 0])] 1 0) ?_
 refine AW.srwK (fun Q_1 hQ_1=>?_)
 obtain ⟨⟨r0_Hair_Hanks,r0_Hair_Horses,r0_Hair_Dark,r0_Hair_Near,r0_Hair_Match,r0_Needs,r0_Stock,r0_Pack,r0_Bad⟩,hx_2,h⟩:=bsome h
 refine RW.one fokW (r_callS (zr:=[]) [] trivial rfl (k39b _ hx_2) trivial rfl rfl trivial rfl rfl rfl (r_end ?_))
 refine Au 2 (sT [pR 0 0,pR 1 9] [(9,.var 83 [.own 3 (List.map e65 r0_Hair_Hanks).length,.own 4 (List.map e67 r0_Hair_Horses).length,jI r0_Hair_Dark,jI r0_Hair_Near,jI r0_Hair_Match,.own 7 (List.map e51 r0_Needs).length,.own 8 (List.map e33 r0_Stock).length,jI r0_Pack,jI r0_Bad]),(3,.row 65 4 (List.map e65 r0_Hair_Hanks)),(4,.row 67 3 (List.map e67 r0_Hair_Horses)),(7,.row 51 1 (List.map e51 r0_Needs)),(8,.row 33 2 (List.map e33 r0_Stock)),(0,.var 83 [.d (.nilSl),.d (.nilSl),jI 0,jI 0,jI 0,.d (.nilSl),.d (.nilSl),jI 0,jI 0])] 10 0) ?_
 refine RW.nil (hQ_1 _ ?_)
 refine AW.sdrwK fokW (fun Q_3 hQ_3=>?_)
 refine aX 2 (sT [pR 0 0,pR 1 9,(4,.own 8 (List.map e33 r0_Stock).length)] [(9,.var 83 [.own 3 (List.map e65 r0_Hair_Hanks).length,.own 4 (List.map e67 r0_Hair_Horses).length,jI r0_Hair_Dark,jI r0_Hair_Near,jI r0_Hair_Match,.own 7 (List.map e51 r0_Needs).length,.own 8 (List.map e33 r0_Stock).length,jI r0_Pack,jI r0_Bad]),(3,.row 65 4 (List.map e65 r0_Hair_Hanks)),(4,.row 67 3 (List.map e67 r0_Hair_Horses)),(7,.row 51 1 (List.map e51 r0_Needs)),(8,.row 33 2 (List.map e33 r0_Stock)),(0,.var 83 [.d (.nilSl),.d (.nilSl),jI 0,jI 0,jI 0,.d (.nilSl),.d (.nilSl),jI 0,jI 0])] 10 0) ?_
 obtain ⟨r0,hx_4,h⟩:=bsome h
 refine r_call trivial rfl (k10 3 4 _ hx_4) rfl rfl ?_
 obtain ⟨p,hv_5,h⟩:=bsome h
 refine r_iaO trivial rfl rfl rfl (ixL_ok hv_5).1 (ix_lt (ixL_ok hv_5).2) rfl ?_
 refine r_stE trivial rfl rfl rfl rfl (mapget (f:=e33) (ixL_ok hv_5).2) rfl rfl rfl (Nat.le_of_ble_eq_true rfl) (stz (f:=e33) (x:=r0) rfl) ?_
 rw [lenset (f:=e33) (xs:=r0_Stock) (i:=1) (x:=r0)]
 refine Fi (sT [pR 0 0,pR 1 9] [(8,.row 33 2 (List.map e33 (setL r0_Stock 1 r0))),(9,.var 83 [.own 3 (List.map e65 r0_Hair_Hanks).length,.own 4 (List.map e67 r0_Hair_Horses).length,jI r0_Hair_Dark,jI r0_Hair_Near,jI r0_Hair_Match,.own 7 (List.map e51 r0_Needs).length,.own 8 (List.map e33 (setL r0_Stock 1 r0)).length,jI r0_Pack,jI r0_Bad]),(3,.row 65 4 (List.map e65 r0_Hair_Hanks)),(4,.row 67 3 (List.map e67 r0_Hair_Horses)),(7,.row 51 1 (List.map e51 r0_Needs)),(0,.var 83 [.d (.nilSl),.d (.nilSl),jI 0,jI 0,jI 0,.d (.nilSl),.d (.nilSl),jI 0,jI 0])] 10 0) ?_
 refine hQ_3 _ ?_
 refine Sa (sT [pR 0 0] [(0,.var 83 [.own 3 (List.map e65 r0_Hair_Hanks).length,.own 4 (List.map e67 r0_Hair_Horses).length,jI r0_Hair_Dark,jI r0_Hair_Near,jI r0_Hair_Match,.own 7 (List.map e51 r0_Needs).length,.own 8 (List.map e33 (setL r0_Stock 1 r0)).length,jI r0_Pack,jI r0_Bad]),(8,.row 33 2 (List.map e33 (setL r0_Stock 1 r0))),(3,.row 65 4 (List.map e65 r0_Hair_Hanks)),(4,.row 67 3 (List.map e67 r0_Hair_Horses)),(7,.row 51 1 (List.map e51 r0_Needs))] 10 0) ?_
 obtain rfl:=Option.some.inj h
 exact AW.ret (hR_0 _ (retX (.cons (.agg rfl rfl (Nat.le_of_ble_eq_true rfl)) .nil) (Frz.agg_of ⟨(.own rfl rfl),(.own rfl rfl),.refl _,.refl _,.refl _,(.own rfl rfl),(.own rfl rfl),.refl _,.refl _,trivial⟩) rfl (by kernel_rfl) (by kernel_rfl)))
def g37_4 (l:(List Int)) (m:(List Int)):(Bool×Int)→Option (Ctl (Bool×Int) (Bool)):=fun  (is2,i)=>(bif is2 then (some (decide (i<(l.length:Int)))) else (some false)).bind fun v=>bif v then ((ixL l i).bind fun p=>(ixL m i).bind fun p1=>some (.next ((decide (p=p1)),(wr (i+1))))) else (some (.brk is2))
def g37 (l:(List Int)) (m:(List Int)):Option Bool:=((whileC (g37_4 l m) 1000 ((decide ((l.length:Int)=(m.length:Int))),0)).bind fun is1=>some is1).bind fun is=>some is
theorem k37 (l:(List Int)) (m:(List Int)) (r:Bool) (h:g37 l m=some r):SCall Tryd.prog Gs 37 [.d (.sl 1 (List.map e3 l)),.d (.sl 1 (List.map e3 m))] [] 0 Fr.emp (.d (.bool r)) [] 0 Fr.emp:=by
 unfold g37 at h
 refine SCall.mkK Tryd.func37 c37 rfl rfl (by kernel_rfl) (fun Q_0 hR_0 hN_0=>?_)
 refine Sa (sT [(0,.d (.sl 1 (List.map e3 l))),(1,.d (.sl 1 (List.map e3 m)))] [] 0 0) ?_
 refine AW.srwK (fun Q_1 hQ_1=>?_)
 refine Au 1 (sT [(0,.d (.sl 1 (List.map e3 l))),(1,.d (.sl 1 (List.map e3 m))),(7,.d (.sl 1 (List.map e3 l)))] [] 0 0) ?_
 refine rL rfl ?_
 refine Au 1 (sT [(0,.d (.sl 1 (List.map e3 l))),(1,.d (.sl 1 (List.map e3 m))),(8,jI (l.length:Int)),(9,.d (.sl 1 (List.map e3 m)))] [] 0 0) ?_
 refine rL rfl ?_
 refine Au 2 (sT [(0,.d (.sl 1 (List.map e3 l))),(1,.d (.sl 1 (List.map e3 m))),(5,.d (.bool (decide ((l.length:Int)=(m.length:Int)))))] [] 0 0) ?_
 refine RW.nil (hQ_1 _ ?_)
 obtain ⟨is,hx_2,h⟩:=bsome h
 refine AW.jnSK (fun (is:Bool)=>(sT [(5,.d (.bool is))] [] 0 0)) (c:=is) (fun K_2 hK_2=>?_) ?_
 ·have h:=hx_2
  refine Sa (sT [(0,.d (.sl 1 (List.map e3 l))),(1,.d (.sl 1 (List.map e3 m))),(5,.d (.bool (decide ((l.length:Int)=(m.length:Int))))),(6,jI 0)] [] 0 0) ?_
  obtain ⟨is1,hx_3,h⟩:=bsome h
  refine AW.jqSK (fun (is1:Bool)=>(sT [(5,.d (.bool is1))] [] 0 0)) (c:=is1) (fun K_3 hK_3=>?_) ?_
  ·have h:=hx_3
   refine AW.block ?_
   refine AW.whK (fun (⟨is2,i⟩:Bool×Int)=>(sT [(0,.d (.sl 1 (List.map e3 l))),(1,.d (.sl 1 (List.map e3 m))),(5,.d (.bool is2)),(6,jI i)] [] 0 0)) (g37_4 l m) h (Can.kp (by kernel_rfl)) (fun s_4 c_4 h hb_4 K_4 hK_4=>?_)
   obtain ⟨is2,i⟩:=s_4
   unfold g37_4 at h
   refine AW.seqK fun K_5 hK_5=>AW.srwK fun Q_6 hQ_6=>?_
   refine Au 2 (sT [(0,.d (.sl 1 (List.map e3 l))),(1,.d (.sl 1 (List.map e3 m))),(5,.d (.bool is2)),(6,jI i),(13,.d (.bool is2))] [] 0 0) ?_
   obtain ⟨v,hx_7,h⟩:=bsome h
   refine RW.cut fokW 5 ((sT [(0,.d (.sl 1 (List.map e3 l))),(1,.d (.sl 1 (List.map e3 m))),(5,.d (.bool is2)),(6,jI i),(18,.d (.bool v))] [] 0 0)) ?_ ?_
   ·refine r_split 13 rfl (fun hb_8=>?_) (fun hb_8=>?_)
    ·have h:=ifT hb_8 hx_7
     refine aX 2 (sT [(0,.d (.sl 1 (List.map e3 l))),(1,.d (.sl 1 (List.map e3 m))),(5,.d (.bool is2)),(6,jI i),(13,.d (.bool true)),(14,jI i),(15,.d (.sl 1 (List.map e3 l)))] [] 0 0) ?_
     refine r_lenX rfl rfl lenm ?_
     refine aX 2 (sT [(0,.d (.sl 1 (List.map e3 l))),(1,.d (.sl 1 (List.map e3 m))),(5,.d (.bool is2)),(6,jI i),(18,.d (.bool (decide (i<(l.length:Int)))))] [] 0 0) ?_
     obtain rfl:=Option.some.inj h
     refine RunC.finJ (Can.kp (by kernel_rfl))
    ·have h:=ifF hb_8 hx_7
     refine aX 5 (sT [(0,.d (.sl 1 (List.map e3 l))),(1,.d (.sl 1 (List.map e3 m))),(5,.d (.bool is2)),(6,jI i),(18,.d (.bool false))] [] 0 0) ?_
     obtain rfl:=Option.some.inj h
     refine RunC.finJ (Can.kp (by kernel_rfl))
   ·refine RW.nil (hQ_6 _ ?_)
    refine AW.cond rfl (fun hb_9=>?_) (fun hb_9=>?_)
    ·have h:=ifT hb_9 h
     refine AW.skip (hK_5 _ ?_)
     refine AW.seqK (fun K_10 hK_10=>?_)
     refine AW.block ?_
     refine AW.drw fokW ?_
     refine aX 2 (sT [(0,.d (.sl 1 (List.map e3 l))),(1,.d (.sl 1 (List.map e3 m))),(6,jI i),(21,.d (.sl 1 (List.map e3 l))),(22,jI i)] [] 0 0) ?_
     obtain ⟨p,hv_12,h⟩:=bsome h
     refine r_iaD trivial rfl rfl (ixL_ok hv_12).1 (row:=e3 p) (mapget (ixL_ok hv_12).2) ?_
     refine aX 3 (sT [(0,.d (.sl 1 (List.map e3 l))),(1,.d (.sl 1 (List.map e3 m))),(6,jI i),(24,jI p),(25,.d (.sl 1 (List.map e3 m))),(26,jI i)] [] 0 0) ?_
     obtain ⟨p1,hv_13,h⟩:=bsome h
     refine r_iaD trivial rfl rfl (ixL_ok hv_13).1 (row:=e3 p1) (mapget (ixL_ok hv_13).2) ?_
     refine aX 3 (sT [(0,.d (.sl 1 (List.map e3 l))),(1,.d (.sl 1 (List.map e3 m))),(5,.d (.bool (decide (p=p1)))),(6,jI i)] [] 0 0) ?_
     refine Fi (sT [(0,.d (.sl 1 (List.map e3 l))),(1,.d (.sl 1 (List.map e3 m))),(5,.d (.bool (decide (p=p1)))),(6,jI i)] [] 0 0) ?_
     refine hK_10 _ ?_
     refine Ra (sT [(0,.d (.sl 1 (List.map e3 l))),(1,.d (.sl 1 (List.map e3 m))),(5,.d (.bool (decide (p=p1)))),(6,jI (wr (i+1)))] [] 0 0) ?_
     obtain rfl:=Option.some.inj h
     exact hK_4 _ _ rfl (Can.kp (by kernel_rfl))
    ·have h:=ifF hb_9 h
     refine AW.exit ?_
     obtain rfl:=Option.some.inj h
     obtain rfl:=hb_4 _ rfl
     exact hK_3 _ (Can.kp (by kernel_rfl))
  ·obtain rfl:=Option.some.inj h
   exact hK_2 _ (Can.kp (by kernel_rfl))
 ·refine Sa (sT [(4,.d (.bool is))] [] 0 0) ?_
  obtain rfl:=Option.some.inj h
  exact rT hR_0 (.cons (.tmp rfl) .nil)
def g51 :Option Bool:=(g39).bind fun r0_2=>(g40 r0_2).bind fun (r0_4,r1_4)=>(g50).bind fun r0_1=>(g41 r0_1).bind fun (r0_4_1,r1_4_1)=>(g39).bind fun r0_2_1=>(g42 r0_2_1).bind fun (r0_5,r1_4_2)=>(g39).bind fun r0_2_2=>(g43 r0_2_2 1).bind fun (r0_3,r1_4_3)=>(g39).bind fun r0_2_3=>(g44 r0_2_3).bind fun (r0_3_1,r1_4_4)=>bindC ((bif (decide (r1_4≠0)) then (some true) else (bif (decide (r1_4_1≠0)) then (some true) else (bif (decide (r1_4_2≠0)) then (some true) else (bif (decide (r1_4_3≠0)) then (some true) else (bif (decide (r1_4_4≠0)) then (some true) else ((g37 r0_4 [0]).bind fun r0=>bif (!r0) then (some true) else ((g37 r0_4_1 [0,1]).bind fun r0_6=>bif (!r0_6) then (some true) else ((g24 1).bind fun r0_7=>bif (true != ((r0_5.Low==r0_7.Low)&&((r0_5.High==r0_7.High)&&true))) then (some true) else ((g10 1 2).bind fun r0_8=>bif (true != ((r0_3.Low==r0_8.Low)&&((r0_3.High==r0_8.High)&&true))) then (some true) else ((g37 r0_3_1 [0,1]).bind fun r0_9=>some (!r0_9))))))))))).bind fun v=>bif v then (some (.brk false)) else (some (.next ())):Option (Ctl (Unit) (Bool))) fun _=>(g39).bind fun r0_2_4=>(g45 r0_2_4 1).bind fun (r0_4_2,r1_4_5)=>(g50).bind fun r0_1_1=>(g46 r0_1_1).bind fun (r0_5_1,r1_5)=>(g50).bind fun r0_1_2=>(g47 r0_1_2).bind fun (r0_2_5,r1_4_6)=>(g49).bind fun r0_1_3=>(g40 r0_1_3).bind fun (r0_4_3,r1_4_7)=>(bif (decide (r1_4_5=0)) then (bif (decide (r1_5=0)) then (bif (decide (r1_4_6=0)) then (bif (decide (r1_4_7=0)) then ((g10 4 6).bind fun r0_10=>bif (false != ((r0_4_2.Low==r0_10.Low)&&((r0_4_2.High==r0_10.High)&&true))) then (bif (decide (r0_5_1=1)) then ((g37 r0_2_5 [1,0]).bind fun r0_11=>bif r0_11 then ((g37 r0_4_3 [1]).bind fun r0_12=>some r0_12) else (some false)) else (some false)) else (some false)) else (some false)) else (some false)) else (some false)) else (some false)).bind fun t=>some t
theorem k51  (r:Bool) (h:g51=some r):SCall Tryd.prog Gs 51 [] [] 0 Fr.emp (.d (.bool r)) [] 0 Fr.emp:=by
 unfold g51 at h
 refine SCall.mkK Tryd.func51 c51 rfl rfl (by kernel_rfl) (fun Q_0 hR_0 hN_0=>?_)
 refine Sa (sT [] [] 0 0) ?_
 refine AW.srwK (fun Q_1 hQ_1=>?_)
 obtain ⟨r0_2,hx_2,h⟩:=bsome h
 refine rC (k39 _ hx_2) ?_
 obtain ⟨⟨r0_4,r1_4⟩,hx_3,h⟩:=bsome h
 refine rC (k40 r0_2 _ hx_3) ?_
 refine Au 5 (sT [(1,.d (.sl 1 (List.map e3 r0_4))),(2,jI r1_4)] [] 0 0) ?_
 refine RW.nil (hQ_1 _ ?_)
 refine AW.srwK (fun Q_4 hQ_4=>?_)
 obtain ⟨r0_1,hx_5,h⟩:=bsome h
 refine rC (k50 _ hx_5) ?_
 obtain ⟨⟨r0_4_1,r1_4_1⟩,hx_6,h⟩:=bsome h
 refine rC (k41 r0_1 _ hx_6) ?_
 refine Au 5 (sT [(1,.d (.sl 1 (List.map e3 r0_4))),(2,jI r1_4),(3,.d (.sl 1 (List.map e3 r0_4_1))),(4,jI r1_4_1)] [] 0 0) ?_
 refine RW.nil (hQ_4 _ ?_)
 refine AW.srwK (fun Q_7 hQ_7=>?_)
 obtain ⟨r0_2_1,hx_8,h⟩:=bsome h
 refine rC (k39 _ hx_8) ?_
 obtain ⟨⟨r0_5,r1_4_2⟩,hx_9,h⟩:=bsome h
 refine rC (k42 r0_2_1 _ hx_9) ?_
 refine Au 6 (sT [(1,.d (.sl 1 (List.map e3 r0_4))),(2,jI r1_4),(3,.d (.sl 1 (List.map e3 r0_4_1))),(4,jI r1_4_1),pR 5 0,(6,jI r1_4_2)] [(0,.var 33 [jI r0_5.Low,jI r0_5.High])] 1 0) ?_
 refine RW.nil (hQ_7 _ ?_)
 refine AW.srwK (fun Q_10 hQ_10=>?_)
 obtain ⟨r0_2_2,hx_11,h⟩:=bsome h
 refine rC (k39 _ hx_11) ?_
 obtain ⟨⟨r0_3,r1_4_3⟩,hx_12,h⟩:=bsome h
 refine rC (k43 r0_2_2 1 _ hx_12) ?_
 refine Au 6 (sT [(1,.d (.sl 1 (List.map e3 r0_4))),(2,jI r1_4),(3,.d (.sl 1 (List.map e3 r0_4_1))),(4,jI r1_4_1),pR 5 0,(6,jI r1_4_2),pR 7 1,(8,jI r1_4_3)] [(1,.var 33 [jI r0_3.Low,jI r0_3.High]),(0,.var 33 [jI r0_5.Low,jI r0_5.High])] 2 0) ?_
 refine RW.nil (hQ_10 _ ?_)
 refine AW.srwK (fun Q_13 hQ_13=>?_)
 obtain ⟨r0_2_3,hx_14,h⟩:=bsome h
 refine rC (k39 _ hx_14) ?_
 obtain ⟨⟨r0_3_1,r1_4_4⟩,hx_15,h⟩:=bsome h
 refine rC (k44 r0_2_3 _ hx_15) ?_
 refine Au 5 (sT [(1,.d (.sl 1 (List.map e3 r0_4))),(2,jI r1_4),(3,.d (.sl 1 (List.map e3 r0_4_1))),(4,jI r1_4_1),pR 5 0,(6,jI r1_4_2),pR 7 1,(8,jI r1_4_3),(9,.d (.sl 1 (List.map e3 r0_3_1))),(10,jI r1_4_4)] [(1,.var 33 [jI r0_3.Low,jI r0_3.High]),(0,.var 33 [jI r0_5.Low,jI r0_5.High])] 2 0) ?_
 refine RW.nil (hQ_13 _ ?_)
 obtain ⟨c_16,hx_16,hk_16⟩:=bsomeC h
 refine AW.jnK (fun (_:Unit)=>(sT [] [] 2 0)) (c:=c_16) (fun K_16 hK_16=>?_) (fun j_16 hj_16=>?_)
 ·have h:=hx_16
  obtain ⟨v,hx_17,h⟩:=bsome h
  refine AW.jnSK (fun (v:Bool)=>(sT [(85,.d (.bool v))] [] 2 0)) (c:=v) (fun K_17 hK_17=>?_) ?_
  ·have h:=hx_17
   refine AW.drw fokW ?_
   refine aX 3 (sT [(1,.d (.sl 1 (List.map e3 r0_4))),(3,.d (.sl 1 (List.map e3 r0_4_1))),(4,jI r1_4_1),pR 5 0,(6,jI r1_4_2),pR 7 1,(8,jI r1_4_3),(9,.d (.sl 1 (List.map e3 r0_3_1))),(10,jI r1_4_4),(42,.d (.bool (decide (r1_4≠0))))] [(1,.var 33 [jI r0_3.Low,jI r0_3.High]),(0,.var 33 [jI r0_5.Low,jI r0_5.High])] 2 0) ?_
   refine r_split 42 rfl (fun hb_19=>?_) (fun hb_19=>?_)
   ·have h:=ifT hb_19 h
    refine aX 43 (sT [(85,.d (.bool true))] [(1,.var 33 [jI r0_3.Low,jI r0_3.High]),(0,.var 33 [jI r0_5.Low,jI r0_5.High])] 2 0) ?_
    refine Fi (sT [(85,.d (.bool true))] [] 2 0) ?_
    obtain rfl:=Option.some.inj h
    exact hK_17 _ (Can.kp (by kernel_rfl))
   ·have h:=ifF hb_19 h
    refine aX 4 (sT [(1,.d (.sl 1 (List.map e3 r0_4))),(3,.d (.sl 1 (List.map e3 r0_4_1))),pR 5 0,(6,jI r1_4_2),pR 7 1,(8,jI r1_4_3),(9,.d (.sl 1 (List.map e3 r0_3_1))),(10,jI r1_4_4),(46,.d (.bool (decide (r1_4_1≠0))))] [(1,.var 33 [jI r0_3.Low,jI r0_3.High]),(0,.var 33 [jI r0_5.Low,jI r0_5.High])] 2 0) ?_
    refine r_split 46 rfl (fun hb_20=>?_) (fun hb_20=>?_)
    ·have h:=ifT hb_20 h
     refine aX 39 (sT [(85,.d (.bool true))] [(1,.var 33 [jI r0_3.Low,jI r0_3.High]),(0,.var 33 [jI r0_5.Low,jI r0_5.High])] 2 0) ?_
     refine Fi (sT [(85,.d (.bool true))] [] 2 0) ?_
     obtain rfl:=Option.some.inj h
     exact hK_17 _ (Can.kp (by kernel_rfl))
    ·have h:=ifF hb_20 h
     refine aX 4 (sT [(1,.d (.sl 1 (List.map e3 r0_4))),(3,.d (.sl 1 (List.map e3 r0_4_1))),pR 5 0,pR 7 1,(8,jI r1_4_3),(9,.d (.sl 1 (List.map e3 r0_3_1))),(10,jI r1_4_4),(50,.d (.bool (decide (r1_4_2≠0))))] [(1,.var 33 [jI r0_3.Low,jI r0_3.High]),(0,.var 33 [jI r0_5.Low,jI r0_5.High])] 2 0) ?_
     refine r_split 50 rfl (fun hb_21=>?_) (fun hb_21=>?_)
     ·have h:=ifT hb_21 h
      refine aX 35 (sT [(85,.d (.bool true))] [(1,.var 33 [jI r0_3.Low,jI r0_3.High]),(0,.var 33 [jI r0_5.Low,jI r0_5.High])] 2 0) ?_
      refine Fi (sT [(85,.d (.bool true))] [] 2 0) ?_
      obtain rfl:=Option.some.inj h
      exact hK_17 _ (Can.kp (by kernel_rfl))
     ·have h:=ifF hb_21 h
      refine aX 4 (sT [(1,.d (.sl 1 (List.map e3 r0_4))),(3,.d (.sl 1 (List.map e3 r0_4_1))),pR 5 0,pR 7 1,(9,.d (.sl 1 (List.map e3 r0_3_1))),(10,jI r1_4_4),(54,.d (.bool (decide (r1_4_3≠0))))] [(1,.var 33 [jI r0_3.Low,jI r0_3.High]),(0,.var 33 [jI r0_5.Low,jI r0_5.High])] 2 0) ?_
      refine r_split 54 rfl (fun hb_22=>?_) (fun hb_22=>?_)
      ·have h:=ifT hb_22 h
       refine aX 31 (sT [(85,.d (.bool true))] [(1,.var 33 [jI r0_3.Low,jI r0_3.High]),(0,.var 33 [jI r0_5.Low,jI r0_5.High])] 2 0) ?_
       refine Fi (sT [(85,.d (.bool true))] [] 2 0) ?_
       obtain rfl:=Option.some.inj h
       exact hK_17 _ (Can.kp (by kernel_rfl))
      ·have h:=ifF hb_22 h
       refine aX 4 (sT [(1,.d (.sl 1 (List.map e3 r0_4))),(3,.d (.sl 1 (List.map e3 r0_4_1))),pR 5 0,pR 7 1,(9,.d (.sl 1 (List.map e3 r0_3_1))),(58,.d (.bool (decide (r1_4_4≠0))))] [(1,.var 33 [jI r0_3.Low,jI r0_3.High]),(0,.var 33 [jI r0_5.Low,jI r0_5.High])] 2 0) ?_
       refine r_split 58 rfl (fun hb_23=>?_) (fun hb_23=>?_)
       ·have h:=ifT hb_23 h
        refine aX 27 (sT [(85,.d (.bool true))] [(1,.var 33 [jI r0_3.Low,jI r0_3.High]),(0,.var 33 [jI r0_5.Low,jI r0_5.High])] 2 0) ?_
        refine Fi (sT [(85,.d (.bool true))] [] 2 0) ?_
        obtain rfl:=Option.some.inj h
        exact hK_17 _ (Can.kp (by kernel_rfl))
       ·have h:=ifF hb_23 h
        refine aX 2 (sT [(3,.d (.sl 1 (List.map e3 r0_4_1))),pR 5 0,pR 7 1,(9,.d (.sl 1 (List.map e3 r0_3_1))),(58,.d (.bool false)),(59,.d (.sl 1 (List.map e3 r0_4))),(60,.own 2 (List.map e3 [0]).length)] [(2,.row 3 1 (List.map e3 [0])),(1,.var 33 [jI r0_3.Low,jI r0_3.High]),(0,.var 33 [jI r0_5.Low,jI r0_5.High])] 3 0) ?_
        obtain ⟨r0,hx_24,h⟩:=bsome h
        refine r_callF (rs:=[(2,.row 3 1 (List.map e3 [0]))]) rfl rfl (k37 r0_4 [0] _ hx_24) ⟨rfl,trivial⟩ ⟨.refl _,(.own rfl rfl),trivial⟩ rfl rfl rfl ?_
        refine aX 3 (sT [(3,.d (.sl 1 (List.map e3 r0_4_1))),pR 5 0,pR 7 1,(9,.d (.sl 1 (List.map e3 r0_3_1))),(64,.d (.bool (!r0)))] [(2,.row 3 1 (List.map e3 [0])),(1,.var 33 [jI r0_3.Low,jI r0_3.High]),(0,.var 33 [jI r0_5.Low,jI r0_5.High])] 3 0) ?_
        refine r_split 64 rfl (fun hb_25=>?_) (fun hb_25=>?_)
        ·have h:=ifT hb_25 h
         refine aX 21 (sT [(85,.d (.bool true))] [(2,.row 3 1 (List.map e3 [0])),(1,.var 33 [jI r0_3.Low,jI r0_3.High]),(0,.var 33 [jI r0_5.Low,jI r0_5.High])] 3 0) ?_
         refine Fi (sT [(85,.d (.bool true))] [] 3 0) ?_
         obtain rfl:=Option.some.inj h
         exact hK_17 _ (Can.kp (by kernel_rfl))
        ·have h:=ifF hb_25 h
         refine aX 2 (sT [pR 5 0,pR 7 1,(9,.d (.sl 1 (List.map e3 r0_3_1))),(64,.d (.bool false)),(65,.d (.sl 1 (List.map e3 r0_4_1))),(66,.own 3 (List.map e3 [0,1]).length)] [(3,.row 3 1 (List.map e3 [0,1])),(2,.row 3 1 (List.map e3 [0])),(1,.var 33 [jI r0_3.Low,jI r0_3.High]),(0,.var 33 [jI r0_5.Low,jI r0_5.High])] 4 0) ?_
         obtain ⟨r0_6,hx_26,h⟩:=bsome h
         refine r_callF (rs:=[(3,.row 3 1 (List.map e3 [0,1]))]) rfl rfl (k37 r0_4_1 [0,1] _ hx_26) ⟨rfl,trivial⟩ ⟨.refl _,(.own rfl rfl),trivial⟩ rfl rfl rfl ?_
         refine aX 3 (sT [pR 5 0,pR 7 1,(9,.d (.sl 1 (List.map e3 r0_3_1))),(70,.d (.bool (!r0_6)))] [(3,.row 3 1 (List.map e3 [0,1])),(2,.row 3 1 (List.map e3 [0])),(1,.var 33 [jI r0_3.Low,jI r0_3.High]),(0,.var 33 [jI r0_5.Low,jI r0_5.High])] 4 0) ?_
         refine r_split 70 rfl (fun hb_27=>?_) (fun hb_27=>?_)
         ·have h:=ifT hb_27 h
          refine aX 15 (sT [(85,.d (.bool true))] [(3,.row 3 1 (List.map e3 [0,1])),(2,.row 3 1 (List.map e3 [0])),(1,.var 33 [jI r0_3.Low,jI r0_3.High]),(0,.var 33 [jI r0_5.Low,jI r0_5.High])] 4 0) ?_
          refine Fi (sT [(85,.d (.bool true))] [] 4 0) ?_
          obtain rfl:=Option.some.inj h
          exact hK_17 _ (Can.kp (by kernel_rfl))
         ·have h:=ifF hb_27 h
          refine aX 1 (sT [pR 7 1,(9,.d (.sl 1 (List.map e3 r0_3_1))),(70,.d (.bool false)),(71,.agg [jI r0_5.Low,jI r0_5.High])] [(3,.row 3 1 (List.map e3 [0,1])),(2,.row 3 1 (List.map e3 [0])),(1,.var 33 [jI r0_3.Low,jI r0_3.High]),(0,.var 33 [jI r0_5.Low,jI r0_5.High])] 4 0) ?_
          obtain ⟨r0_7,hx_28,h⟩:=bsome h
          refine r_call rfl rfl (k24 1 _ hx_28) rfl rfl ?_
          refine r_aeq rfl rfl rfl rfl rfl ft33 rfl rfl rfl ?_
          refine aX 2 (sT [pR 7 1,(9,.d (.sl 1 (List.map e3 r0_3_1))),(75,.d (.bool (true != ((r0_5.Low==r0_7.Low)&&((r0_5.High==r0_7.High)&&true)))))] [(3,.row 3 1 (List.map e3 [0,1])),(2,.row 3 1 (List.map e3 [0])),(1,.var 33 [jI r0_3.Low,jI r0_3.High]),(0,.var 33 [jI r0_5.Low,jI r0_5.High])] 4 0) ?_
          refine r_split 75 rfl (fun hb_29=>?_) (fun hb_29=>?_)
          ·have h:=ifT hb_29 h
           refine aX 10 (sT [(85,.d (.bool true))] [(3,.row 3 1 (List.map e3 [0,1])),(2,.row 3 1 (List.map e3 [0])),(1,.var 33 [jI r0_3.Low,jI r0_3.High]),(0,.var 33 [jI r0_5.Low,jI r0_5.High])] 4 0) ?_
           refine Fi (sT [(85,.d (.bool true))] [] 4 0) ?_
           obtain rfl:=Option.some.inj h
           exact hK_17 _ (Can.kp (by kernel_rfl))
          ·have h:=ifF hb_29 h
           refine aX 1 (sT [(9,.d (.sl 1 (List.map e3 r0_3_1))),(75,.d (.bool false)),(76,.agg [jI r0_3.Low,jI r0_3.High])] [(3,.row 3 1 (List.map e3 [0,1])),(2,.row 3 1 (List.map e3 [0])),(1,.var 33 [jI r0_3.Low,jI r0_3.High]),(0,.var 33 [jI r0_5.Low,jI r0_5.High])] 4 0) ?_
           obtain ⟨r0_8,hx_30,h⟩:=bsome h
           refine r_call rfl rfl (k10 1 2 _ hx_30) rfl rfl ?_
           refine r_aeq rfl rfl rfl rfl rfl ft33 rfl rfl rfl ?_
           refine aX 2 (sT [(9,.d (.sl 1 (List.map e3 r0_3_1))),(80,.d (.bool (true != ((r0_3.Low==r0_8.Low)&&((r0_3.High==r0_8.High)&&true)))))] [(3,.row 3 1 (List.map e3 [0,1])),(2,.row 3 1 (List.map e3 [0])),(1,.var 33 [jI r0_3.Low,jI r0_3.High]),(0,.var 33 [jI r0_5.Low,jI r0_5.High])] 4 0) ?_
           refine r_split 80 rfl (fun hb_31=>?_) (fun hb_31=>?_)
           ·have h:=ifT hb_31 h
            refine aX 5 (sT [(85,.d (.bool true))] [(3,.row 3 1 (List.map e3 [0,1])),(2,.row 3 1 (List.map e3 [0])),(1,.var 33 [jI r0_3.Low,jI r0_3.High]),(0,.var 33 [jI r0_5.Low,jI r0_5.High])] 4 0) ?_
            refine Fi (sT [(85,.d (.bool true))] [] 4 0) ?_
            obtain rfl:=Option.some.inj h
            exact hK_17 _ (Can.kp (by kernel_rfl))
           ·have h:=ifF hb_31 h
            refine aX 2 (sT [(80,.d (.bool false)),(81,.d (.sl 1 (List.map e3 r0_3_1))),(82,.own 4 (List.map e3 [0,1]).length)] [(4,.row 3 1 (List.map e3 [0,1])),(3,.row 3 1 (List.map e3 [0,1])),(2,.row 3 1 (List.map e3 [0])),(1,.var 33 [jI r0_3.Low,jI r0_3.High]),(0,.var 33 [jI r0_5.Low,jI r0_5.High])] 5 0) ?_
            obtain ⟨r0_9,hx_32,h⟩:=bsome h
            refine r_callF (rs:=[(4,.row 3 1 (List.map e3 [0,1]))]) rfl rfl (k37 r0_3_1 [0,1] _ hx_32) ⟨rfl,trivial⟩ ⟨.refl _,(.own rfl rfl),trivial⟩ rfl rfl rfl ?_
            refine aX 2 (sT [(85,.d (.bool (!r0_9)))] [(4,.row 3 1 (List.map e3 [0,1])),(3,.row 3 1 (List.map e3 [0,1])),(2,.row 3 1 (List.map e3 [0])),(1,.var 33 [jI r0_3.Low,jI r0_3.High]),(0,.var 33 [jI r0_5.Low,jI r0_5.High])] 5 0) ?_
            refine Fi (sT [(85,.d (.bool (!r0_9)))] [] 5 0) ?_
            obtain rfl:=Option.some.inj h
            exact hK_17 _ (Can.kp (by kernel_rfl))
  ·refine AW.cond rfl (fun hb_33=>?_) (fun hb_33=>?_)
   ·have h:=ifT hb_33 h
    refine Sa (sT [(0,.d (.bool false))] [] 2 0) ?_
    obtain rfl:=Option.some.inj h
    obtain rfl:=Aft.bk hk_16
    exact rT hR_0 (.cons (.tmp rfl) .nil)
   ·have h:=ifF hb_33 h
    refine AW.skip ?_
    obtain rfl:=Option.some.inj h
    exact hK_16 _ _ rfl (Can.kp (by kernel_rfl))
 ·subst hj_16
  have h:=Aft.nx hk_16
  refine AW.srwK (fun Q_34 hQ_34=>?_)
  obtain ⟨r0_2_4,hx_35,h⟩:=bsome h
  refine rC (k39 _ hx_35) ?_
  obtain ⟨⟨r0_4_2,r1_4_5⟩,hx_36,h⟩:=bsome h
  refine rC (k45 r0_2_4 1 _ hx_36) ?_
  refine Au 6 (sT [(2,jI r1_4_5),pR 11 2] [(2,.var 33 [jI r0_4_2.Low,jI r0_4_2.High])] 3 0) ?_
  refine RW.nil (hQ_34 _ ?_)
  refine AW.srwK (fun Q_37 hQ_37=>?_)
  obtain ⟨r0_1_1,hx_38,h⟩:=bsome h
  refine rC (k50 _ hx_38) ?_
  obtain ⟨⟨r0_5_1,r1_5⟩,hx_39,h⟩:=bsome h
  refine rC (k46 r0_1_1 _ hx_39) ?_
  refine Au 5 (sT [(2,jI r1_4_5),(4,jI r1_5),pR 11 2,(12,jI r0_5_1)] [(2,.var 33 [jI r0_4_2.Low,jI r0_4_2.High])] 3 0) ?_
  refine RW.nil (hQ_37 _ ?_)
  refine AW.srwK (fun Q_40 hQ_40=>?_)
  obtain ⟨r0_1_2,hx_41,h⟩:=bsome h
  refine rC (k50 _ hx_41) ?_
  obtain ⟨⟨r0_2_5,r1_4_6⟩,hx_42,h⟩:=bsome h
  refine rC (k47 r0_1_2 _ hx_42) ?_
  refine Au 5 (sT [(2,jI r1_4_5),(4,jI r1_5),(6,jI r1_4_6),pR 11 2,(12,jI r0_5_1),(13,.d (.sl 1 (List.map e3 r0_2_5)))] [(2,.var 33 [jI r0_4_2.Low,jI r0_4_2.High])] 3 0) ?_
  refine RW.nil (hQ_40 _ ?_)
  refine AW.srwK (fun Q_43 hQ_43=>?_)
  obtain ⟨r0_1_3,hx_44,h⟩:=bsome h
  refine rC (k49 _ hx_44) ?_
  obtain ⟨⟨r0_4_3,r1_4_7⟩,hx_45,h⟩:=bsome h
  refine rC (k40 r0_1_3 _ hx_45) ?_
  refine Au 5 (sT [(2,jI r1_4_5),(4,jI r1_5),(6,jI r1_4_6),(8,jI r1_4_7),pR 11 2,(12,jI r0_5_1),(13,.d (.sl 1 (List.map e3 r0_2_5))),(14,.d (.sl 1 (List.map e3 r0_4_3)))] [(2,.var 33 [jI r0_4_2.Low,jI r0_4_2.High])] 3 0) ?_
  refine RW.nil (hQ_43 _ ?_)
  obtain ⟨t,hx_46,h⟩:=bsome h
  refine AW.jnSK (fun (t:Bool)=>(sT [(0,.d (.bool t))] [] 3 0)) (c:=t) (fun K_46 hK_46=>?_) ?_
  ·have h:=hx_46
   refine AW.drw fokW ?_
   refine aX 3 (sT [(4,jI r1_5),(6,jI r1_4_6),(8,jI r1_4_7),pR 11 2,(12,jI r0_5_1),(13,.d (.sl 1 (List.map e3 r0_2_5))),(14,.d (.sl 1 (List.map e3 r0_4_3))),(108,.d (.bool (decide (r1_4_5=0))))] [(2,.var 33 [jI r0_4_2.Low,jI r0_4_2.High])] 3 0) ?_
   refine r_split 108 rfl (fun hb_48=>?_) (fun hb_48=>?_)
   ·have h:=ifT hb_48 h
    refine aX 4 (sT [(6,jI r1_4_6),(8,jI r1_4_7),pR 11 2,(12,jI r0_5_1),(13,.d (.sl 1 (List.map e3 r0_2_5))),(14,.d (.sl 1 (List.map e3 r0_4_3))),(112,.d (.bool (decide (r1_5=0))))] [(2,.var 33 [jI r0_4_2.Low,jI r0_4_2.High])] 3 0) ?_
    refine r_split 112 rfl (fun hb_49=>?_) (fun hb_49=>?_)
    ·have h:=ifT hb_49 h
     refine aX 4 (sT [(8,jI r1_4_7),pR 11 2,(12,jI r0_5_1),(13,.d (.sl 1 (List.map e3 r0_2_5))),(14,.d (.sl 1 (List.map e3 r0_4_3))),(116,.d (.bool (decide (r1_4_6=0))))] [(2,.var 33 [jI r0_4_2.Low,jI r0_4_2.High])] 3 0) ?_
     refine r_split 116 rfl (fun hb_50=>?_) (fun hb_50=>?_)
     ·have h:=ifT hb_50 h
      refine aX 4 (sT [pR 11 2,(12,jI r0_5_1),(13,.d (.sl 1 (List.map e3 r0_2_5))),(14,.d (.sl 1 (List.map e3 r0_4_3))),(120,.d (.bool (decide (r1_4_7=0))))] [(2,.var 33 [jI r0_4_2.Low,jI r0_4_2.High])] 3 0) ?_
      refine r_split 120 rfl (fun hb_51=>?_) (fun hb_51=>?_)
      ·have h:=ifT hb_51 h
       refine aX 1 (sT [(12,jI r0_5_1),(13,.d (.sl 1 (List.map e3 r0_2_5))),(14,.d (.sl 1 (List.map e3 r0_4_3))),(120,.d (.bool true)),(121,.agg [jI r0_4_2.Low,jI r0_4_2.High])] [(2,.var 33 [jI r0_4_2.Low,jI r0_4_2.High])] 3 0) ?_
       obtain ⟨r0_10,hx_52,h⟩:=bsome h
       refine r_call rfl rfl (k10 4 6 _ hx_52) rfl rfl ?_
       refine r_aeq rfl rfl rfl rfl rfl ft33 rfl rfl rfl ?_
       refine aX 2 (sT [(12,jI r0_5_1),(13,.d (.sl 1 (List.map e3 r0_2_5))),(14,.d (.sl 1 (List.map e3 r0_4_3))),(125,.d (.bool (false != ((r0_4_2.Low==r0_10.Low)&&((r0_4_2.High==r0_10.High)&&true)))))] [(2,.var 33 [jI r0_4_2.Low,jI r0_4_2.High])] 3 0) ?_
       refine r_split 125 rfl (fun hb_53=>?_) (fun hb_53=>?_)
       ·have h:=ifT hb_53 h
        refine aX 4 (sT [(13,.d (.sl 1 (List.map e3 r0_2_5))),(14,.d (.sl 1 (List.map e3 r0_4_3))),(129,.d (.bool (decide (r0_5_1=1))))] [(2,.var 33 [jI r0_4_2.Low,jI r0_4_2.High])] 3 0) ?_
        refine r_split 129 rfl (fun hb_54=>?_) (fun hb_54=>?_)
        ·have h:=ifT hb_54 h
         refine aX 2 (sT [(14,.d (.sl 1 (List.map e3 r0_4_3))),(129,.d (.bool true)),(130,.d (.sl 1 (List.map e3 r0_2_5))),(131,.own 3 (List.map e3 [1,0]).length)] [(3,.row 3 1 (List.map e3 [1,0])),(2,.var 33 [jI r0_4_2.Low,jI r0_4_2.High])] 4 0) ?_
         obtain ⟨r0_11,hx_55,h⟩:=bsome h
         refine r_callF (rs:=[(3,.row 3 1 (List.map e3 [1,0]))]) rfl rfl (k37 r0_2_5 [1,0] _ hx_55) ⟨rfl,trivial⟩ ⟨.refl _,(.own rfl rfl),trivial⟩ rfl rfl rfl ?_
         refine aX 2 (sT [(14,.d (.sl 1 (List.map e3 r0_4_3))),(134,.d (.bool r0_11))] [(3,.row 3 1 (List.map e3 [1,0])),(2,.var 33 [jI r0_4_2.Low,jI r0_4_2.High])] 4 0) ?_
         refine r_split 134 rfl (fun hb_56=>?_) (fun hb_56=>?_)
         ·have h:=ifT hb_56 h
          refine aX 2 (sT [(134,.d (.bool true)),(135,.d (.sl 1 (List.map e3 r0_4_3))),(136,.own 4 (List.map e3 [1]).length)] [(4,.row 3 1 (List.map e3 [1])),(3,.row 3 1 (List.map e3 [1,0])),(2,.var 33 [jI r0_4_2.Low,jI r0_4_2.High])] 5 0) ?_
          obtain ⟨r0_12,hx_57,h⟩:=bsome h
          refine r_callF (rs:=[(4,.row 3 1 (List.map e3 [1]))]) rfl rfl (k37 r0_4_3 [1] _ hx_57) ⟨rfl,trivial⟩ ⟨.refl _,(.own rfl rfl),trivial⟩ rfl rfl rfl ?_
          refine aX 2 (sT [(0,.d (.bool r0_12))] [(4,.row 3 1 (List.map e3 [1])),(3,.row 3 1 (List.map e3 [1,0])),(2,.var 33 [jI r0_4_2.Low,jI r0_4_2.High])] 5 0) ?_
          refine Fi (sT [(0,.d (.bool r0_12))] [] 5 0) ?_
          obtain rfl:=Option.some.inj h
          exact hK_46 _ (Can.kp (by kernel_rfl))
         ·have h:=ifF hb_56 h
          refine aX 5 (sT [(0,.d (.bool false))] [(3,.row 3 1 (List.map e3 [1,0])),(2,.var 33 [jI r0_4_2.Low,jI r0_4_2.High])] 4 0) ?_
          refine Fi (sT [(0,.d (.bool false))] [] 4 0) ?_
          obtain rfl:=Option.some.inj h
          exact hK_46 _ (Can.kp (by kernel_rfl))
        ·have h:=ifF hb_54 h
         refine aX 10 (sT [(0,.d (.bool false))] [(2,.var 33 [jI r0_4_2.Low,jI r0_4_2.High])] 3 0) ?_
         refine Fi (sT [(0,.d (.bool false))] [] 3 0) ?_
         obtain rfl:=Option.some.inj h
         exact hK_46 _ (Can.kp (by kernel_rfl))
       ·have h:=ifF hb_53 h
        refine aX 14 (sT [(0,.d (.bool false))] [(2,.var 33 [jI r0_4_2.Low,jI r0_4_2.High])] 3 0) ?_
        refine Fi (sT [(0,.d (.bool false))] [] 3 0) ?_
        obtain rfl:=Option.some.inj h
        exact hK_46 _ (Can.kp (by kernel_rfl))
      ·have h:=ifF hb_51 h
       refine aX 19 (sT [(0,.d (.bool false))] [(2,.var 33 [jI r0_4_2.Low,jI r0_4_2.High])] 3 0) ?_
       refine Fi (sT [(0,.d (.bool false))] [] 3 0) ?_
       obtain rfl:=Option.some.inj h
       exact hK_46 _ (Can.kp (by kernel_rfl))
     ·have h:=ifF hb_50 h
      refine aX 23 (sT [(0,.d (.bool false))] [(2,.var 33 [jI r0_4_2.Low,jI r0_4_2.High])] 3 0) ?_
      refine Fi (sT [(0,.d (.bool false))] [] 3 0) ?_
      obtain rfl:=Option.some.inj h
      exact hK_46 _ (Can.kp (by kernel_rfl))
    ·have h:=ifF hb_49 h
     refine aX 27 (sT [(0,.d (.bool false))] [(2,.var 33 [jI r0_4_2.Low,jI r0_4_2.High])] 3 0) ?_
     refine Fi (sT [(0,.d (.bool false))] [] 3 0) ?_
     obtain rfl:=Option.some.inj h
     exact hK_46 _ (Can.kp (by kernel_rfl))
   ·have h:=ifF hb_48 h
    refine aX 31 (sT [(0,.d (.bool false))] [(2,.var 33 [jI r0_4_2.Low,jI r0_4_2.High])] 3 0) ?_
    refine Fi (sT [(0,.d (.bool false))] [] 3 0) ?_
    obtain rfl:=Option.some.inj h
    exact hK_46 _ (Can.kp (by kernel_rfl))
  ·obtain rfl:=Option.some.inj h
   exact rT hR_0 (.cons (.tmp rfl) .nil)
end Go.Proofs.Tm
namespace Go.Proofs.Tm
open Go Go.Abs Go.Proofs
def g5_34:Int→HarnessBook→Unit→Option (Ctl (Unit) (Bool)):=fun A p4 _=>(g40 p4).bind fun (r0_4,r1_4)=>(g41 p4).bind fun (r0_4_1,r1_4_1)=>(g42 p4).bind fun (r0_5,r1_4_2)=>(g43 p4 (-1)).bind fun (r0_3,r1_4_3)=>(g44 p4).bind fun (r0_3_1,r1_4_4)=>(g45 p4 (-1)).bind fun (r0_4_2,r1_4_5)=>(g46 p4).bind fun (r0_5_1,r1_5)=>(g47 p4).bind fun (r0_2_5,r1_4_6)=>(g48 p4).bind fun r0_6=>bif (((((((((decide (r0_6≠100))||(decide (r1_4≠100)))||(decide (r1_4_1≠100)))||(decide (r1_4_2≠100)))||(decide (r1_4_3≠100)))||(decide (r1_4_4≠100)))||(decide (r1_4_5≠100)))||(decide (r1_5≠100)))||(decide (r1_4_6≠100))) then (some (.brk false)) else (some (.next ()))
def g5 :Option Bool:=(g39).bind fun r0_2=>(g39).bind fun r0_2_1=>(g39a).bind fun (r0_Hair_Hanks,r0_Hair_Horses,r0_Hair_Dark,r0_Hair_Near,r0_Hair_Match,r0_Stock,r0_Pack,r0_Bad,o6,o6_1)=>(g39a).bind fun (r0_Hair_Hanks1,r0_Hair_Horses1,r0_Hair_Dark1,r0_Hair_Near1,r0_Hair_Match1,r0_Stock1,r0_Pack1,r0_Bad1,o6_2,o6_1_1)=>(g39a).bind fun (r0_Hair_Hanks2,r0_Hair_Horses2,r0_Hair_Dark2,r0_Hair_Near2,r0_Hair_Match2,r0_Stock2,r0_Pack2,r0_Bad2,o6_3,o6_1_2)=>(g39).bind fun r0_2_2=>(g39a).bind fun (r0_Hair_Hanks3,r0_Hair_Horses3,r0_Hair_Dark3,r0_Hair_Near3,r0_Hair_Match3,r0_Stock3,r0_Pack3,r0_Bad3,o6_4,o6_1_3)=>(g39a).bind fun (r0_Hair_Hanks4,r0_Hair_Horses4,r0_Hair_Dark4,r0_Hair_Near4,r0_Hair_Match4,r0_Stock4,r0_Pack4,r0_Bad4,o6_5,o6_1_4)=>(g39a).bind fun (r0_Hair_Hanks5,r0_Hair_Horses5,r0_Hair_Dark5,r0_Hair_Near5,r0_Hair_Match5,r0_Stock5,r0_Pack5,r0_Bad5,o6_6,o6_1_5)=>(g39).bind fun r0_2_3=>(g39).bind fun r0_2_4=>(appL 16 r0_Stock r0_Stock).bind fun l=>(g10 2 7).bind fun r0=>(ixL r0_Stock1 0).bind fun p=>(g24 41).bind fun r0_1=>(ixL r0_Stock2 0).bind fun p1=>(slcL r0_2_2.Needs 0 1).bind fun l1=>(ixL o6_5 1).bind fun p2=>(ixL o6_1_5 0).bind fun p3=>(some ([(HarnessBook.mk (HairBook.mk ([]:List HairHank) ([]:List HairHorse) 0 0 0) ([]:List (List Int)) ([]:List Span) 0 0),(HarnessBook.mk (HairBook.mk r0_2.Hair.Hanks r0_2.Hair.Horses 5 r0_2.Hair.Near r0_2.Hair.Match) r0_2.Needs r0_2.Stock r0_2.Pack r0_2.Bad),(HarnessBook.mk r0_2_1.Hair r0_2_1.Needs ([]:List Span) r0_2_1.Pack r0_2_1.Bad),(HarnessBook.mk (HairBook.mk r0_Hair_Hanks r0_Hair_Horses r0_Hair_Dark r0_Hair_Near r0_Hair_Match) [o6,o6_1] l r0_Pack r0_Bad),(HarnessBook.mk (HairBook.mk r0_Hair_Hanks1 r0_Hair_Horses1 r0_Hair_Dark1 r0_Hair_Near1 r0_Hair_Match1) [o6_2,o6_1_1] (setL r0_Stock1 0 r0) r0_Pack1 r0_Bad1),(HarnessBook.mk (HairBook.mk r0_Hair_Hanks2 r0_Hair_Horses2 r0_Hair_Dark2 r0_Hair_Near2 r0_Hair_Match2) [o6_3,o6_1_2] (setL r0_Stock2 0 r0_1) r0_Pack2 r0_Bad2),(HarnessBook.mk r0_2_2.Hair l1 r0_2_2.Stock r0_2_2.Pack r0_2_2.Bad),(HarnessBook.mk (HairBook.mk r0_Hair_Hanks3 r0_Hair_Horses3 r0_Hair_Dark3 r0_Hair_Near3 r0_Hair_Match3) ([o6_4,[1]]) r0_Stock3 r0_Pack3 r0_Bad3),(HarnessBook.mk (HairBook.mk r0_Hair_Hanks4 r0_Hair_Horses4 r0_Hair_Dark4 r0_Hair_Near4 r0_Hair_Match4) [(setL o6_5 1 10),o6_1_4] r0_Stock4 r0_Pack4 r0_Bad4),(HarnessBook.mk (HairBook.mk r0_Hair_Hanks5 r0_Hair_Horses5 r0_Hair_Dark5 r0_Hair_Near5 r0_Hair_Match5) [o6_6,(setL o6_1_5 0 (-1))] r0_Stock5 r0_Pack5 r0_Bad5),(HarnessBook.mk r0_2_3.Hair r0_2_3.Needs r0_2_3.Stock 13 r0_2_3.Bad),(HarnessBook.mk r0_2_4.Hair r0_2_4.Needs r0_2_4.Stock r0_2_4.Pack 7)]:List HarnessBook)).bind fun o=>bindC (eachC g5_34 o 0 ()) fun _=>(g39).bind fun r0_2_6=>(g43 r0_2_6 2).bind fun (r0_3_2,r1_4_7)=>(g39).bind fun r0_2_7=>(g45 r0_2_7 (-1)).bind fun (r0_4_3,r1_4_8)=>(g39).bind fun r0_2_8=>(g46 r0_2_8).bind fun (r0_5_2,r1_5_1)=>(g49).bind fun r0_1_1=>(g46 r0_1_1).bind fun (r0_5_3,r1_5_2)=>bif ((((decide (r1_4_7≠101))||(decide (r1_4_8≠101)))||(decide (r1_5_1≠4)))||(decide (r1_5_2≠4))) then (some false) else ((g39).bind fun r0_2_9=>(g41 r0_2_9).bind fun (r0_4_4,r1_4_9)=>(g50).bind fun r0_1_2=>(g40 r0_1_2).bind fun (r0_4_5,r1_4_10)=>(g49).bind fun r0_1_3=>(g41 r0_1_3).bind fun (r0_4_6,r1_4_11)=>(g50).bind fun r0_1_4=>(g42 r0_1_4).bind fun (r0_5_4,r1_4_12)=>(g50).bind fun r0_1_5=>(g43 r0_1_5 1).bind fun (r0_3_3,r1_4_13)=>(g49).bind fun r0_1_6=>(g43 r0_1_6 1).bind fun (r0_3_4,r1_4_14)=>(g39).bind fun r0_2_10=>(g43 r0_2_10 0).bind fun (r0_3_5,r1_4_15)=>bindC ((bif (decide (r1_4_9≠0)) then (some true) else ((g37 r0_4_4 [0]).bind fun r0_7=>bif (!r0_7) then (some true) else (bif (decide (r1_4_10≠0)) then (some true) else (bif (decide ((r0_4_5.length:Int)≠0)) then (some true) else (bif (decide (r1_4_11≠0)) then (some true) else ((g37 r0_4_6 [1]).bind fun r0_8=>bif (!r0_8) then (some true) else (bif (decide (r1_4_12≠0)) then (some true) else ((g24 1).bind fun r0_9=>bif (true != ((r0_5_4.Low==r0_9.Low)&&((r0_5_4.High==r0_9.High)&&true))) then (some true) else (bif (decide (r1_4_13≠0)) then (some true) else ((g10 2 3).bind fun r0_10=>bif (true != ((r0_3_3.Low==r0_10.Low)&&((r0_3_3.High==r0_10.High)&&true))) then (some true) else (bif (decide (r1_4_14≠0)) then (some true) else ((g24 0).bind fun r0_11=>bif (true != ((r0_3_4.Low==r0_11.Low)&&((r0_3_4.High==r0_11.High)&&true))) then (some true) else (bif (decide (r1_4_15≠0)) then (some true) else ((g24 0).bind fun r0_12=>some (true != ((r0_3_5.Low==r0_12.Low)&&((r0_3_5.High==r0_12.High)&&true))))))))))))))))).bind fun v=>bif v then (some (.brk false)) else (some (.next ())):Option (Ctl (Unit) (Bool))) fun _=>(g50).bind fun r0_1_7=>(g44 r0_1_7).bind fun (r0_3_6,r1_4_16)=>(g49).bind fun r0_1_8=>(g44 r0_1_8).bind fun (r0_3_7,r1_4_17)=>(g39).bind fun r0_2_11=>(g45 r0_2_11 0).bind fun (r0_4_7,r1_4_18)=>(g50).bind fun r0_1_9=>(g45 r0_1_9 1).bind fun (r0_4_8,r1_4_19)=>(g49).bind fun r0_1_10=>(g45 r0_1_10 1).bind fun (r0_4_9,r1_4_20)=>(g39).bind fun r0_2_12=>(g47 r0_2_12).bind fun (r0_2_13,r1_4_21)=>(g49).bind fun r0_1_11=>(g47 r0_1_11).bind fun (r0_2_14,r1_4_22)=>(g10 1 2).bind fun r0_13=>(g47 (HarnessBook.mk (HairBook.mk [] [] 0 0 0) [] [r0_13] 1 0)).bind fun (r0_2_15,r1_4_23)=>(g44 (HarnessBook.mk (HairBook.mk [] [] 0 0 0) [] [r0_13] 1 0)).bind fun (r0_3_8,r1_4_24)=>(g45 (HarnessBook.mk (HairBook.mk [] [] 0 0 0) [] [r0_13] 1 0) 0).bind fun (r0_4_10,r1_4_25)=>(bif (decide (r1_4_16=0)) then ((g37 r0_3_6 [0,1]).bind fun r0_14=>bif r0_14 then (bif (decide (r1_4_17=0)) then ((g37 r0_3_7 [0,0]).bind fun r0_15=>bif r0_15 then (bif (decide (r1_4_18=0)) then ((g10 0 1).bind fun r0_16=>bif (false != ((r0_4_7.Low==r0_16.Low)&&((r0_4_7.High==r0_16.High)&&true))) then (bif (decide (r1_4_19=0)) then ((g10 3 5).bind fun r0_17=>bif (false != ((r0_4_8.Low==r0_17.Low)&&((r0_4_8.High==r0_17.High)&&true))) then (bif (decide (r1_4_20=0)) then ((g10 2 3).bind fun r0_18=>bif (false != ((r0_4_9.Low==r0_18.Low)&&((r0_4_9.High==r0_18.High)&&true))) then (bif (decide (r1_4_21=0)) then ((g37 r0_2_13 [0,1]).bind fun r0_19=>bif r0_19 then (bif (decide (r1_4_22=0)) then ((g37 r0_2_14 [0,1]).bind fun r0_20=>bif r0_20 then (bif (decide (r1_4_23=0)) then (bif (decide ((r0_2_15.length:Int)=0)) then (bif (decide (r1_4_24=0)) then ((g37 r0_3_8 [0]).bind fun r0_21=>bif r0_21 then (bif (decide (r1_4_25=0)) then ((g10 1 2).bind fun r0_22=>bif (false != ((r0_4_10.Low==r0_22.Low)&&((r0_4_10.High==r0_22.High)&&true))) then ((g51).bind fun t2=>some t2) else (some false)) else (some false)) else (some false)) else (some false)) else (some false)) else (some false)) else (some false)) else (some false)) else (some false)) else (some false)) else (some false)) else (some false)) else (some false)) else (some false)) else (some false)) else (some false)) else (some false)) else (some false)) else (some false)) else (some false)).bind fun t=>some t)
set_option maxHeartbeats 4000000 in
theorem k5  (r:Bool) (h:g5=some r):SCall Tryd.prog Gs 5 [] [] 0 Fr.emp (.d (.bool r)) [] 0 Fr.emp:=by
 unfold g5 at h
 refine SCall.mkK Tryd.func5 c5 rfl rfl (by kernel_rfl) (fun Q_0 hR_0 hN_0=>?_)
 refine Sa (sT [] [] 0 0) ?_
 refine AW.srwK (fun Q_1 hQ_1=>?_)
 refine Au 1 (sT [(45,.agg [.d (.nilSl),.d (.nilSl),jI 0,jI 0,jI 0,.d (.nilSl),.d (.nilSl),jI 0,jI 0])] [] 0 0) ?_
 obtain ⟨r0_2,hx_2,h⟩:=bsome h
 refine rC (k39 _ hx_2) ?_
 obtain ⟨r0_2_1,hx_3,h⟩:=bsome h
 refine rC (k39 _ hx_3) ?_
 obtain ⟨⟨r0_Hair_Hanks,r0_Hair_Horses,r0_Hair_Dark,r0_Hair_Near,r0_Hair_Match,r0_Stock,r0_Pack,r0_Bad,o6,o6_1⟩,hx_4,h⟩:=bsome h
 refine RW.one fokW (r_callS (zr:=[]) [] trivial rfl (k39a _ hx_4) trivial rfl rfl trivial rfl rfl rfl (r_end ?_))
 obtain ⟨⟨r0_Hair_Hanks1,r0_Hair_Horses1,r0_Hair_Dark1,r0_Hair_Near1,r0_Hair_Match1,r0_Stock1,r0_Pack1,r0_Bad1,o6_2,o6_1_1⟩,hx_5,h⟩:=bsome h
 refine RW.one fokW (r_callS (zr:=[]) [] trivial rfl (k39a _ hx_5) trivial rfl rfl trivial rfl rfl rfl (r_end ?_))
 obtain ⟨⟨r0_Hair_Hanks2,r0_Hair_Horses2,r0_Hair_Dark2,r0_Hair_Near2,r0_Hair_Match2,r0_Stock2,r0_Pack2,r0_Bad2,o6_3,o6_1_2⟩,hx_6,h⟩:=bsome h
 refine RW.one fokW (r_callS (zr:=[]) [] trivial rfl (k39a _ hx_6) trivial rfl rfl trivial rfl rfl rfl (r_end ?_))
 obtain ⟨r0_2_2,hx_7,h⟩:=bsome h
 refine rC (k39 _ hx_7) ?_
 obtain ⟨⟨r0_Hair_Hanks3,r0_Hair_Horses3,r0_Hair_Dark3,r0_Hair_Near3,r0_Hair_Match3,r0_Stock3,r0_Pack3,r0_Bad3,o6_4,o6_1_3⟩,hx_8,h⟩:=bsome h
 refine RW.one fokW (r_callS (zr:=[]) [] trivial rfl (k39a _ hx_8) trivial rfl rfl trivial rfl rfl rfl (r_end ?_))
 obtain ⟨⟨r0_Hair_Hanks4,r0_Hair_Horses4,r0_Hair_Dark4,r0_Hair_Near4,r0_Hair_Match4,r0_Stock4,r0_Pack4,r0_Bad4,o6_5,o6_1_4⟩,hx_9,h⟩:=bsome h
 refine RW.one fokW (r_callS (zr:=[]) [] trivial rfl (k39a _ hx_9) trivial rfl rfl trivial rfl rfl rfl (r_end ?_))
 obtain ⟨⟨r0_Hair_Hanks5,r0_Hair_Horses5,r0_Hair_Dark5,r0_Hair_Near5,r0_Hair_Match5,r0_Stock5,r0_Pack5,r0_Bad5,o6_6,o6_1_5⟩,hx_10,h⟩:=bsome h
 refine RW.one fokW (r_callS (zr:=[]) [] trivial rfl (k39a _ hx_10) trivial rfl rfl trivial rfl rfl rfl (r_end ?_))
 obtain ⟨r0_2_3,hx_11,h⟩:=bsome h
 refine rC (k39 _ hx_11) ?_
 obtain ⟨r0_2_4,hx_12,h⟩:=bsome h
 refine rC (k39 _ hx_12) ?_
 refine RW.one fokW (r_bslA (vs:=[.agg [.d (.nilSl),.d (.nilSl),jI 0,jI 0,jI 0,.d (.nilSl),.d (.nilSl),jI 0,jI 0],.agg [.d (.sl 4 (List.map e65 r0_2.Hair.Hanks)),.d (.sl 3 (List.map e67 r0_2.Hair.Horses)),jI r0_2.Hair.Dark,jI r0_2.Hair.Near,jI r0_2.Hair.Match,.d (.sl 1 (List.map e51 r0_2.Needs)),.d (.sl 2 (List.map e33 r0_2.Stock)),jI r0_2.Pack,jI r0_2.Bad],.agg [.d (.sl 4 (List.map e65 r0_2_1.Hair.Hanks)),.d (.sl 3 (List.map e67 r0_2_1.Hair.Horses)),jI r0_2_1.Hair.Dark,jI r0_2_1.Hair.Near,jI r0_2_1.Hair.Match,.d (.sl 1 (List.map e51 r0_2_1.Needs)),.d (.sl 2 (List.map e33 r0_2_1.Stock)),jI r0_2_1.Pack,jI r0_2_1.Bad],.agg [.own 2 (List.map e65 r0_Hair_Hanks).length,.own 3 (List.map e67 r0_Hair_Horses).length,jI r0_Hair_Dark,jI r0_Hair_Near,jI r0_Hair_Match,.asl 6 2,.own 7 (List.map e33 r0_Stock).length,jI r0_Pack,jI r0_Bad],.agg [.own 10 (List.map e65 r0_Hair_Hanks1).length,.own 11 (List.map e67 r0_Hair_Horses1).length,jI r0_Hair_Dark1,jI r0_Hair_Near1,jI r0_Hair_Match1,.asl 14 2,.own 15 (List.map e33 r0_Stock1).length,jI r0_Pack1,jI r0_Bad1],.agg [.own 18 (List.map e65 r0_Hair_Hanks2).length,.own 19 (List.map e67 r0_Hair_Horses2).length,jI r0_Hair_Dark2,jI r0_Hair_Near2,jI r0_Hair_Match2,.asl 22 2,.own 23 (List.map e33 r0_Stock2).length,jI r0_Pack2,jI r0_Bad2],.agg [.d (.sl 4 (List.map e65 r0_2_2.Hair.Hanks)),.d (.sl 3 (List.map e67 r0_2_2.Hair.Horses)),jI r0_2_2.Hair.Dark,jI r0_2_2.Hair.Near,jI r0_2_2.Hair.Match,.d (.sl 1 (List.map e51 r0_2_2.Needs)),.d (.sl 2 (List.map e33 r0_2_2.Stock)),jI r0_2_2.Pack,jI r0_2_2.Bad],.agg [.own 26 (List.map e65 r0_Hair_Hanks3).length,.own 27 (List.map e67 r0_Hair_Horses3).length,jI r0_Hair_Dark3,jI r0_Hair_Near3,jI r0_Hair_Match3,.asl 30 2,.own 31 (List.map e33 r0_Stock3).length,jI r0_Pack3,jI r0_Bad3],.agg [.own 34 (List.map e65 r0_Hair_Hanks4).length,.own 35 (List.map e67 r0_Hair_Horses4).length,jI r0_Hair_Dark4,jI r0_Hair_Near4,jI r0_Hair_Match4,.asl 38 2,.own 39 (List.map e33 r0_Stock4).length,jI r0_Pack4,jI r0_Bad4],.agg [.own 42 (List.map e65 r0_Hair_Hanks5).length,.own 43 (List.map e67 r0_Hair_Horses5).length,jI r0_Hair_Dark5,jI r0_Hair_Near5,jI r0_Hair_Match5,.asl 46 2,.own 47 (List.map e33 r0_Stock5).length,jI r0_Pack5,jI r0_Bad5],.agg [.d (.sl 4 (List.map e65 r0_2_3.Hair.Hanks)),.d (.sl 3 (List.map e67 r0_2_3.Hair.Horses)),jI r0_2_3.Hair.Dark,jI r0_2_3.Hair.Near,jI r0_2_3.Hair.Match,.d (.sl 1 (List.map e51 r0_2_3.Needs)),.d (.sl 2 (List.map e33 r0_2_3.Stock)),jI r0_2_3.Pack,jI r0_2_3.Bad],.agg [.d (.sl 4 (List.map e65 r0_2_4.Hair.Hanks)),.d (.sl 3 (List.map e67 r0_2_4.Hair.Horses)),jI r0_2_4.Hair.Dark,jI r0_2_4.Hair.Near,jI r0_2_4.Hair.Match,.d (.sl 1 (List.map e51 r0_2_4.Needs)),.d (.sl 2 (List.map e33 r0_2_4.Stock)),jI r0_2_4.Pack,jI r0_2_4.Bad]]) (out:=[.d (.nilSl),.d (.nilSl),jI 0,jI 0,jI 0,.d (.nilSl),.d (.nilSl),jI 0,jI 0,.d (.sl 4 (List.map e65 r0_2.Hair.Hanks)),.d (.sl 3 (List.map e67 r0_2.Hair.Horses)),jI r0_2.Hair.Dark,jI r0_2.Hair.Near,jI r0_2.Hair.Match,.d (.sl 1 (List.map e51 r0_2.Needs)),.d (.sl 2 (List.map e33 r0_2.Stock)),jI r0_2.Pack,jI r0_2.Bad,.d (.sl 4 (List.map e65 r0_2_1.Hair.Hanks)),.d (.sl 3 (List.map e67 r0_2_1.Hair.Horses)),jI r0_2_1.Hair.Dark,jI r0_2_1.Hair.Near,jI r0_2_1.Hair.Match,.d (.sl 1 (List.map e51 r0_2_1.Needs)),.d (.sl 2 (List.map e33 r0_2_1.Stock)),jI r0_2_1.Pack,jI r0_2_1.Bad,.own 2 (List.map e65 r0_Hair_Hanks).length,.own 3 (List.map e67 r0_Hair_Horses).length,jI r0_Hair_Dark,jI r0_Hair_Near,jI r0_Hair_Match,.asl 6 2,.own 7 (List.map e33 r0_Stock).length,jI r0_Pack,jI r0_Bad,.own 10 (List.map e65 r0_Hair_Hanks1).length,.own 11 (List.map e67 r0_Hair_Horses1).length,jI r0_Hair_Dark1,jI r0_Hair_Near1,jI r0_Hair_Match1,.asl 14 2,.own 15 (List.map e33 r0_Stock1).length,jI r0_Pack1,jI r0_Bad1,.own 18 (List.map e65 r0_Hair_Hanks2).length,.own 19 (List.map e67 r0_Hair_Horses2).length,jI r0_Hair_Dark2,jI r0_Hair_Near2,jI r0_Hair_Match2,.asl 22 2,.own 23 (List.map e33 r0_Stock2).length,jI r0_Pack2,jI r0_Bad2,.d (.sl 4 (List.map e65 r0_2_2.Hair.Hanks)),.d (.sl 3 (List.map e67 r0_2_2.Hair.Horses)),jI r0_2_2.Hair.Dark,jI r0_2_2.Hair.Near,jI r0_2_2.Hair.Match,.d (.sl 1 (List.map e51 r0_2_2.Needs)),.d (.sl 2 (List.map e33 r0_2_2.Stock)),jI r0_2_2.Pack,jI r0_2_2.Bad,.own 26 (List.map e65 r0_Hair_Hanks3).length,.own 27 (List.map e67 r0_Hair_Horses3).length,jI r0_Hair_Dark3,jI r0_Hair_Near3,jI r0_Hair_Match3,.asl 30 2,.own 31 (List.map e33 r0_Stock3).length,jI r0_Pack3,jI r0_Bad3,.own 34 (List.map e65 r0_Hair_Hanks4).length,.own 35 (List.map e67 r0_Hair_Horses4).length,jI r0_Hair_Dark4,jI r0_Hair_Near4,jI r0_Hair_Match4,.asl 38 2,.own 39 (List.map e33 r0_Stock4).length,jI r0_Pack4,jI r0_Bad4,.own 42 (List.map e65 r0_Hair_Hanks5).length,.own 43 (List.map e67 r0_Hair_Horses5).length,jI r0_Hair_Dark5,jI r0_Hair_Near5,jI r0_Hair_Match5,.asl 46 2,.own 47 (List.map e33 r0_Stock5).length,jI r0_Pack5,jI r0_Bad5,.d (.sl 4 (List.map e65 r0_2_3.Hair.Hanks)),.d (.sl 3 (List.map e67 r0_2_3.Hair.Horses)),jI r0_2_3.Hair.Dark,jI r0_2_3.Hair.Near,jI r0_2_3.Hair.Match,.d (.sl 1 (List.map e51 r0_2_3.Needs)),.d (.sl 2 (List.map e33 r0_2_3.Stock)),jI r0_2_3.Pack,jI r0_2_3.Bad,.d (.sl 4 (List.map e65 r0_2_4.Hair.Hanks)),.d (.sl 3 (List.map e67 r0_2_4.Hair.Horses)),jI r0_2_4.Hair.Dark,jI r0_2_4.Hair.Near,jI r0_2_4.Hair.Match,.d (.sl 1 (List.map e51 r0_2_4.Needs)),.d (.sl 2 (List.map e33 r0_2_4.Stock)),jI r0_2_4.Pack,jI r0_2_4.Bad]) trivial (by kernel_rfl) (by kernel_rfl) rfl rfl rfl (r_end ?_))
 refine Au 1 (sT [(1,.asl 48 12)] [(48,.arr 83 [.d (.nilSl),.d (.nilSl),jI 0,jI 0,jI 0,.d (.nilSl),.d (.nilSl),jI 0,jI 0,.d (.sl 4 (List.map e65 r0_2.Hair.Hanks)),.d (.sl 3 (List.map e67 r0_2.Hair.Horses)),jI r0_2.Hair.Dark,jI r0_2.Hair.Near,jI r0_2.Hair.Match,.d (.sl 1 (List.map e51 r0_2.Needs)),.d (.sl 2 (List.map e33 r0_2.Stock)),jI r0_2.Pack,jI r0_2.Bad,.d (.sl 4 (List.map e65 r0_2_1.Hair.Hanks)),.d (.sl 3 (List.map e67 r0_2_1.Hair.Horses)),jI r0_2_1.Hair.Dark,jI r0_2_1.Hair.Near,jI r0_2_1.Hair.Match,.d (.sl 1 (List.map e51 r0_2_1.Needs)),.d (.sl 2 (List.map e33 r0_2_1.Stock)),jI r0_2_1.Pack,jI r0_2_1.Bad,.own 2 (List.map e65 r0_Hair_Hanks).length,.own 3 (List.map e67 r0_Hair_Horses).length,jI r0_Hair_Dark,jI r0_Hair_Near,jI r0_Hair_Match,.asl 6 2,.own 7 (List.map e33 r0_Stock).length,jI r0_Pack,jI r0_Bad,.own 10 (List.map e65 r0_Hair_Hanks1).length,.own 11 (List.map e67 r0_Hair_Horses1).length,jI r0_Hair_Dark1,jI r0_Hair_Near1,jI r0_Hair_Match1,.asl 14 2,.own 15 (List.map e33 r0_Stock1).length,jI r0_Pack1,jI r0_Bad1,.own 18 (List.map e65 r0_Hair_Hanks2).length,.own 19 (List.map e67 r0_Hair_Horses2).length,jI r0_Hair_Dark2,jI r0_Hair_Near2,jI r0_Hair_Match2,.asl 22 2,.own 23 (List.map e33 r0_Stock2).length,jI r0_Pack2,jI r0_Bad2,.d (.sl 4 (List.map e65 r0_2_2.Hair.Hanks)),.d (.sl 3 (List.map e67 r0_2_2.Hair.Horses)),jI r0_2_2.Hair.Dark,jI r0_2_2.Hair.Near,jI r0_2_2.Hair.Match,.d (.sl 1 (List.map e51 r0_2_2.Needs)),.d (.sl 2 (List.map e33 r0_2_2.Stock)),jI r0_2_2.Pack,jI r0_2_2.Bad,.own 26 (List.map e65 r0_Hair_Hanks3).length,.own 27 (List.map e67 r0_Hair_Horses3).length,jI r0_Hair_Dark3,jI r0_Hair_Near3,jI r0_Hair_Match3,.asl 30 2,.own 31 (List.map e33 r0_Stock3).length,jI r0_Pack3,jI r0_Bad3,.own 34 (List.map e65 r0_Hair_Hanks4).length,.own 35 (List.map e67 r0_Hair_Horses4).length,jI r0_Hair_Dark4,jI r0_Hair_Near4,jI r0_Hair_Match4,.asl 38 2,.own 39 (List.map e33 r0_Stock4).length,jI r0_Pack4,jI r0_Bad4,.own 42 (List.map e65 r0_Hair_Hanks5).length,.own 43 (List.map e67 r0_Hair_Horses5).length,jI r0_Hair_Dark5,jI r0_Hair_Near5,jI r0_Hair_Match5,.asl 46 2,.own 47 (List.map e33 r0_Stock5).length,jI r0_Pack5,jI r0_Bad5,.d (.sl 4 (List.map e65 r0_2_3.Hair.Hanks)),.d (.sl 3 (List.map e67 r0_2_3.Hair.Horses)),jI r0_2_3.Hair.Dark,jI r0_2_3.Hair.Near,jI r0_2_3.Hair.Match,.d (.sl 1 (List.map e51 r0_2_3.Needs)),.d (.sl 2 (List.map e33 r0_2_3.Stock)),jI r0_2_3.Pack,jI r0_2_3.Bad,.d (.sl 4 (List.map e65 r0_2_4.Hair.Hanks)),.d (.sl 3 (List.map e67 r0_2_4.Hair.Horses)),jI r0_2_4.Hair.Dark,jI r0_2_4.Hair.Near,jI r0_2_4.Hair.Match,.d (.sl 1 (List.map e51 r0_2_4.Needs)),.d (.sl 2 (List.map e33 r0_2_4.Stock)),jI r0_2_4.Pack,jI r0_2_4.Bad]),(42,.row 65 4 (List.map e65 r0_Hair_Hanks5)),(43,.row 67 3 (List.map e67 r0_Hair_Horses5)),(44,.row 3 1 (List.map e3 o6_6)),(45,.row 3 1 (List.map e3 o6_1_5)),(46,.arr 51 [.own 44 (List.map e3 o6_6).length,.own 45 (List.map e3 o6_1_5).length]),(47,.row 33 2 (List.map e33 r0_Stock5)),(34,.row 65 4 (List.map e65 r0_Hair_Hanks4)),(35,.row 67 3 (List.map e67 r0_Hair_Horses4)),(36,.row 3 1 (List.map e3 o6_5)),(37,.row 3 1 (List.map e3 o6_1_4)),(38,.arr 51 [.own 36 (List.map e3 o6_5).length,.own 37 (List.map e3 o6_1_4).length]),(39,.row 33 2 (List.map e33 r0_Stock4)),(26,.row 65 4 (List.map e65 r0_Hair_Hanks3)),(27,.row 67 3 (List.map e67 r0_Hair_Horses3)),(28,.row 3 1 (List.map e3 o6_4)),(29,.row 3 1 (List.map e3 o6_1_3)),(30,.arr 51 [.own 28 (List.map e3 o6_4).length,.own 29 (List.map e3 o6_1_3).length]),(31,.row 33 2 (List.map e33 r0_Stock3)),(18,.row 65 4 (List.map e65 r0_Hair_Hanks2)),(19,.row 67 3 (List.map e67 r0_Hair_Horses2)),(20,.row 3 1 (List.map e3 o6_3)),(21,.row 3 1 (List.map e3 o6_1_2)),(22,.arr 51 [.own 20 (List.map e3 o6_3).length,.own 21 (List.map e3 o6_1_2).length]),(23,.row 33 2 (List.map e33 r0_Stock2)),(10,.row 65 4 (List.map e65 r0_Hair_Hanks1)),(11,.row 67 3 (List.map e67 r0_Hair_Horses1)),(12,.row 3 1 (List.map e3 o6_2)),(13,.row 3 1 (List.map e3 o6_1_1)),(14,.arr 51 [.own 12 (List.map e3 o6_2).length,.own 13 (List.map e3 o6_1_1).length]),(15,.row 33 2 (List.map e33 r0_Stock1)),(2,.row 65 4 (List.map e65 r0_Hair_Hanks)),(3,.row 67 3 (List.map e67 r0_Hair_Horses)),(4,.row 3 1 (List.map e3 o6)),(5,.row 3 1 (List.map e3 o6_1)),(6,.arr 51 [.own 4 (List.map e3 o6).length,.own 5 (List.map e3 o6_1).length]),(7,.row 33 2 (List.map e33 r0_Stock))] 49 0) ?_
 refine RW.nil (hQ_1 _ ?_)
 refine AW.srwK (fun Q_13 hQ_13=>?_)
 refine Au 1 (sT [(1,.asl 48 12),(58,.asl 48 12)] [(48,.arr 83 [.d (.nilSl),.d (.nilSl),jI 0,jI 0,jI 0,.d (.nilSl),.d (.nilSl),jI 0,jI 0,.d (.sl 4 (List.map e65 r0_2.Hair.Hanks)),.d (.sl 3 (List.map e67 r0_2.Hair.Horses)),jI r0_2.Hair.Dark,jI r0_2.Hair.Near,jI r0_2.Hair.Match,.d (.sl 1 (List.map e51 r0_2.Needs)),.d (.sl 2 (List.map e33 r0_2.Stock)),jI r0_2.Pack,jI r0_2.Bad,.d (.sl 4 (List.map e65 r0_2_1.Hair.Hanks)),.d (.sl 3 (List.map e67 r0_2_1.Hair.Horses)),jI r0_2_1.Hair.Dark,jI r0_2_1.Hair.Near,jI r0_2_1.Hair.Match,.d (.sl 1 (List.map e51 r0_2_1.Needs)),.d (.sl 2 (List.map e33 r0_2_1.Stock)),jI r0_2_1.Pack,jI r0_2_1.Bad,.own 2 (List.map e65 r0_Hair_Hanks).length,.own 3 (List.map e67 r0_Hair_Horses).length,jI r0_Hair_Dark,jI r0_Hair_Near,jI r0_Hair_Match,.asl 6 2,.own 7 (List.map e33 r0_Stock).length,jI r0_Pack,jI r0_Bad,.own 10 (List.map e65 r0_Hair_Hanks1).length,.own 11 (List.map e67 r0_Hair_Horses1).length,jI r0_Hair_Dark1,jI r0_Hair_Near1,jI r0_Hair_Match1,.asl 14 2,.own 15 (List.map e33 r0_Stock1).length,jI r0_Pack1,jI r0_Bad1,.own 18 (List.map e65 r0_Hair_Hanks2).length,.own 19 (List.map e67 r0_Hair_Horses2).length,jI r0_Hair_Dark2,jI r0_Hair_Near2,jI r0_Hair_Match2,.asl 22 2,.own 23 (List.map e33 r0_Stock2).length,jI r0_Pack2,jI r0_Bad2,.d (.sl 4 (List.map e65 r0_2_2.Hair.Hanks)),.d (.sl 3 (List.map e67 r0_2_2.Hair.Horses)),jI r0_2_2.Hair.Dark,jI r0_2_2.Hair.Near,jI r0_2_2.Hair.Match,.d (.sl 1 (List.map e51 r0_2_2.Needs)),.d (.sl 2 (List.map e33 r0_2_2.Stock)),jI r0_2_2.Pack,jI r0_2_2.Bad,.own 26 (List.map e65 r0_Hair_Hanks3).length,.own 27 (List.map e67 r0_Hair_Horses3).length,jI r0_Hair_Dark3,jI r0_Hair_Near3,jI r0_Hair_Match3,.asl 30 2,.own 31 (List.map e33 r0_Stock3).length,jI r0_Pack3,jI r0_Bad3,.own 34 (List.map e65 r0_Hair_Hanks4).length,.own 35 (List.map e67 r0_Hair_Horses4).length,jI r0_Hair_Dark4,jI r0_Hair_Near4,jI r0_Hair_Match4,.asl 38 2,.own 39 (List.map e33 r0_Stock4).length,jI r0_Pack4,jI r0_Bad4,.own 42 (List.map e65 r0_Hair_Hanks5).length,.own 43 (List.map e67 r0_Hair_Horses5).length,jI r0_Hair_Dark5,jI r0_Hair_Near5,jI r0_Hair_Match5,.asl 46 2,.own 47 (List.map e33 r0_Stock5).length,jI r0_Pack5,jI r0_Bad5,.d (.sl 4 (List.map e65 r0_2_3.Hair.Hanks)),.d (.sl 3 (List.map e67 r0_2_3.Hair.Horses)),jI r0_2_3.Hair.Dark,jI r0_2_3.Hair.Near,jI r0_2_3.Hair.Match,.d (.sl 1 (List.map e51 r0_2_3.Needs)),.d (.sl 2 (List.map e33 r0_2_3.Stock)),jI r0_2_3.Pack,jI r0_2_3.Bad,.d (.sl 4 (List.map e65 r0_2_4.Hair.Hanks)),.d (.sl 3 (List.map e67 r0_2_4.Hair.Horses)),jI r0_2_4.Hair.Dark,jI r0_2_4.Hair.Near,jI r0_2_4.Hair.Match,.d (.sl 1 (List.map e51 r0_2_4.Needs)),.d (.sl 2 (List.map e33 r0_2_4.Stock)),jI r0_2_4.Pack,jI r0_2_4.Bad]),(42,.row 65 4 (List.map e65 r0_Hair_Hanks5)),(43,.row 67 3 (List.map e67 r0_Hair_Horses5)),(44,.row 3 1 (List.map e3 o6_6)),(45,.row 3 1 (List.map e3 o6_1_5)),(46,.arr 51 [.own 44 (List.map e3 o6_6).length,.own 45 (List.map e3 o6_1_5).length]),(47,.row 33 2 (List.map e33 r0_Stock5)),(34,.row 65 4 (List.map e65 r0_Hair_Hanks4)),(35,.row 67 3 (List.map e67 r0_Hair_Horses4)),(36,.row 3 1 (List.map e3 o6_5)),(37,.row 3 1 (List.map e3 o6_1_4)),(38,.arr 51 [.own 36 (List.map e3 o6_5).length,.own 37 (List.map e3 o6_1_4).length]),(39,.row 33 2 (List.map e33 r0_Stock4)),(26,.row 65 4 (List.map e65 r0_Hair_Hanks3)),(27,.row 67 3 (List.map e67 r0_Hair_Horses3)),(28,.row 3 1 (List.map e3 o6_4)),(29,.row 3 1 (List.map e3 o6_1_3)),(30,.arr 51 [.own 28 (List.map e3 o6_4).length,.own 29 (List.map e3 o6_1_3).length]),(31,.row 33 2 (List.map e33 r0_Stock3)),(18,.row 65 4 (List.map e65 r0_Hair_Hanks2)),(19,.row 67 3 (List.map e67 r0_Hair_Horses2)),(20,.row 3 1 (List.map e3 o6_3)),(21,.row 3 1 (List.map e3 o6_1_2)),(22,.arr 51 [.own 20 (List.map e3 o6_3).length,.own 21 (List.map e3 o6_1_2).length]),(23,.row 33 2 (List.map e33 r0_Stock2)),(10,.row 65 4 (List.map e65 r0_Hair_Hanks1)),(11,.row 67 3 (List.map e67 r0_Hair_Horses1)),(12,.row 3 1 (List.map e3 o6_2)),(13,.row 3 1 (List.map e3 o6_1_1)),(14,.arr 51 [.own 12 (List.map e3 o6_2).length,.own 13 (List.map e3 o6_1_1).length]),(15,.row 33 2 (List.map e33 r0_Stock1)),(2,.row 65 4 (List.map e65 r0_Hair_Hanks)),(3,.row 67 3 (List.map e67 r0_Hair_Horses)),(4,.row 3 1 (List.map e3 o6)),(5,.row 3 1 (List.map e3 o6_1)),(6,.arr 51 [.own 4 (List.map e3 o6).length,.own 5 (List.map e3 o6_1).length]),(7,.row 33 2 (List.map e33 r0_Stock))] 49 0) ?_
 refine RW.one fokW (r_iaAS trivial rfl rfl rfl (by decide) (by decide) (r_end ?_))
 refine RW.one fokW (r_faddrA trivial rfl (r_end ?_))
 refine RW.one fokW (r_faddrA trivial rfl (r_end ?_))
 refine RW.one fokW (r_storeA trivial rfl rfl rfl rfl rfl rfl (r_end ?_))
 refine RW.nil (hQ_13 _ ?_)
 refine AW.srwK (fun Q_14 hQ_14=>?_)
 refine Au 1 (sT [(1,.asl 48 12),(62,.asl 48 12)] [(48,.arr 83 [.d (.nilSl),.d (.nilSl),jI 0,jI 0,jI 0,.d (.nilSl),.d (.nilSl),jI 0,jI 0,.d (.sl 4 (List.map e65 r0_2.Hair.Hanks)),.d (.sl 3 (List.map e67 r0_2.Hair.Horses)),jI 5,jI r0_2.Hair.Near,jI r0_2.Hair.Match,.d (.sl 1 (List.map e51 r0_2.Needs)),.d (.sl 2 (List.map e33 r0_2.Stock)),jI r0_2.Pack,jI r0_2.Bad,.d (.sl 4 (List.map e65 r0_2_1.Hair.Hanks)),.d (.sl 3 (List.map e67 r0_2_1.Hair.Horses)),jI r0_2_1.Hair.Dark,jI r0_2_1.Hair.Near,jI r0_2_1.Hair.Match,.d (.sl 1 (List.map e51 r0_2_1.Needs)),.d (.sl 2 (List.map e33 r0_2_1.Stock)),jI r0_2_1.Pack,jI r0_2_1.Bad,.own 2 (List.map e65 r0_Hair_Hanks).length,.own 3 (List.map e67 r0_Hair_Horses).length,jI r0_Hair_Dark,jI r0_Hair_Near,jI r0_Hair_Match,.asl 6 2,.own 7 (List.map e33 r0_Stock).length,jI r0_Pack,jI r0_Bad,.own 10 (List.map e65 r0_Hair_Hanks1).length,.own 11 (List.map e67 r0_Hair_Horses1).length,jI r0_Hair_Dark1,jI r0_Hair_Near1,jI r0_Hair_Match1,.asl 14 2,.own 15 (List.map e33 r0_Stock1).length,jI r0_Pack1,jI r0_Bad1,.own 18 (List.map e65 r0_Hair_Hanks2).length,.own 19 (List.map e67 r0_Hair_Horses2).length,jI r0_Hair_Dark2,jI r0_Hair_Near2,jI r0_Hair_Match2,.asl 22 2,.own 23 (List.map e33 r0_Stock2).length,jI r0_Pack2,jI r0_Bad2,.d (.sl 4 (List.map e65 r0_2_2.Hair.Hanks)),.d (.sl 3 (List.map e67 r0_2_2.Hair.Horses)),jI r0_2_2.Hair.Dark,jI r0_2_2.Hair.Near,jI r0_2_2.Hair.Match,.d (.sl 1 (List.map e51 r0_2_2.Needs)),.d (.sl 2 (List.map e33 r0_2_2.Stock)),jI r0_2_2.Pack,jI r0_2_2.Bad,.own 26 (List.map e65 r0_Hair_Hanks3).length,.own 27 (List.map e67 r0_Hair_Horses3).length,jI r0_Hair_Dark3,jI r0_Hair_Near3,jI r0_Hair_Match3,.asl 30 2,.own 31 (List.map e33 r0_Stock3).length,jI r0_Pack3,jI r0_Bad3,.own 34 (List.map e65 r0_Hair_Hanks4).length,.own 35 (List.map e67 r0_Hair_Horses4).length,jI r0_Hair_Dark4,jI r0_Hair_Near4,jI r0_Hair_Match4,.asl 38 2,.own 39 (List.map e33 r0_Stock4).length,jI r0_Pack4,jI r0_Bad4,.own 42 (List.map e65 r0_Hair_Hanks5).length,.own 43 (List.map e67 r0_Hair_Horses5).length,jI r0_Hair_Dark5,jI r0_Hair_Near5,jI r0_Hair_Match5,.asl 46 2,.own 47 (List.map e33 r0_Stock5).length,jI r0_Pack5,jI r0_Bad5,.d (.sl 4 (List.map e65 r0_2_3.Hair.Hanks)),.d (.sl 3 (List.map e67 r0_2_3.Hair.Horses)),jI r0_2_3.Hair.Dark,jI r0_2_3.Hair.Near,jI r0_2_3.Hair.Match,.d (.sl 1 (List.map e51 r0_2_3.Needs)),.d (.sl 2 (List.map e33 r0_2_3.Stock)),jI r0_2_3.Pack,jI r0_2_3.Bad,.d (.sl 4 (List.map e65 r0_2_4.Hair.Hanks)),.d (.sl 3 (List.map e67 r0_2_4.Hair.Horses)),jI r0_2_4.Hair.Dark,jI r0_2_4.Hair.Near,jI r0_2_4.Hair.Match,.d (.sl 1 (List.map e51 r0_2_4.Needs)),.d (.sl 2 (List.map e33 r0_2_4.Stock)),jI r0_2_4.Pack,jI r0_2_4.Bad]),(42,.row 65 4 (List.map e65 r0_Hair_Hanks5)),(43,.row 67 3 (List.map e67 r0_Hair_Horses5)),(44,.row 3 1 (List.map e3 o6_6)),(45,.row 3 1 (List.map e3 o6_1_5)),(46,.arr 51 [.own 44 (List.map e3 o6_6).length,.own 45 (List.map e3 o6_1_5).length]),(47,.row 33 2 (List.map e33 r0_Stock5)),(34,.row 65 4 (List.map e65 r0_Hair_Hanks4)),(35,.row 67 3 (List.map e67 r0_Hair_Horses4)),(36,.row 3 1 (List.map e3 o6_5)),(37,.row 3 1 (List.map e3 o6_1_4)),(38,.arr 51 [.own 36 (List.map e3 o6_5).length,.own 37 (List.map e3 o6_1_4).length]),(39,.row 33 2 (List.map e33 r0_Stock4)),(26,.row 65 4 (List.map e65 r0_Hair_Hanks3)),(27,.row 67 3 (List.map e67 r0_Hair_Horses3)),(28,.row 3 1 (List.map e3 o6_4)),(29,.row 3 1 (List.map e3 o6_1_3)),(30,.arr 51 [.own 28 (List.map e3 o6_4).length,.own 29 (List.map e3 o6_1_3).length]),(31,.row 33 2 (List.map e33 r0_Stock3)),(18,.row 65 4 (List.map e65 r0_Hair_Hanks2)),(19,.row 67 3 (List.map e67 r0_Hair_Horses2)),(20,.row 3 1 (List.map e3 o6_3)),(21,.row 3 1 (List.map e3 o6_1_2)),(22,.arr 51 [.own 20 (List.map e3 o6_3).length,.own 21 (List.map e3 o6_1_2).length]),(23,.row 33 2 (List.map e33 r0_Stock2)),(10,.row 65 4 (List.map e65 r0_Hair_Hanks1)),(11,.row 67 3 (List.map e67 r0_Hair_Horses1)),(12,.row 3 1 (List.map e3 o6_2)),(13,.row 3 1 (List.map e3 o6_1_1)),(14,.arr 51 [.own 12 (List.map e3 o6_2).length,.own 13 (List.map e3 o6_1_1).length]),(15,.row 33 2 (List.map e33 r0_Stock1)),(2,.row 65 4 (List.map e65 r0_Hair_Hanks)),(3,.row 67 3 (List.map e67 r0_Hair_Horses)),(4,.row 3 1 (List.map e3 o6)),(5,.row 3 1 (List.map e3 o6_1)),(6,.arr 51 [.own 4 (List.map e3 o6).length,.own 5 (List.map e3 o6_1).length]),(7,.row 33 2 (List.map e33 r0_Stock))] 49 0) ?_
 refine RW.one fokW (r_iaAS trivial rfl rfl rfl (by decide) (by decide) (r_end ?_))
 refine RW.one fokW (r_faddrA trivial rfl (r_end ?_))
 refine RW.one fokW (r_storeA trivial rfl rfl rfl rfl rfl rfl (r_end ?_))
 refine RW.nil (hQ_14 _ ?_)
 refine AW.sdrwK fokW (fun Q_15 hQ_15=>?_)
 refine aX 2 (sT [(1,.asl 48 12),(65,.asl 48 12),(66,.asl 48 12)] [(48,.arr 83 [.d (.nilSl),.d (.nilSl),jI 0,jI 0,jI 0,.d (.nilSl),.d (.nilSl),jI 0,jI 0,.d (.sl 4 (List.map e65 r0_2.Hair.Hanks)),.d (.sl 3 (List.map e67 r0_2.Hair.Horses)),jI 5,jI r0_2.Hair.Near,jI r0_2.Hair.Match,.d (.sl 1 (List.map e51 r0_2.Needs)),.d (.sl 2 (List.map e33 r0_2.Stock)),jI r0_2.Pack,jI r0_2.Bad,.d (.sl 4 (List.map e65 r0_2_1.Hair.Hanks)),.d (.sl 3 (List.map e67 r0_2_1.Hair.Horses)),jI r0_2_1.Hair.Dark,jI r0_2_1.Hair.Near,jI r0_2_1.Hair.Match,.d (.sl 1 (List.map e51 r0_2_1.Needs)),.d (.nilSl),jI r0_2_1.Pack,jI r0_2_1.Bad,.own 2 (List.map e65 r0_Hair_Hanks).length,.own 3 (List.map e67 r0_Hair_Horses).length,jI r0_Hair_Dark,jI r0_Hair_Near,jI r0_Hair_Match,.asl 6 2,.own 7 (List.map e33 r0_Stock).length,jI r0_Pack,jI r0_Bad,.own 10 (List.map e65 r0_Hair_Hanks1).length,.own 11 (List.map e67 r0_Hair_Horses1).length,jI r0_Hair_Dark1,jI r0_Hair_Near1,jI r0_Hair_Match1,.asl 14 2,.own 15 (List.map e33 r0_Stock1).length,jI r0_Pack1,jI r0_Bad1,.own 18 (List.map e65 r0_Hair_Hanks2).length,.own 19 (List.map e67 r0_Hair_Horses2).length,jI r0_Hair_Dark2,jI r0_Hair_Near2,jI r0_Hair_Match2,.asl 22 2,.own 23 (List.map e33 r0_Stock2).length,jI r0_Pack2,jI r0_Bad2,.d (.sl 4 (List.map e65 r0_2_2.Hair.Hanks)),.d (.sl 3 (List.map e67 r0_2_2.Hair.Horses)),jI r0_2_2.Hair.Dark,jI r0_2_2.Hair.Near,jI r0_2_2.Hair.Match,.d (.sl 1 (List.map e51 r0_2_2.Needs)),.d (.sl 2 (List.map e33 r0_2_2.Stock)),jI r0_2_2.Pack,jI r0_2_2.Bad,.own 26 (List.map e65 r0_Hair_Hanks3).length,.own 27 (List.map e67 r0_Hair_Horses3).length,jI r0_Hair_Dark3,jI r0_Hair_Near3,jI r0_Hair_Match3,.asl 30 2,.own 31 (List.map e33 r0_Stock3).length,jI r0_Pack3,jI r0_Bad3,.own 34 (List.map e65 r0_Hair_Hanks4).length,.own 35 (List.map e67 r0_Hair_Horses4).length,jI r0_Hair_Dark4,jI r0_Hair_Near4,jI r0_Hair_Match4,.asl 38 2,.own 39 (List.map e33 r0_Stock4).length,jI r0_Pack4,jI r0_Bad4,.own 42 (List.map e65 r0_Hair_Hanks5).length,.own 43 (List.map e67 r0_Hair_Horses5).length,jI r0_Hair_Dark5,jI r0_Hair_Near5,jI r0_Hair_Match5,.asl 46 2,.own 47 (List.map e33 r0_Stock5).length,jI r0_Pack5,jI r0_Bad5,.d (.sl 4 (List.map e65 r0_2_3.Hair.Hanks)),.d (.sl 3 (List.map e67 r0_2_3.Hair.Horses)),jI r0_2_3.Hair.Dark,jI r0_2_3.Hair.Near,jI r0_2_3.Hair.Match,.d (.sl 1 (List.map e51 r0_2_3.Needs)),.d (.sl 2 (List.map e33 r0_2_3.Stock)),jI r0_2_3.Pack,jI r0_2_3.Bad,.d (.sl 4 (List.map e65 r0_2_4.Hair.Hanks)),.d (.sl 3 (List.map e67 r0_2_4.Hair.Horses)),jI r0_2_4.Hair.Dark,jI r0_2_4.Hair.Near,jI r0_2_4.Hair.Match,.d (.sl 1 (List.map e51 r0_2_4.Needs)),.d (.sl 2 (List.map e33 r0_2_4.Stock)),jI r0_2_4.Pack,jI r0_2_4.Bad]),(42,.row 65 4 (List.map e65 r0_Hair_Hanks5)),(43,.row 67 3 (List.map e67 r0_Hair_Horses5)),(44,.row 3 1 (List.map e3 o6_6)),(45,.row 3 1 (List.map e3 o6_1_5)),(46,.arr 51 [.own 44 (List.map e3 o6_6).length,.own 45 (List.map e3 o6_1_5).length]),(47,.row 33 2 (List.map e33 r0_Stock5)),(34,.row 65 4 (List.map e65 r0_Hair_Hanks4)),(35,.row 67 3 (List.map e67 r0_Hair_Horses4)),(36,.row 3 1 (List.map e3 o6_5)),(37,.row 3 1 (List.map e3 o6_1_4)),(38,.arr 51 [.own 36 (List.map e3 o6_5).length,.own 37 (List.map e3 o6_1_4).length]),(39,.row 33 2 (List.map e33 r0_Stock4)),(26,.row 65 4 (List.map e65 r0_Hair_Hanks3)),(27,.row 67 3 (List.map e67 r0_Hair_Horses3)),(28,.row 3 1 (List.map e3 o6_4)),(29,.row 3 1 (List.map e3 o6_1_3)),(30,.arr 51 [.own 28 (List.map e3 o6_4).length,.own 29 (List.map e3 o6_1_3).length]),(31,.row 33 2 (List.map e33 r0_Stock3)),(18,.row 65 4 (List.map e65 r0_Hair_Hanks2)),(19,.row 67 3 (List.map e67 r0_Hair_Horses2)),(20,.row 3 1 (List.map e3 o6_3)),(21,.row 3 1 (List.map e3 o6_1_2)),(22,.arr 51 [.own 20 (List.map e3 o6_3).length,.own 21 (List.map e3 o6_1_2).length]),(23,.row 33 2 (List.map e33 r0_Stock2)),(10,.row 65 4 (List.map e65 r0_Hair_Hanks1)),(11,.row 67 3 (List.map e67 r0_Hair_Horses1)),(12,.row 3 1 (List.map e3 o6_2)),(13,.row 3 1 (List.map e3 o6_1_1)),(14,.arr 51 [.own 12 (List.map e3 o6_2).length,.own 13 (List.map e3 o6_1_1).length]),(15,.row 33 2 (List.map e33 r0_Stock1)),(2,.row 65 4 (List.map e65 r0_Hair_Hanks)),(3,.row 67 3 (List.map e67 r0_Hair_Horses)),(4,.row 3 1 (List.map e3 o6)),(5,.row 3 1 (List.map e3 o6_1)),(6,.arr 51 [.own 4 (List.map e3 o6).length,.own 5 (List.map e3 o6_1).length]),(7,.row 33 2 (List.map e33 r0_Stock))] 49 0) ?_
 refine r_iaAS trivial rfl rfl rfl (by decide) (by decide) ?_
 refine r_faddrA trivial rfl ?_
 refine r_loadAV trivial rfl rfl rfl ?_
 refine aX 1 (sT [(1,.asl 48 12),(65,.asl 48 12),(69,.own 7 (List.map e33 r0_Stock).length),(70,.asl 48 12)] [(48,.arr 83 [.d (.nilSl),.d (.nilSl),jI 0,jI 0,jI 0,.d (.nilSl),.d (.nilSl),jI 0,jI 0,.d (.sl 4 (List.map e65 r0_2.Hair.Hanks)),.d (.sl 3 (List.map e67 r0_2.Hair.Horses)),jI 5,jI r0_2.Hair.Near,jI r0_2.Hair.Match,.d (.sl 1 (List.map e51 r0_2.Needs)),.d (.sl 2 (List.map e33 r0_2.Stock)),jI r0_2.Pack,jI r0_2.Bad,.d (.sl 4 (List.map e65 r0_2_1.Hair.Hanks)),.d (.sl 3 (List.map e67 r0_2_1.Hair.Horses)),jI r0_2_1.Hair.Dark,jI r0_2_1.Hair.Near,jI r0_2_1.Hair.Match,.d (.sl 1 (List.map e51 r0_2_1.Needs)),.d (.nilSl),jI r0_2_1.Pack,jI r0_2_1.Bad,.own 2 (List.map e65 r0_Hair_Hanks).length,.own 3 (List.map e67 r0_Hair_Horses).length,jI r0_Hair_Dark,jI r0_Hair_Near,jI r0_Hair_Match,.asl 6 2,.own 7 (List.map e33 r0_Stock).length,jI r0_Pack,jI r0_Bad,.own 10 (List.map e65 r0_Hair_Hanks1).length,.own 11 (List.map e67 r0_Hair_Horses1).length,jI r0_Hair_Dark1,jI r0_Hair_Near1,jI r0_Hair_Match1,.asl 14 2,.own 15 (List.map e33 r0_Stock1).length,jI r0_Pack1,jI r0_Bad1,.own 18 (List.map e65 r0_Hair_Hanks2).length,.own 19 (List.map e67 r0_Hair_Horses2).length,jI r0_Hair_Dark2,jI r0_Hair_Near2,jI r0_Hair_Match2,.asl 22 2,.own 23 (List.map e33 r0_Stock2).length,jI r0_Pack2,jI r0_Bad2,.d (.sl 4 (List.map e65 r0_2_2.Hair.Hanks)),.d (.sl 3 (List.map e67 r0_2_2.Hair.Horses)),jI r0_2_2.Hair.Dark,jI r0_2_2.Hair.Near,jI r0_2_2.Hair.Match,.d (.sl 1 (List.map e51 r0_2_2.Needs)),.d (.sl 2 (List.map e33 r0_2_2.Stock)),jI r0_2_2.Pack,jI r0_2_2.Bad,.own 26 (List.map e65 r0_Hair_Hanks3).length,.own 27 (List.map e67 r0_Hair_Horses3).length,jI r0_Hair_Dark3,jI r0_Hair_Near3,jI r0_Hair_Match3,.asl 30 2,.own 31 (List.map e33 r0_Stock3).length,jI r0_Pack3,jI r0_Bad3,.own 34 (List.map e65 r0_Hair_Hanks4).length,.own 35 (List.map e67 r0_Hair_Horses4).length,jI r0_Hair_Dark4,jI r0_Hair_Near4,jI r0_Hair_Match4,.asl 38 2,.own 39 (List.map e33 r0_Stock4).length,jI r0_Pack4,jI r0_Bad4,.own 42 (List.map e65 r0_Hair_Hanks5).length,.own 43 (List.map e67 r0_Hair_Horses5).length,jI r0_Hair_Dark5,jI r0_Hair_Near5,jI r0_Hair_Match5,.asl 46 2,.own 47 (List.map e33 r0_Stock5).length,jI r0_Pack5,jI r0_Bad5,.d (.sl 4 (List.map e65 r0_2_3.Hair.Hanks)),.d (.sl 3 (List.map e67 r0_2_3.Hair.Horses)),jI r0_2_3.Hair.Dark,jI r0_2_3.Hair.Near,jI r0_2_3.Hair.Match,.d (.sl 1 (List.map e51 r0_2_3.Needs)),.d (.sl 2 (List.map e33 r0_2_3.Stock)),jI r0_2_3.Pack,jI r0_2_3.Bad,.d (.sl 4 (List.map e65 r0_2_4.Hair.Hanks)),.d (.sl 3 (List.map e67 r0_2_4.Hair.Horses)),jI r0_2_4.Hair.Dark,jI r0_2_4.Hair.Near,jI r0_2_4.Hair.Match,.d (.sl 1 (List.map e51 r0_2_4.Needs)),.d (.sl 2 (List.map e33 r0_2_4.Stock)),jI r0_2_4.Pack,jI r0_2_4.Bad]),(42,.row 65 4 (List.map e65 r0_Hair_Hanks5)),(43,.row 67 3 (List.map e67 r0_Hair_Horses5)),(44,.row 3 1 (List.map e3 o6_6)),(45,.row 3 1 (List.map e3 o6_1_5)),(46,.arr 51 [.own 44 (List.map e3 o6_6).length,.own 45 (List.map e3 o6_1_5).length]),(47,.row 33 2 (List.map e33 r0_Stock5)),(34,.row 65 4 (List.map e65 r0_Hair_Hanks4)),(35,.row 67 3 (List.map e67 r0_Hair_Horses4)),(36,.row 3 1 (List.map e3 o6_5)),(37,.row 3 1 (List.map e3 o6_1_4)),(38,.arr 51 [.own 36 (List.map e3 o6_5).length,.own 37 (List.map e3 o6_1_4).length]),(39,.row 33 2 (List.map e33 r0_Stock4)),(26,.row 65 4 (List.map e65 r0_Hair_Hanks3)),(27,.row 67 3 (List.map e67 r0_Hair_Horses3)),(28,.row 3 1 (List.map e3 o6_4)),(29,.row 3 1 (List.map e3 o6_1_3)),(30,.arr 51 [.own 28 (List.map e3 o6_4).length,.own 29 (List.map e3 o6_1_3).length]),(31,.row 33 2 (List.map e33 r0_Stock3)),(18,.row 65 4 (List.map e65 r0_Hair_Hanks2)),(19,.row 67 3 (List.map e67 r0_Hair_Horses2)),(20,.row 3 1 (List.map e3 o6_3)),(21,.row 3 1 (List.map e3 o6_1_2)),(22,.arr 51 [.own 20 (List.map e3 o6_3).length,.own 21 (List.map e3 o6_1_2).length]),(23,.row 33 2 (List.map e33 r0_Stock2)),(10,.row 65 4 (List.map e65 r0_Hair_Hanks1)),(11,.row 67 3 (List.map e67 r0_Hair_Horses1)),(12,.row 3 1 (List.map e3 o6_2)),(13,.row 3 1 (List.map e3 o6_1_1)),(14,.arr 51 [.own 12 (List.map e3 o6_2).length,.own 13 (List.map e3 o6_1_1).length]),(15,.row 33 2 (List.map e33 r0_Stock1)),(2,.row 65 4 (List.map e65 r0_Hair_Hanks)),(3,.row 67 3 (List.map e67 r0_Hair_Horses)),(4,.row 3 1 (List.map e3 o6)),(5,.row 3 1 (List.map e3 o6_1)),(6,.arr 51 [.own 4 (List.map e3 o6).length,.own 5 (List.map e3 o6_1).length]),(7,.row 33 2 (List.map e33 r0_Stock))] 49 0) ?_
 refine r_iaAS trivial rfl rfl rfl (by decide) (by decide) ?_
 refine r_faddrA trivial rfl ?_
 refine r_loadAV trivial rfl rfl rfl ?_
 obtain ⟨l,hv_16,h⟩:=bsome h
 refine r_apO trivial rfl rfl rfl rfl rfl rfl (apz hv_16 e33) (apr hv_16 e33) ?_
 refine r_iaAS trivial rfl rfl rfl (by decide) (by decide) ?_
 refine r_faddrA trivial rfl ?_
 refine r_storeA trivial rfl rfl rfl rfl rfl rfl ?_
 refine Fi (sT [(1,.asl 48 12)] [(48,.arr 83 [.d (.nilSl),.d (.nilSl),jI 0,jI 0,jI 0,.d (.nilSl),.d (.nilSl),jI 0,jI 0,.d (.sl 4 (List.map e65 r0_2.Hair.Hanks)),.d (.sl 3 (List.map e67 r0_2.Hair.Horses)),jI 5,jI r0_2.Hair.Near,jI r0_2.Hair.Match,.d (.sl 1 (List.map e51 r0_2.Needs)),.d (.sl 2 (List.map e33 r0_2.Stock)),jI r0_2.Pack,jI r0_2.Bad,.d (.sl 4 (List.map e65 r0_2_1.Hair.Hanks)),.d (.sl 3 (List.map e67 r0_2_1.Hair.Horses)),jI r0_2_1.Hair.Dark,jI r0_2_1.Hair.Near,jI r0_2_1.Hair.Match,.d (.sl 1 (List.map e51 r0_2_1.Needs)),.d (.nilSl),jI r0_2_1.Pack,jI r0_2_1.Bad,.own 2 (List.map e65 r0_Hair_Hanks).length,.own 3 (List.map e67 r0_Hair_Horses).length,jI r0_Hair_Dark,jI r0_Hair_Near,jI r0_Hair_Match,.asl 6 2,.own 7 (List.map e33 l).length,jI r0_Pack,jI r0_Bad,.own 10 (List.map e65 r0_Hair_Hanks1).length,.own 11 (List.map e67 r0_Hair_Horses1).length,jI r0_Hair_Dark1,jI r0_Hair_Near1,jI r0_Hair_Match1,.asl 14 2,.own 15 (List.map e33 r0_Stock1).length,jI r0_Pack1,jI r0_Bad1,.own 18 (List.map e65 r0_Hair_Hanks2).length,.own 19 (List.map e67 r0_Hair_Horses2).length,jI r0_Hair_Dark2,jI r0_Hair_Near2,jI r0_Hair_Match2,.asl 22 2,.own 23 (List.map e33 r0_Stock2).length,jI r0_Pack2,jI r0_Bad2,.d (.sl 4 (List.map e65 r0_2_2.Hair.Hanks)),.d (.sl 3 (List.map e67 r0_2_2.Hair.Horses)),jI r0_2_2.Hair.Dark,jI r0_2_2.Hair.Near,jI r0_2_2.Hair.Match,.d (.sl 1 (List.map e51 r0_2_2.Needs)),.d (.sl 2 (List.map e33 r0_2_2.Stock)),jI r0_2_2.Pack,jI r0_2_2.Bad,.own 26 (List.map e65 r0_Hair_Hanks3).length,.own 27 (List.map e67 r0_Hair_Horses3).length,jI r0_Hair_Dark3,jI r0_Hair_Near3,jI r0_Hair_Match3,.asl 30 2,.own 31 (List.map e33 r0_Stock3).length,jI r0_Pack3,jI r0_Bad3,.own 34 (List.map e65 r0_Hair_Hanks4).length,.own 35 (List.map e67 r0_Hair_Horses4).length,jI r0_Hair_Dark4,jI r0_Hair_Near4,jI r0_Hair_Match4,.asl 38 2,.own 39 (List.map e33 r0_Stock4).length,jI r0_Pack4,jI r0_Bad4,.own 42 (List.map e65 r0_Hair_Hanks5).length,.own 43 (List.map e67 r0_Hair_Horses5).length,jI r0_Hair_Dark5,jI r0_Hair_Near5,jI r0_Hair_Match5,.asl 46 2,.own 47 (List.map e33 r0_Stock5).length,jI r0_Pack5,jI r0_Bad5,.d (.sl 4 (List.map e65 r0_2_3.Hair.Hanks)),.d (.sl 3 (List.map e67 r0_2_3.Hair.Horses)),jI r0_2_3.Hair.Dark,jI r0_2_3.Hair.Near,jI r0_2_3.Hair.Match,.d (.sl 1 (List.map e51 r0_2_3.Needs)),.d (.sl 2 (List.map e33 r0_2_3.Stock)),jI r0_2_3.Pack,jI r0_2_3.Bad,.d (.sl 4 (List.map e65 r0_2_4.Hair.Hanks)),.d (.sl 3 (List.map e67 r0_2_4.Hair.Horses)),jI r0_2_4.Hair.Dark,jI r0_2_4.Hair.Near,jI r0_2_4.Hair.Match,.d (.sl 1 (List.map e51 r0_2_4.Needs)),.d (.sl 2 (List.map e33 r0_2_4.Stock)),jI r0_2_4.Pack,jI r0_2_4.Bad]),(7,.row 33 2 (List.map e33 l)),(42,.row 65 4 (List.map e65 r0_Hair_Hanks5)),(43,.row 67 3 (List.map e67 r0_Hair_Horses5)),(44,.row 3 1 (List.map e3 o6_6)),(45,.row 3 1 (List.map e3 o6_1_5)),(46,.arr 51 [.own 44 (List.map e3 o6_6).length,.own 45 (List.map e3 o6_1_5).length]),(47,.row 33 2 (List.map e33 r0_Stock5)),(34,.row 65 4 (List.map e65 r0_Hair_Hanks4)),(35,.row 67 3 (List.map e67 r0_Hair_Horses4)),(36,.row 3 1 (List.map e3 o6_5)),(37,.row 3 1 (List.map e3 o6_1_4)),(38,.arr 51 [.own 36 (List.map e3 o6_5).length,.own 37 (List.map e3 o6_1_4).length]),(39,.row 33 2 (List.map e33 r0_Stock4)),(26,.row 65 4 (List.map e65 r0_Hair_Hanks3)),(27,.row 67 3 (List.map e67 r0_Hair_Horses3)),(28,.row 3 1 (List.map e3 o6_4)),(29,.row 3 1 (List.map e3 o6_1_3)),(30,.arr 51 [.own 28 (List.map e3 o6_4).length,.own 29 (List.map e3 o6_1_3).length]),(31,.row 33 2 (List.map e33 r0_Stock3)),(18,.row 65 4 (List.map e65 r0_Hair_Hanks2)),(19,.row 67 3 (List.map e67 r0_Hair_Horses2)),(20,.row 3 1 (List.map e3 o6_3)),(21,.row 3 1 (List.map e3 o6_1_2)),(22,.arr 51 [.own 20 (List.map e3 o6_3).length,.own 21 (List.map e3 o6_1_2).length]),(23,.row 33 2 (List.map e33 r0_Stock2)),(10,.row 65 4 (List.map e65 r0_Hair_Hanks1)),(11,.row 67 3 (List.map e67 r0_Hair_Horses1)),(12,.row 3 1 (List.map e3 o6_2)),(13,.row 3 1 (List.map e3 o6_1_1)),(14,.arr 51 [.own 12 (List.map e3 o6_2).length,.own 13 (List.map e3 o6_1_1).length]),(15,.row 33 2 (List.map e33 r0_Stock1)),(2,.row 65 4 (List.map e65 r0_Hair_Hanks)),(3,.row 67 3 (List.map e67 r0_Hair_Horses)),(4,.row 3 1 (List.map e3 o6)),(5,.row 3 1 (List.map e3 o6_1)),(6,.arr 51 [.own 4 (List.map e3 o6).length,.own 5 (List.map e3 o6_1).length])] 49 0) ?_
 refine hQ_15 _ ?_
 refine AW.sdrwK fokW (fun Q_17 hQ_17=>?_)
 refine aX 1 (sT [(1,.asl 48 12),(77,.asl 48 12)] [(48,.arr 83 [.d (.nilSl),.d (.nilSl),jI 0,jI 0,jI 0,.d (.nilSl),.d (.nilSl),jI 0,jI 0,.d (.sl 4 (List.map e65 r0_2.Hair.Hanks)),.d (.sl 3 (List.map e67 r0_2.Hair.Horses)),jI 5,jI r0_2.Hair.Near,jI r0_2.Hair.Match,.d (.sl 1 (List.map e51 r0_2.Needs)),.d (.sl 2 (List.map e33 r0_2.Stock)),jI r0_2.Pack,jI r0_2.Bad,.d (.sl 4 (List.map e65 r0_2_1.Hair.Hanks)),.d (.sl 3 (List.map e67 r0_2_1.Hair.Horses)),jI r0_2_1.Hair.Dark,jI r0_2_1.Hair.Near,jI r0_2_1.Hair.Match,.d (.sl 1 (List.map e51 r0_2_1.Needs)),.d (.nilSl),jI r0_2_1.Pack,jI r0_2_1.Bad,.own 2 (List.map e65 r0_Hair_Hanks).length,.own 3 (List.map e67 r0_Hair_Horses).length,jI r0_Hair_Dark,jI r0_Hair_Near,jI r0_Hair_Match,.asl 6 2,.own 7 (List.map e33 l).length,jI r0_Pack,jI r0_Bad,.own 10 (List.map e65 r0_Hair_Hanks1).length,.own 11 (List.map e67 r0_Hair_Horses1).length,jI r0_Hair_Dark1,jI r0_Hair_Near1,jI r0_Hair_Match1,.asl 14 2,.own 15 (List.map e33 r0_Stock1).length,jI r0_Pack1,jI r0_Bad1,.own 18 (List.map e65 r0_Hair_Hanks2).length,.own 19 (List.map e67 r0_Hair_Horses2).length,jI r0_Hair_Dark2,jI r0_Hair_Near2,jI r0_Hair_Match2,.asl 22 2,.own 23 (List.map e33 r0_Stock2).length,jI r0_Pack2,jI r0_Bad2,.d (.sl 4 (List.map e65 r0_2_2.Hair.Hanks)),.d (.sl 3 (List.map e67 r0_2_2.Hair.Horses)),jI r0_2_2.Hair.Dark,jI r0_2_2.Hair.Near,jI r0_2_2.Hair.Match,.d (.sl 1 (List.map e51 r0_2_2.Needs)),.d (.sl 2 (List.map e33 r0_2_2.Stock)),jI r0_2_2.Pack,jI r0_2_2.Bad,.own 26 (List.map e65 r0_Hair_Hanks3).length,.own 27 (List.map e67 r0_Hair_Horses3).length,jI r0_Hair_Dark3,jI r0_Hair_Near3,jI r0_Hair_Match3,.asl 30 2,.own 31 (List.map e33 r0_Stock3).length,jI r0_Pack3,jI r0_Bad3,.own 34 (List.map e65 r0_Hair_Hanks4).length,.own 35 (List.map e67 r0_Hair_Horses4).length,jI r0_Hair_Dark4,jI r0_Hair_Near4,jI r0_Hair_Match4,.asl 38 2,.own 39 (List.map e33 r0_Stock4).length,jI r0_Pack4,jI r0_Bad4,.own 42 (List.map e65 r0_Hair_Hanks5).length,.own 43 (List.map e67 r0_Hair_Horses5).length,jI r0_Hair_Dark5,jI r0_Hair_Near5,jI r0_Hair_Match5,.asl 46 2,.own 47 (List.map e33 r0_Stock5).length,jI r0_Pack5,jI r0_Bad5,.d (.sl 4 (List.map e65 r0_2_3.Hair.Hanks)),.d (.sl 3 (List.map e67 r0_2_3.Hair.Horses)),jI r0_2_3.Hair.Dark,jI r0_2_3.Hair.Near,jI r0_2_3.Hair.Match,.d (.sl 1 (List.map e51 r0_2_3.Needs)),.d (.sl 2 (List.map e33 r0_2_3.Stock)),jI r0_2_3.Pack,jI r0_2_3.Bad,.d (.sl 4 (List.map e65 r0_2_4.Hair.Hanks)),.d (.sl 3 (List.map e67 r0_2_4.Hair.Horses)),jI r0_2_4.Hair.Dark,jI r0_2_4.Hair.Near,jI r0_2_4.Hair.Match,.d (.sl 1 (List.map e51 r0_2_4.Needs)),.d (.sl 2 (List.map e33 r0_2_4.Stock)),jI r0_2_4.Pack,jI r0_2_4.Bad]),(7,.row 33 2 (List.map e33 l)),(42,.row 65 4 (List.map e65 r0_Hair_Hanks5)),(43,.row 67 3 (List.map e67 r0_Hair_Horses5)),(44,.row 3 1 (List.map e3 o6_6)),(45,.row 3 1 (List.map e3 o6_1_5)),(46,.arr 51 [.own 44 (List.map e3 o6_6).length,.own 45 (List.map e3 o6_1_5).length]),(47,.row 33 2 (List.map e33 r0_Stock5)),(34,.row 65 4 (List.map e65 r0_Hair_Hanks4)),(35,.row 67 3 (List.map e67 r0_Hair_Horses4)),(36,.row 3 1 (List.map e3 o6_5)),(37,.row 3 1 (List.map e3 o6_1_4)),(38,.arr 51 [.own 36 (List.map e3 o6_5).length,.own 37 (List.map e3 o6_1_4).length]),(39,.row 33 2 (List.map e33 r0_Stock4)),(26,.row 65 4 (List.map e65 r0_Hair_Hanks3)),(27,.row 67 3 (List.map e67 r0_Hair_Horses3)),(28,.row 3 1 (List.map e3 o6_4)),(29,.row 3 1 (List.map e3 o6_1_3)),(30,.arr 51 [.own 28 (List.map e3 o6_4).length,.own 29 (List.map e3 o6_1_3).length]),(31,.row 33 2 (List.map e33 r0_Stock3)),(18,.row 65 4 (List.map e65 r0_Hair_Hanks2)),(19,.row 67 3 (List.map e67 r0_Hair_Horses2)),(20,.row 3 1 (List.map e3 o6_3)),(21,.row 3 1 (List.map e3 o6_1_2)),(22,.arr 51 [.own 20 (List.map e3 o6_3).length,.own 21 (List.map e3 o6_1_2).length]),(23,.row 33 2 (List.map e33 r0_Stock2)),(10,.row 65 4 (List.map e65 r0_Hair_Hanks1)),(11,.row 67 3 (List.map e67 r0_Hair_Horses1)),(12,.row 3 1 (List.map e3 o6_2)),(13,.row 3 1 (List.map e3 o6_1_1)),(14,.arr 51 [.own 12 (List.map e3 o6_2).length,.own 13 (List.map e3 o6_1_1).length]),(15,.row 33 2 (List.map e33 r0_Stock1)),(2,.row 65 4 (List.map e65 r0_Hair_Hanks)),(3,.row 67 3 (List.map e67 r0_Hair_Horses)),(4,.row 3 1 (List.map e3 o6)),(5,.row 3 1 (List.map e3 o6_1)),(6,.arr 51 [.own 4 (List.map e3 o6).length,.own 5 (List.map e3 o6_1).length])] 49 0) ?_
 refine r_iaAS trivial rfl rfl rfl (by decide) (by decide) ?_
 refine r_faddrA trivial rfl ?_
 refine r_loadAV trivial rfl rfl rfl ?_
 obtain ⟨r0,hx_18,h⟩:=bsome h
 refine r_call trivial rfl (k10 2 7 _ hx_18) rfl rfl ?_
 obtain ⟨p,hv_19,h⟩:=bsome h
 refine r_iaO trivial rfl rfl rfl (ixL_ok hv_19).1 (ix_lt (ixL_ok hv_19).2) rfl ?_
 refine r_stE trivial rfl rfl rfl rfl (mapget (f:=e33) (ixL_ok hv_19).2) rfl rfl rfl (Nat.le_of_ble_eq_true rfl) (stz (f:=e33) (x:=r0) rfl) ?_
 rw [lenset (f:=e33) (xs:=r0_Stock1) (i:=0) (x:=r0)]
 refine Fi (sT [(1,.asl 48 12)] [(15,.row 33 2 (List.map e33 (setL r0_Stock1 0 r0))),(48,.arr 83 [.d (.nilSl),.d (.nilSl),jI 0,jI 0,jI 0,.d (.nilSl),.d (.nilSl),jI 0,jI 0,.d (.sl 4 (List.map e65 r0_2.Hair.Hanks)),.d (.sl 3 (List.map e67 r0_2.Hair.Horses)),jI 5,jI r0_2.Hair.Near,jI r0_2.Hair.Match,.d (.sl 1 (List.map e51 r0_2.Needs)),.d (.sl 2 (List.map e33 r0_2.Stock)),jI r0_2.Pack,jI r0_2.Bad,.d (.sl 4 (List.map e65 r0_2_1.Hair.Hanks)),.d (.sl 3 (List.map e67 r0_2_1.Hair.Horses)),jI r0_2_1.Hair.Dark,jI r0_2_1.Hair.Near,jI r0_2_1.Hair.Match,.d (.sl 1 (List.map e51 r0_2_1.Needs)),.d (.nilSl),jI r0_2_1.Pack,jI r0_2_1.Bad,.own 2 (List.map e65 r0_Hair_Hanks).length,.own 3 (List.map e67 r0_Hair_Horses).length,jI r0_Hair_Dark,jI r0_Hair_Near,jI r0_Hair_Match,.asl 6 2,.own 7 (List.map e33 l).length,jI r0_Pack,jI r0_Bad,.own 10 (List.map e65 r0_Hair_Hanks1).length,.own 11 (List.map e67 r0_Hair_Horses1).length,jI r0_Hair_Dark1,jI r0_Hair_Near1,jI r0_Hair_Match1,.asl 14 2,.own 15 (List.map e33 (setL r0_Stock1 0 r0)).length,jI r0_Pack1,jI r0_Bad1,.own 18 (List.map e65 r0_Hair_Hanks2).length,.own 19 (List.map e67 r0_Hair_Horses2).length,jI r0_Hair_Dark2,jI r0_Hair_Near2,jI r0_Hair_Match2,.asl 22 2,.own 23 (List.map e33 r0_Stock2).length,jI r0_Pack2,jI r0_Bad2,.d (.sl 4 (List.map e65 r0_2_2.Hair.Hanks)),.d (.sl 3 (List.map e67 r0_2_2.Hair.Horses)),jI r0_2_2.Hair.Dark,jI r0_2_2.Hair.Near,jI r0_2_2.Hair.Match,.d (.sl 1 (List.map e51 r0_2_2.Needs)),.d (.sl 2 (List.map e33 r0_2_2.Stock)),jI r0_2_2.Pack,jI r0_2_2.Bad,.own 26 (List.map e65 r0_Hair_Hanks3).length,.own 27 (List.map e67 r0_Hair_Horses3).length,jI r0_Hair_Dark3,jI r0_Hair_Near3,jI r0_Hair_Match3,.asl 30 2,.own 31 (List.map e33 r0_Stock3).length,jI r0_Pack3,jI r0_Bad3,.own 34 (List.map e65 r0_Hair_Hanks4).length,.own 35 (List.map e67 r0_Hair_Horses4).length,jI r0_Hair_Dark4,jI r0_Hair_Near4,jI r0_Hair_Match4,.asl 38 2,.own 39 (List.map e33 r0_Stock4).length,jI r0_Pack4,jI r0_Bad4,.own 42 (List.map e65 r0_Hair_Hanks5).length,.own 43 (List.map e67 r0_Hair_Horses5).length,jI r0_Hair_Dark5,jI r0_Hair_Near5,jI r0_Hair_Match5,.asl 46 2,.own 47 (List.map e33 r0_Stock5).length,jI r0_Pack5,jI r0_Bad5,.d (.sl 4 (List.map e65 r0_2_3.Hair.Hanks)),.d (.sl 3 (List.map e67 r0_2_3.Hair.Horses)),jI r0_2_3.Hair.Dark,jI r0_2_3.Hair.Near,jI r0_2_3.Hair.Match,.d (.sl 1 (List.map e51 r0_2_3.Needs)),.d (.sl 2 (List.map e33 r0_2_3.Stock)),jI r0_2_3.Pack,jI r0_2_3.Bad,.d (.sl 4 (List.map e65 r0_2_4.Hair.Hanks)),.d (.sl 3 (List.map e67 r0_2_4.Hair.Horses)),jI r0_2_4.Hair.Dark,jI r0_2_4.Hair.Near,jI r0_2_4.Hair.Match,.d (.sl 1 (List.map e51 r0_2_4.Needs)),.d (.sl 2 (List.map e33 r0_2_4.Stock)),jI r0_2_4.Pack,jI r0_2_4.Bad]),(7,.row 33 2 (List.map e33 l)),(42,.row 65 4 (List.map e65 r0_Hair_Hanks5)),(43,.row 67 3 (List.map e67 r0_Hair_Horses5)),(44,.row 3 1 (List.map e3 o6_6)),(45,.row 3 1 (List.map e3 o6_1_5)),(46,.arr 51 [.own 44 (List.map e3 o6_6).length,.own 45 (List.map e3 o6_1_5).length]),(47,.row 33 2 (List.map e33 r0_Stock5)),(34,.row 65 4 (List.map e65 r0_Hair_Hanks4)),(35,.row 67 3 (List.map e67 r0_Hair_Horses4)),(36,.row 3 1 (List.map e3 o6_5)),(37,.row 3 1 (List.map e3 o6_1_4)),(38,.arr 51 [.own 36 (List.map e3 o6_5).length,.own 37 (List.map e3 o6_1_4).length]),(39,.row 33 2 (List.map e33 r0_Stock4)),(26,.row 65 4 (List.map e65 r0_Hair_Hanks3)),(27,.row 67 3 (List.map e67 r0_Hair_Horses3)),(28,.row 3 1 (List.map e3 o6_4)),(29,.row 3 1 (List.map e3 o6_1_3)),(30,.arr 51 [.own 28 (List.map e3 o6_4).length,.own 29 (List.map e3 o6_1_3).length]),(31,.row 33 2 (List.map e33 r0_Stock3)),(18,.row 65 4 (List.map e65 r0_Hair_Hanks2)),(19,.row 67 3 (List.map e67 r0_Hair_Horses2)),(20,.row 3 1 (List.map e3 o6_3)),(21,.row 3 1 (List.map e3 o6_1_2)),(22,.arr 51 [.own 20 (List.map e3 o6_3).length,.own 21 (List.map e3 o6_1_2).length]),(23,.row 33 2 (List.map e33 r0_Stock2)),(10,.row 65 4 (List.map e65 r0_Hair_Hanks1)),(11,.row 67 3 (List.map e67 r0_Hair_Horses1)),(12,.row 3 1 (List.map e3 o6_2)),(13,.row 3 1 (List.map e3 o6_1_1)),(14,.arr 51 [.own 12 (List.map e3 o6_2).length,.own 13 (List.map e3 o6_1_1).length]),(2,.row 65 4 (List.map e65 r0_Hair_Hanks)),(3,.row 67 3 (List.map e67 r0_Hair_Horses)),(4,.row 3 1 (List.map e3 o6)),(5,.row 3 1 (List.map e3 o6_1)),(6,.arr 51 [.own 4 (List.map e3 o6).length,.own 5 (List.map e3 o6_1).length])] 49 0) ?_
 refine hQ_17 _ ?_
 refine AW.sdrwK fokW (fun Q_20 hQ_20=>?_)
 refine aX 1 (sT [(1,.asl 48 12),(83,.asl 48 12)] [(15,.row 33 2 (List.map e33 (setL r0_Stock1 0 r0))),(48,.arr 83 [.d (.nilSl),.d (.nilSl),jI 0,jI 0,jI 0,.d (.nilSl),.d (.nilSl),jI 0,jI 0,.d (.sl 4 (List.map e65 r0_2.Hair.Hanks)),.d (.sl 3 (List.map e67 r0_2.Hair.Horses)),jI 5,jI r0_2.Hair.Near,jI r0_2.Hair.Match,.d (.sl 1 (List.map e51 r0_2.Needs)),.d (.sl 2 (List.map e33 r0_2.Stock)),jI r0_2.Pack,jI r0_2.Bad,.d (.sl 4 (List.map e65 r0_2_1.Hair.Hanks)),.d (.sl 3 (List.map e67 r0_2_1.Hair.Horses)),jI r0_2_1.Hair.Dark,jI r0_2_1.Hair.Near,jI r0_2_1.Hair.Match,.d (.sl 1 (List.map e51 r0_2_1.Needs)),.d (.nilSl),jI r0_2_1.Pack,jI r0_2_1.Bad,.own 2 (List.map e65 r0_Hair_Hanks).length,.own 3 (List.map e67 r0_Hair_Horses).length,jI r0_Hair_Dark,jI r0_Hair_Near,jI r0_Hair_Match,.asl 6 2,.own 7 (List.map e33 l).length,jI r0_Pack,jI r0_Bad,.own 10 (List.map e65 r0_Hair_Hanks1).length,.own 11 (List.map e67 r0_Hair_Horses1).length,jI r0_Hair_Dark1,jI r0_Hair_Near1,jI r0_Hair_Match1,.asl 14 2,.own 15 (List.map e33 (setL r0_Stock1 0 r0)).length,jI r0_Pack1,jI r0_Bad1,.own 18 (List.map e65 r0_Hair_Hanks2).length,.own 19 (List.map e67 r0_Hair_Horses2).length,jI r0_Hair_Dark2,jI r0_Hair_Near2,jI r0_Hair_Match2,.asl 22 2,.own 23 (List.map e33 r0_Stock2).length,jI r0_Pack2,jI r0_Bad2,.d (.sl 4 (List.map e65 r0_2_2.Hair.Hanks)),.d (.sl 3 (List.map e67 r0_2_2.Hair.Horses)),jI r0_2_2.Hair.Dark,jI r0_2_2.Hair.Near,jI r0_2_2.Hair.Match,.d (.sl 1 (List.map e51 r0_2_2.Needs)),.d (.sl 2 (List.map e33 r0_2_2.Stock)),jI r0_2_2.Pack,jI r0_2_2.Bad,.own 26 (List.map e65 r0_Hair_Hanks3).length,.own 27 (List.map e67 r0_Hair_Horses3).length,jI r0_Hair_Dark3,jI r0_Hair_Near3,jI r0_Hair_Match3,.asl 30 2,.own 31 (List.map e33 r0_Stock3).length,jI r0_Pack3,jI r0_Bad3,.own 34 (List.map e65 r0_Hair_Hanks4).length,.own 35 (List.map e67 r0_Hair_Horses4).length,jI r0_Hair_Dark4,jI r0_Hair_Near4,jI r0_Hair_Match4,.asl 38 2,.own 39 (List.map e33 r0_Stock4).length,jI r0_Pack4,jI r0_Bad4,.own 42 (List.map e65 r0_Hair_Hanks5).length,.own 43 (List.map e67 r0_Hair_Horses5).length,jI r0_Hair_Dark5,jI r0_Hair_Near5,jI r0_Hair_Match5,.asl 46 2,.own 47 (List.map e33 r0_Stock5).length,jI r0_Pack5,jI r0_Bad5,.d (.sl 4 (List.map e65 r0_2_3.Hair.Hanks)),.d (.sl 3 (List.map e67 r0_2_3.Hair.Horses)),jI r0_2_3.Hair.Dark,jI r0_2_3.Hair.Near,jI r0_2_3.Hair.Match,.d (.sl 1 (List.map e51 r0_2_3.Needs)),.d (.sl 2 (List.map e33 r0_2_3.Stock)),jI r0_2_3.Pack,jI r0_2_3.Bad,.d (.sl 4 (List.map e65 r0_2_4.Hair.Hanks)),.d (.sl 3 (List.map e67 r0_2_4.Hair.Horses)),jI r0_2_4.Hair.Dark,jI r0_2_4.Hair.Near,jI r0_2_4.Hair.Match,.d (.sl 1 (List.map e51 r0_2_4.Needs)),.d (.sl 2 (List.map e33 r0_2_4.Stock)),jI r0_2_4.Pack,jI r0_2_4.Bad]),(7,.row 33 2 (List.map e33 l)),(42,.row 65 4 (List.map e65 r0_Hair_Hanks5)),(43,.row 67 3 (List.map e67 r0_Hair_Horses5)),(44,.row 3 1 (List.map e3 o6_6)),(45,.row 3 1 (List.map e3 o6_1_5)),(46,.arr 51 [.own 44 (List.map e3 o6_6).length,.own 45 (List.map e3 o6_1_5).length]),(47,.row 33 2 (List.map e33 r0_Stock5)),(34,.row 65 4 (List.map e65 r0_Hair_Hanks4)),(35,.row 67 3 (List.map e67 r0_Hair_Horses4)),(36,.row 3 1 (List.map e3 o6_5)),(37,.row 3 1 (List.map e3 o6_1_4)),(38,.arr 51 [.own 36 (List.map e3 o6_5).length,.own 37 (List.map e3 o6_1_4).length]),(39,.row 33 2 (List.map e33 r0_Stock4)),(26,.row 65 4 (List.map e65 r0_Hair_Hanks3)),(27,.row 67 3 (List.map e67 r0_Hair_Horses3)),(28,.row 3 1 (List.map e3 o6_4)),(29,.row 3 1 (List.map e3 o6_1_3)),(30,.arr 51 [.own 28 (List.map e3 o6_4).length,.own 29 (List.map e3 o6_1_3).length]),(31,.row 33 2 (List.map e33 r0_Stock3)),(18,.row 65 4 (List.map e65 r0_Hair_Hanks2)),(19,.row 67 3 (List.map e67 r0_Hair_Horses2)),(20,.row 3 1 (List.map e3 o6_3)),(21,.row 3 1 (List.map e3 o6_1_2)),(22,.arr 51 [.own 20 (List.map e3 o6_3).length,.own 21 (List.map e3 o6_1_2).length]),(23,.row 33 2 (List.map e33 r0_Stock2)),(10,.row 65 4 (List.map e65 r0_Hair_Hanks1)),(11,.row 67 3 (List.map e67 r0_Hair_Horses1)),(12,.row 3 1 (List.map e3 o6_2)),(13,.row 3 1 (List.map e3 o6_1_1)),(14,.arr 51 [.own 12 (List.map e3 o6_2).length,.own 13 (List.map e3 o6_1_1).length]),(2,.row 65 4 (List.map e65 r0_Hair_Hanks)),(3,.row 67 3 (List.map e67 r0_Hair_Horses)),(4,.row 3 1 (List.map e3 o6)),(5,.row 3 1 (List.map e3 o6_1)),(6,.arr 51 [.own 4 (List.map e3 o6).length,.own 5 (List.map e3 o6_1).length])] 49 0) ?_
 refine r_iaAS trivial rfl rfl rfl (by decide) (by decide) ?_
 refine r_faddrA trivial rfl ?_
 refine r_loadAV trivial rfl rfl rfl ?_
 obtain ⟨r0_1,hx_21,h⟩:=bsome h
 refine r_call trivial rfl (k24 41 _ hx_21) rfl rfl ?_
 obtain ⟨p1,hv_22,h⟩:=bsome h
 refine r_iaO trivial rfl rfl rfl (ixL_ok hv_22).1 (ix_lt (ixL_ok hv_22).2) rfl ?_
 refine r_stE trivial rfl rfl rfl rfl (mapget (f:=e33) (ixL_ok hv_22).2) rfl rfl rfl (Nat.le_of_ble_eq_true rfl) (stz (f:=e33) (x:=r0_1) rfl) ?_
 rw [lenset (f:=e33) (xs:=r0_Stock2) (i:=0) (x:=r0_1)]
 refine Fi (sT [(1,.asl 48 12)] [(23,.row 33 2 (List.map e33 (setL r0_Stock2 0 r0_1))),(15,.row 33 2 (List.map e33 (setL r0_Stock1 0 r0))),(48,.arr 83 [.d (.nilSl),.d (.nilSl),jI 0,jI 0,jI 0,.d (.nilSl),.d (.nilSl),jI 0,jI 0,.d (.sl 4 (List.map e65 r0_2.Hair.Hanks)),.d (.sl 3 (List.map e67 r0_2.Hair.Horses)),jI 5,jI r0_2.Hair.Near,jI r0_2.Hair.Match,.d (.sl 1 (List.map e51 r0_2.Needs)),.d (.sl 2 (List.map e33 r0_2.Stock)),jI r0_2.Pack,jI r0_2.Bad,.d (.sl 4 (List.map e65 r0_2_1.Hair.Hanks)),.d (.sl 3 (List.map e67 r0_2_1.Hair.Horses)),jI r0_2_1.Hair.Dark,jI r0_2_1.Hair.Near,jI r0_2_1.Hair.Match,.d (.sl 1 (List.map e51 r0_2_1.Needs)),.d (.nilSl),jI r0_2_1.Pack,jI r0_2_1.Bad,.own 2 (List.map e65 r0_Hair_Hanks).length,.own 3 (List.map e67 r0_Hair_Horses).length,jI r0_Hair_Dark,jI r0_Hair_Near,jI r0_Hair_Match,.asl 6 2,.own 7 (List.map e33 l).length,jI r0_Pack,jI r0_Bad,.own 10 (List.map e65 r0_Hair_Hanks1).length,.own 11 (List.map e67 r0_Hair_Horses1).length,jI r0_Hair_Dark1,jI r0_Hair_Near1,jI r0_Hair_Match1,.asl 14 2,.own 15 (List.map e33 (setL r0_Stock1 0 r0)).length,jI r0_Pack1,jI r0_Bad1,.own 18 (List.map e65 r0_Hair_Hanks2).length,.own 19 (List.map e67 r0_Hair_Horses2).length,jI r0_Hair_Dark2,jI r0_Hair_Near2,jI r0_Hair_Match2,.asl 22 2,.own 23 (List.map e33 (setL r0_Stock2 0 r0_1)).length,jI r0_Pack2,jI r0_Bad2,.d (.sl 4 (List.map e65 r0_2_2.Hair.Hanks)),.d (.sl 3 (List.map e67 r0_2_2.Hair.Horses)),jI r0_2_2.Hair.Dark,jI r0_2_2.Hair.Near,jI r0_2_2.Hair.Match,.d (.sl 1 (List.map e51 r0_2_2.Needs)),.d (.sl 2 (List.map e33 r0_2_2.Stock)),jI r0_2_2.Pack,jI r0_2_2.Bad,.own 26 (List.map e65 r0_Hair_Hanks3).length,.own 27 (List.map e67 r0_Hair_Horses3).length,jI r0_Hair_Dark3,jI r0_Hair_Near3,jI r0_Hair_Match3,.asl 30 2,.own 31 (List.map e33 r0_Stock3).length,jI r0_Pack3,jI r0_Bad3,.own 34 (List.map e65 r0_Hair_Hanks4).length,.own 35 (List.map e67 r0_Hair_Horses4).length,jI r0_Hair_Dark4,jI r0_Hair_Near4,jI r0_Hair_Match4,.asl 38 2,.own 39 (List.map e33 r0_Stock4).length,jI r0_Pack4,jI r0_Bad4,.own 42 (List.map e65 r0_Hair_Hanks5).length,.own 43 (List.map e67 r0_Hair_Horses5).length,jI r0_Hair_Dark5,jI r0_Hair_Near5,jI r0_Hair_Match5,.asl 46 2,.own 47 (List.map e33 r0_Stock5).length,jI r0_Pack5,jI r0_Bad5,.d (.sl 4 (List.map e65 r0_2_3.Hair.Hanks)),.d (.sl 3 (List.map e67 r0_2_3.Hair.Horses)),jI r0_2_3.Hair.Dark,jI r0_2_3.Hair.Near,jI r0_2_3.Hair.Match,.d (.sl 1 (List.map e51 r0_2_3.Needs)),.d (.sl 2 (List.map e33 r0_2_3.Stock)),jI r0_2_3.Pack,jI r0_2_3.Bad,.d (.sl 4 (List.map e65 r0_2_4.Hair.Hanks)),.d (.sl 3 (List.map e67 r0_2_4.Hair.Horses)),jI r0_2_4.Hair.Dark,jI r0_2_4.Hair.Near,jI r0_2_4.Hair.Match,.d (.sl 1 (List.map e51 r0_2_4.Needs)),.d (.sl 2 (List.map e33 r0_2_4.Stock)),jI r0_2_4.Pack,jI r0_2_4.Bad]),(7,.row 33 2 (List.map e33 l)),(42,.row 65 4 (List.map e65 r0_Hair_Hanks5)),(43,.row 67 3 (List.map e67 r0_Hair_Horses5)),(44,.row 3 1 (List.map e3 o6_6)),(45,.row 3 1 (List.map e3 o6_1_5)),(46,.arr 51 [.own 44 (List.map e3 o6_6).length,.own 45 (List.map e3 o6_1_5).length]),(47,.row 33 2 (List.map e33 r0_Stock5)),(34,.row 65 4 (List.map e65 r0_Hair_Hanks4)),(35,.row 67 3 (List.map e67 r0_Hair_Horses4)),(36,.row 3 1 (List.map e3 o6_5)),(37,.row 3 1 (List.map e3 o6_1_4)),(38,.arr 51 [.own 36 (List.map e3 o6_5).length,.own 37 (List.map e3 o6_1_4).length]),(39,.row 33 2 (List.map e33 r0_Stock4)),(26,.row 65 4 (List.map e65 r0_Hair_Hanks3)),(27,.row 67 3 (List.map e67 r0_Hair_Horses3)),(28,.row 3 1 (List.map e3 o6_4)),(29,.row 3 1 (List.map e3 o6_1_3)),(30,.arr 51 [.own 28 (List.map e3 o6_4).length,.own 29 (List.map e3 o6_1_3).length]),(31,.row 33 2 (List.map e33 r0_Stock3)),(18,.row 65 4 (List.map e65 r0_Hair_Hanks2)),(19,.row 67 3 (List.map e67 r0_Hair_Horses2)),(20,.row 3 1 (List.map e3 o6_3)),(21,.row 3 1 (List.map e3 o6_1_2)),(22,.arr 51 [.own 20 (List.map e3 o6_3).length,.own 21 (List.map e3 o6_1_2).length]),(10,.row 65 4 (List.map e65 r0_Hair_Hanks1)),(11,.row 67 3 (List.map e67 r0_Hair_Horses1)),(12,.row 3 1 (List.map e3 o6_2)),(13,.row 3 1 (List.map e3 o6_1_1)),(14,.arr 51 [.own 12 (List.map e3 o6_2).length,.own 13 (List.map e3 o6_1_1).length]),(2,.row 65 4 (List.map e65 r0_Hair_Hanks)),(3,.row 67 3 (List.map e67 r0_Hair_Horses)),(4,.row 3 1 (List.map e3 o6)),(5,.row 3 1 (List.map e3 o6_1)),(6,.arr 51 [.own 4 (List.map e3 o6).length,.own 5 (List.map e3 o6_1).length])] 49 0) ?_
 refine hQ_20 _ ?_
 refine AW.srwK (fun Q_23 hQ_23=>?_)
 refine Au 2 (sT [(1,.asl 48 12),(89,.asl 48 12),(90,.asl 48 12)] [(23,.row 33 2 (List.map e33 (setL r0_Stock2 0 r0_1))),(15,.row 33 2 (List.map e33 (setL r0_Stock1 0 r0))),(48,.arr 83 [.d (.nilSl),.d (.nilSl),jI 0,jI 0,jI 0,.d (.nilSl),.d (.nilSl),jI 0,jI 0,.d (.sl 4 (List.map e65 r0_2.Hair.Hanks)),.d (.sl 3 (List.map e67 r0_2.Hair.Horses)),jI 5,jI r0_2.Hair.Near,jI r0_2.Hair.Match,.d (.sl 1 (List.map e51 r0_2.Needs)),.d (.sl 2 (List.map e33 r0_2.Stock)),jI r0_2.Pack,jI r0_2.Bad,.d (.sl 4 (List.map e65 r0_2_1.Hair.Hanks)),.d (.sl 3 (List.map e67 r0_2_1.Hair.Horses)),jI r0_2_1.Hair.Dark,jI r0_2_1.Hair.Near,jI r0_2_1.Hair.Match,.d (.sl 1 (List.map e51 r0_2_1.Needs)),.d (.nilSl),jI r0_2_1.Pack,jI r0_2_1.Bad,.own 2 (List.map e65 r0_Hair_Hanks).length,.own 3 (List.map e67 r0_Hair_Horses).length,jI r0_Hair_Dark,jI r0_Hair_Near,jI r0_Hair_Match,.asl 6 2,.own 7 (List.map e33 l).length,jI r0_Pack,jI r0_Bad,.own 10 (List.map e65 r0_Hair_Hanks1).length,.own 11 (List.map e67 r0_Hair_Horses1).length,jI r0_Hair_Dark1,jI r0_Hair_Near1,jI r0_Hair_Match1,.asl 14 2,.own 15 (List.map e33 (setL r0_Stock1 0 r0)).length,jI r0_Pack1,jI r0_Bad1,.own 18 (List.map e65 r0_Hair_Hanks2).length,.own 19 (List.map e67 r0_Hair_Horses2).length,jI r0_Hair_Dark2,jI r0_Hair_Near2,jI r0_Hair_Match2,.asl 22 2,.own 23 (List.map e33 (setL r0_Stock2 0 r0_1)).length,jI r0_Pack2,jI r0_Bad2,.d (.sl 4 (List.map e65 r0_2_2.Hair.Hanks)),.d (.sl 3 (List.map e67 r0_2_2.Hair.Horses)),jI r0_2_2.Hair.Dark,jI r0_2_2.Hair.Near,jI r0_2_2.Hair.Match,.d (.sl 1 (List.map e51 r0_2_2.Needs)),.d (.sl 2 (List.map e33 r0_2_2.Stock)),jI r0_2_2.Pack,jI r0_2_2.Bad,.own 26 (List.map e65 r0_Hair_Hanks3).length,.own 27 (List.map e67 r0_Hair_Horses3).length,jI r0_Hair_Dark3,jI r0_Hair_Near3,jI r0_Hair_Match3,.asl 30 2,.own 31 (List.map e33 r0_Stock3).length,jI r0_Pack3,jI r0_Bad3,.own 34 (List.map e65 r0_Hair_Hanks4).length,.own 35 (List.map e67 r0_Hair_Horses4).length,jI r0_Hair_Dark4,jI r0_Hair_Near4,jI r0_Hair_Match4,.asl 38 2,.own 39 (List.map e33 r0_Stock4).length,jI r0_Pack4,jI r0_Bad4,.own 42 (List.map e65 r0_Hair_Hanks5).length,.own 43 (List.map e67 r0_Hair_Horses5).length,jI r0_Hair_Dark5,jI r0_Hair_Near5,jI r0_Hair_Match5,.asl 46 2,.own 47 (List.map e33 r0_Stock5).length,jI r0_Pack5,jI r0_Bad5,.d (.sl 4 (List.map e65 r0_2_3.Hair.Hanks)),.d (.sl 3 (List.map e67 r0_2_3.Hair.Horses)),jI r0_2_3.Hair.Dark,jI r0_2_3.Hair.Near,jI r0_2_3.Hair.Match,.d (.sl 1 (List.map e51 r0_2_3.Needs)),.d (.sl 2 (List.map e33 r0_2_3.Stock)),jI r0_2_3.Pack,jI r0_2_3.Bad,.d (.sl 4 (List.map e65 r0_2_4.Hair.Hanks)),.d (.sl 3 (List.map e67 r0_2_4.Hair.Horses)),jI r0_2_4.Hair.Dark,jI r0_2_4.Hair.Near,jI r0_2_4.Hair.Match,.d (.sl 1 (List.map e51 r0_2_4.Needs)),.d (.sl 2 (List.map e33 r0_2_4.Stock)),jI r0_2_4.Pack,jI r0_2_4.Bad]),(7,.row 33 2 (List.map e33 l)),(42,.row 65 4 (List.map e65 r0_Hair_Hanks5)),(43,.row 67 3 (List.map e67 r0_Hair_Horses5)),(44,.row 3 1 (List.map e3 o6_6)),(45,.row 3 1 (List.map e3 o6_1_5)),(46,.arr 51 [.own 44 (List.map e3 o6_6).length,.own 45 (List.map e3 o6_1_5).length]),(47,.row 33 2 (List.map e33 r0_Stock5)),(34,.row 65 4 (List.map e65 r0_Hair_Hanks4)),(35,.row 67 3 (List.map e67 r0_Hair_Horses4)),(36,.row 3 1 (List.map e3 o6_5)),(37,.row 3 1 (List.map e3 o6_1_4)),(38,.arr 51 [.own 36 (List.map e3 o6_5).length,.own 37 (List.map e3 o6_1_4).length]),(39,.row 33 2 (List.map e33 r0_Stock4)),(26,.row 65 4 (List.map e65 r0_Hair_Hanks3)),(27,.row 67 3 (List.map e67 r0_Hair_Horses3)),(28,.row 3 1 (List.map e3 o6_4)),(29,.row 3 1 (List.map e3 o6_1_3)),(30,.arr 51 [.own 28 (List.map e3 o6_4).length,.own 29 (List.map e3 o6_1_3).length]),(31,.row 33 2 (List.map e33 r0_Stock3)),(18,.row 65 4 (List.map e65 r0_Hair_Hanks2)),(19,.row 67 3 (List.map e67 r0_Hair_Horses2)),(20,.row 3 1 (List.map e3 o6_3)),(21,.row 3 1 (List.map e3 o6_1_2)),(22,.arr 51 [.own 20 (List.map e3 o6_3).length,.own 21 (List.map e3 o6_1_2).length]),(10,.row 65 4 (List.map e65 r0_Hair_Hanks1)),(11,.row 67 3 (List.map e67 r0_Hair_Horses1)),(12,.row 3 1 (List.map e3 o6_2)),(13,.row 3 1 (List.map e3 o6_1_1)),(14,.arr 51 [.own 12 (List.map e3 o6_2).length,.own 13 (List.map e3 o6_1_1).length]),(2,.row 65 4 (List.map e65 r0_Hair_Hanks)),(3,.row 67 3 (List.map e67 r0_Hair_Horses)),(4,.row 3 1 (List.map e3 o6)),(5,.row 3 1 (List.map e3 o6_1)),(6,.arr 51 [.own 4 (List.map e3 o6).length,.own 5 (List.map e3 o6_1).length])] 49 0) ?_
 refine RW.one fokW (r_iaAS trivial rfl rfl rfl (by decide) (by decide) (r_end ?_))
 refine RW.one fokW (r_faddrA trivial rfl (r_end ?_))
 refine RW.one fokW (r_loadAV trivial rfl rfl rfl (r_end ?_))
 obtain ⟨l1,hv_24,h⟩:=bsome h
 refine RW.one fokW (r_slH trivial rfl rfl DSl.d (slcL_ok hv_24).2.1 (by rw [List.length_map];exact (slcL_ok hv_24).2.2.1) (slz hv_24 e51) (r_end ?_))
 refine RW.one fokW (r_iaAS trivial rfl rfl rfl (by decide) (by decide) (r_end ?_))
 refine RW.one fokW (r_faddrA trivial rfl (r_end ?_))
 refine RW.one fokW (r_storeA trivial rfl rfl rfl rfl rfl rfl (r_end ?_))
 refine RW.nil (hQ_23 _ ?_)
 refine AW.srwK (fun Q_25 hQ_25=>?_)
 refine Au 1 (sT [(1,.asl 48 12),(97,.asl 48 12)] [(48,.arr 83 [.d (.nilSl),.d (.nilSl),jI 0,jI 0,jI 0,.d (.nilSl),.d (.nilSl),jI 0,jI 0,.d (.sl 4 (List.map e65 r0_2.Hair.Hanks)),.d (.sl 3 (List.map e67 r0_2.Hair.Horses)),jI 5,jI r0_2.Hair.Near,jI r0_2.Hair.Match,.d (.sl 1 (List.map e51 r0_2.Needs)),.d (.sl 2 (List.map e33 r0_2.Stock)),jI r0_2.Pack,jI r0_2.Bad,.d (.sl 4 (List.map e65 r0_2_1.Hair.Hanks)),.d (.sl 3 (List.map e67 r0_2_1.Hair.Horses)),jI r0_2_1.Hair.Dark,jI r0_2_1.Hair.Near,jI r0_2_1.Hair.Match,.d (.sl 1 (List.map e51 r0_2_1.Needs)),.d (.nilSl),jI r0_2_1.Pack,jI r0_2_1.Bad,.own 2 (List.map e65 r0_Hair_Hanks).length,.own 3 (List.map e67 r0_Hair_Horses).length,jI r0_Hair_Dark,jI r0_Hair_Near,jI r0_Hair_Match,.asl 6 2,.own 7 (List.map e33 l).length,jI r0_Pack,jI r0_Bad,.own 10 (List.map e65 r0_Hair_Hanks1).length,.own 11 (List.map e67 r0_Hair_Horses1).length,jI r0_Hair_Dark1,jI r0_Hair_Near1,jI r0_Hair_Match1,.asl 14 2,.own 15 (List.map e33 (setL r0_Stock1 0 r0)).length,jI r0_Pack1,jI r0_Bad1,.own 18 (List.map e65 r0_Hair_Hanks2).length,.own 19 (List.map e67 r0_Hair_Horses2).length,jI r0_Hair_Dark2,jI r0_Hair_Near2,jI r0_Hair_Match2,.asl 22 2,.own 23 (List.map e33 (setL r0_Stock2 0 r0_1)).length,jI r0_Pack2,jI r0_Bad2,.d (.sl 4 (List.map e65 r0_2_2.Hair.Hanks)),.d (.sl 3 (List.map e67 r0_2_2.Hair.Horses)),jI r0_2_2.Hair.Dark,jI r0_2_2.Hair.Near,jI r0_2_2.Hair.Match,.d (.sl 1 (List.map e51 l1)),.d (.sl 2 (List.map e33 r0_2_2.Stock)),jI r0_2_2.Pack,jI r0_2_2.Bad,.own 26 (List.map e65 r0_Hair_Hanks3).length,.own 27 (List.map e67 r0_Hair_Horses3).length,jI r0_Hair_Dark3,jI r0_Hair_Near3,jI r0_Hair_Match3,.asl 30 2,.own 31 (List.map e33 r0_Stock3).length,jI r0_Pack3,jI r0_Bad3,.own 34 (List.map e65 r0_Hair_Hanks4).length,.own 35 (List.map e67 r0_Hair_Horses4).length,jI r0_Hair_Dark4,jI r0_Hair_Near4,jI r0_Hair_Match4,.asl 38 2,.own 39 (List.map e33 r0_Stock4).length,jI r0_Pack4,jI r0_Bad4,.own 42 (List.map e65 r0_Hair_Hanks5).length,.own 43 (List.map e67 r0_Hair_Horses5).length,jI r0_Hair_Dark5,jI r0_Hair_Near5,jI r0_Hair_Match5,.asl 46 2,.own 47 (List.map e33 r0_Stock5).length,jI r0_Pack5,jI r0_Bad5,.d (.sl 4 (List.map e65 r0_2_3.Hair.Hanks)),.d (.sl 3 (List.map e67 r0_2_3.Hair.Horses)),jI r0_2_3.Hair.Dark,jI r0_2_3.Hair.Near,jI r0_2_3.Hair.Match,.d (.sl 1 (List.map e51 r0_2_3.Needs)),.d (.sl 2 (List.map e33 r0_2_3.Stock)),jI r0_2_3.Pack,jI r0_2_3.Bad,.d (.sl 4 (List.map e65 r0_2_4.Hair.Hanks)),.d (.sl 3 (List.map e67 r0_2_4.Hair.Horses)),jI r0_2_4.Hair.Dark,jI r0_2_4.Hair.Near,jI r0_2_4.Hair.Match,.d (.sl 1 (List.map e51 r0_2_4.Needs)),.d (.sl 2 (List.map e33 r0_2_4.Stock)),jI r0_2_4.Pack,jI r0_2_4.Bad]),(23,.row 33 2 (List.map e33 (setL r0_Stock2 0 r0_1))),(15,.row 33 2 (List.map e33 (setL r0_Stock1 0 r0))),(7,.row 33 2 (List.map e33 l)),(42,.row 65 4 (List.map e65 r0_Hair_Hanks5)),(43,.row 67 3 (List.map e67 r0_Hair_Horses5)),(44,.row 3 1 (List.map e3 o6_6)),(45,.row 3 1 (List.map e3 o6_1_5)),(46,.arr 51 [.own 44 (List.map e3 o6_6).length,.own 45 (List.map e3 o6_1_5).length]),(47,.row 33 2 (List.map e33 r0_Stock5)),(34,.row 65 4 (List.map e65 r0_Hair_Hanks4)),(35,.row 67 3 (List.map e67 r0_Hair_Horses4)),(36,.row 3 1 (List.map e3 o6_5)),(37,.row 3 1 (List.map e3 o6_1_4)),(38,.arr 51 [.own 36 (List.map e3 o6_5).length,.own 37 (List.map e3 o6_1_4).length]),(39,.row 33 2 (List.map e33 r0_Stock4)),(26,.row 65 4 (List.map e65 r0_Hair_Hanks3)),(27,.row 67 3 (List.map e67 r0_Hair_Horses3)),(28,.row 3 1 (List.map e3 o6_4)),(29,.row 3 1 (List.map e3 o6_1_3)),(30,.arr 51 [.own 28 (List.map e3 o6_4).length,.own 29 (List.map e3 o6_1_3).length]),(31,.row 33 2 (List.map e33 r0_Stock3)),(18,.row 65 4 (List.map e65 r0_Hair_Hanks2)),(19,.row 67 3 (List.map e67 r0_Hair_Horses2)),(20,.row 3 1 (List.map e3 o6_3)),(21,.row 3 1 (List.map e3 o6_1_2)),(22,.arr 51 [.own 20 (List.map e3 o6_3).length,.own 21 (List.map e3 o6_1_2).length]),(10,.row 65 4 (List.map e65 r0_Hair_Hanks1)),(11,.row 67 3 (List.map e67 r0_Hair_Horses1)),(12,.row 3 1 (List.map e3 o6_2)),(13,.row 3 1 (List.map e3 o6_1_1)),(14,.arr 51 [.own 12 (List.map e3 o6_2).length,.own 13 (List.map e3 o6_1_1).length]),(2,.row 65 4 (List.map e65 r0_Hair_Hanks)),(3,.row 67 3 (List.map e67 r0_Hair_Horses)),(4,.row 3 1 (List.map e3 o6)),(5,.row 3 1 (List.map e3 o6_1)),(6,.arr 51 [.own 4 (List.map e3 o6).length,.own 5 (List.map e3 o6_1).length])] 49 0) ?_
 refine RW.one fokW (r_iaAS trivial rfl rfl rfl (by decide) (by decide) (r_end ?_))
 refine RW.one fokW (r_faddrA trivial rfl (r_end ?_))
 refine RW.one fokW (r_loadAV trivial rfl rfl rfl (r_end ?_))
 refine Au 1 (sT [(1,.asl 48 12),(100,.asl 30 2),(101,.own 49 (List.map e3 [1]).length)] [(49,.row 3 1 (List.map e3 [1])),(48,.arr 83 [.d (.nilSl),.d (.nilSl),jI 0,jI 0,jI 0,.d (.nilSl),.d (.nilSl),jI 0,jI 0,.d (.sl 4 (List.map e65 r0_2.Hair.Hanks)),.d (.sl 3 (List.map e67 r0_2.Hair.Horses)),jI 5,jI r0_2.Hair.Near,jI r0_2.Hair.Match,.d (.sl 1 (List.map e51 r0_2.Needs)),.d (.sl 2 (List.map e33 r0_2.Stock)),jI r0_2.Pack,jI r0_2.Bad,.d (.sl 4 (List.map e65 r0_2_1.Hair.Hanks)),.d (.sl 3 (List.map e67 r0_2_1.Hair.Horses)),jI r0_2_1.Hair.Dark,jI r0_2_1.Hair.Near,jI r0_2_1.Hair.Match,.d (.sl 1 (List.map e51 r0_2_1.Needs)),.d (.nilSl),jI r0_2_1.Pack,jI r0_2_1.Bad,.own 2 (List.map e65 r0_Hair_Hanks).length,.own 3 (List.map e67 r0_Hair_Horses).length,jI r0_Hair_Dark,jI r0_Hair_Near,jI r0_Hair_Match,.asl 6 2,.own 7 (List.map e33 l).length,jI r0_Pack,jI r0_Bad,.own 10 (List.map e65 r0_Hair_Hanks1).length,.own 11 (List.map e67 r0_Hair_Horses1).length,jI r0_Hair_Dark1,jI r0_Hair_Near1,jI r0_Hair_Match1,.asl 14 2,.own 15 (List.map e33 (setL r0_Stock1 0 r0)).length,jI r0_Pack1,jI r0_Bad1,.own 18 (List.map e65 r0_Hair_Hanks2).length,.own 19 (List.map e67 r0_Hair_Horses2).length,jI r0_Hair_Dark2,jI r0_Hair_Near2,jI r0_Hair_Match2,.asl 22 2,.own 23 (List.map e33 (setL r0_Stock2 0 r0_1)).length,jI r0_Pack2,jI r0_Bad2,.d (.sl 4 (List.map e65 r0_2_2.Hair.Hanks)),.d (.sl 3 (List.map e67 r0_2_2.Hair.Horses)),jI r0_2_2.Hair.Dark,jI r0_2_2.Hair.Near,jI r0_2_2.Hair.Match,.d (.sl 1 (List.map e51 l1)),.d (.sl 2 (List.map e33 r0_2_2.Stock)),jI r0_2_2.Pack,jI r0_2_2.Bad,.own 26 (List.map e65 r0_Hair_Hanks3).length,.own 27 (List.map e67 r0_Hair_Horses3).length,jI r0_Hair_Dark3,jI r0_Hair_Near3,jI r0_Hair_Match3,.asl 30 2,.own 31 (List.map e33 r0_Stock3).length,jI r0_Pack3,jI r0_Bad3,.own 34 (List.map e65 r0_Hair_Hanks4).length,.own 35 (List.map e67 r0_Hair_Horses4).length,jI r0_Hair_Dark4,jI r0_Hair_Near4,jI r0_Hair_Match4,.asl 38 2,.own 39 (List.map e33 r0_Stock4).length,jI r0_Pack4,jI r0_Bad4,.own 42 (List.map e65 r0_Hair_Hanks5).length,.own 43 (List.map e67 r0_Hair_Horses5).length,jI r0_Hair_Dark5,jI r0_Hair_Near5,jI r0_Hair_Match5,.asl 46 2,.own 47 (List.map e33 r0_Stock5).length,jI r0_Pack5,jI r0_Bad5,.d (.sl 4 (List.map e65 r0_2_3.Hair.Hanks)),.d (.sl 3 (List.map e67 r0_2_3.Hair.Horses)),jI r0_2_3.Hair.Dark,jI r0_2_3.Hair.Near,jI r0_2_3.Hair.Match,.d (.sl 1 (List.map e51 r0_2_3.Needs)),.d (.sl 2 (List.map e33 r0_2_3.Stock)),jI r0_2_3.Pack,jI r0_2_3.Bad,.d (.sl 4 (List.map e65 r0_2_4.Hair.Hanks)),.d (.sl 3 (List.map e67 r0_2_4.Hair.Horses)),jI r0_2_4.Hair.Dark,jI r0_2_4.Hair.Near,jI r0_2_4.Hair.Match,.d (.sl 1 (List.map e51 r0_2_4.Needs)),.d (.sl 2 (List.map e33 r0_2_4.Stock)),jI r0_2_4.Pack,jI r0_2_4.Bad]),(23,.row 33 2 (List.map e33 (setL r0_Stock2 0 r0_1))),(15,.row 33 2 (List.map e33 (setL r0_Stock1 0 r0))),(7,.row 33 2 (List.map e33 l)),(42,.row 65 4 (List.map e65 r0_Hair_Hanks5)),(43,.row 67 3 (List.map e67 r0_Hair_Horses5)),(44,.row 3 1 (List.map e3 o6_6)),(45,.row 3 1 (List.map e3 o6_1_5)),(46,.arr 51 [.own 44 (List.map e3 o6_6).length,.own 45 (List.map e3 o6_1_5).length]),(47,.row 33 2 (List.map e33 r0_Stock5)),(34,.row 65 4 (List.map e65 r0_Hair_Hanks4)),(35,.row 67 3 (List.map e67 r0_Hair_Horses4)),(36,.row 3 1 (List.map e3 o6_5)),(37,.row 3 1 (List.map e3 o6_1_4)),(38,.arr 51 [.own 36 (List.map e3 o6_5).length,.own 37 (List.map e3 o6_1_4).length]),(39,.row 33 2 (List.map e33 r0_Stock4)),(26,.row 65 4 (List.map e65 r0_Hair_Hanks3)),(27,.row 67 3 (List.map e67 r0_Hair_Horses3)),(28,.row 3 1 (List.map e3 o6_4)),(29,.row 3 1 (List.map e3 o6_1_3)),(30,.arr 51 [.own 28 (List.map e3 o6_4).length,.own 29 (List.map e3 o6_1_3).length]),(31,.row 33 2 (List.map e33 r0_Stock3)),(18,.row 65 4 (List.map e65 r0_Hair_Hanks2)),(19,.row 67 3 (List.map e67 r0_Hair_Horses2)),(20,.row 3 1 (List.map e3 o6_3)),(21,.row 3 1 (List.map e3 o6_1_2)),(22,.arr 51 [.own 20 (List.map e3 o6_3).length,.own 21 (List.map e3 o6_1_2).length]),(10,.row 65 4 (List.map e65 r0_Hair_Hanks1)),(11,.row 67 3 (List.map e67 r0_Hair_Horses1)),(12,.row 3 1 (List.map e3 o6_2)),(13,.row 3 1 (List.map e3 o6_1_1)),(14,.arr 51 [.own 12 (List.map e3 o6_2).length,.own 13 (List.map e3 o6_1_1).length]),(2,.row 65 4 (List.map e65 r0_Hair_Hanks)),(3,.row 67 3 (List.map e67 r0_Hair_Horses)),(4,.row 3 1 (List.map e3 o6)),(5,.row 3 1 (List.map e3 o6_1)),(6,.arr 51 [.own 4 (List.map e3 o6).length,.own 5 (List.map e3 o6_1).length])] 50 0) ?_
 refine RW.one fokW (r_iaAS trivial rfl rfl rfl (by decide) (by decide) (r_end ?_))
 refine RW.one fokW (r_storeA trivial rfl rfl rfl rfl rfl rfl (r_end ?_))
 refine RW.nil (hQ_25 _ ?_)
 refine AW.srwK (fun Q_26 hQ_26=>?_)
 refine Au 1 (sT [(1,.asl 48 12),(103,.asl 48 12)] [(30,.arr 51 [.own 28 (List.map e3 o6_4).length,.own 49 (List.map e3 [1]).length]),(49,.row 3 1 (List.map e3 [1])),(48,.arr 83 [.d (.nilSl),.d (.nilSl),jI 0,jI 0,jI 0,.d (.nilSl),.d (.nilSl),jI 0,jI 0,.d (.sl 4 (List.map e65 r0_2.Hair.Hanks)),.d (.sl 3 (List.map e67 r0_2.Hair.Horses)),jI 5,jI r0_2.Hair.Near,jI r0_2.Hair.Match,.d (.sl 1 (List.map e51 r0_2.Needs)),.d (.sl 2 (List.map e33 r0_2.Stock)),jI r0_2.Pack,jI r0_2.Bad,.d (.sl 4 (List.map e65 r0_2_1.Hair.Hanks)),.d (.sl 3 (List.map e67 r0_2_1.Hair.Horses)),jI r0_2_1.Hair.Dark,jI r0_2_1.Hair.Near,jI r0_2_1.Hair.Match,.d (.sl 1 (List.map e51 r0_2_1.Needs)),.d (.nilSl),jI r0_2_1.Pack,jI r0_2_1.Bad,.own 2 (List.map e65 r0_Hair_Hanks).length,.own 3 (List.map e67 r0_Hair_Horses).length,jI r0_Hair_Dark,jI r0_Hair_Near,jI r0_Hair_Match,.asl 6 2,.own 7 (List.map e33 l).length,jI r0_Pack,jI r0_Bad,.own 10 (List.map e65 r0_Hair_Hanks1).length,.own 11 (List.map e67 r0_Hair_Horses1).length,jI r0_Hair_Dark1,jI r0_Hair_Near1,jI r0_Hair_Match1,.asl 14 2,.own 15 (List.map e33 (setL r0_Stock1 0 r0)).length,jI r0_Pack1,jI r0_Bad1,.own 18 (List.map e65 r0_Hair_Hanks2).length,.own 19 (List.map e67 r0_Hair_Horses2).length,jI r0_Hair_Dark2,jI r0_Hair_Near2,jI r0_Hair_Match2,.asl 22 2,.own 23 (List.map e33 (setL r0_Stock2 0 r0_1)).length,jI r0_Pack2,jI r0_Bad2,.d (.sl 4 (List.map e65 r0_2_2.Hair.Hanks)),.d (.sl 3 (List.map e67 r0_2_2.Hair.Horses)),jI r0_2_2.Hair.Dark,jI r0_2_2.Hair.Near,jI r0_2_2.Hair.Match,.d (.sl 1 (List.map e51 l1)),.d (.sl 2 (List.map e33 r0_2_2.Stock)),jI r0_2_2.Pack,jI r0_2_2.Bad,.own 26 (List.map e65 r0_Hair_Hanks3).length,.own 27 (List.map e67 r0_Hair_Horses3).length,jI r0_Hair_Dark3,jI r0_Hair_Near3,jI r0_Hair_Match3,.asl 30 2,.own 31 (List.map e33 r0_Stock3).length,jI r0_Pack3,jI r0_Bad3,.own 34 (List.map e65 r0_Hair_Hanks4).length,.own 35 (List.map e67 r0_Hair_Horses4).length,jI r0_Hair_Dark4,jI r0_Hair_Near4,jI r0_Hair_Match4,.asl 38 2,.own 39 (List.map e33 r0_Stock4).length,jI r0_Pack4,jI r0_Bad4,.own 42 (List.map e65 r0_Hair_Hanks5).length,.own 43 (List.map e67 r0_Hair_Horses5).length,jI r0_Hair_Dark5,jI r0_Hair_Near5,jI r0_Hair_Match5,.asl 46 2,.own 47 (List.map e33 r0_Stock5).length,jI r0_Pack5,jI r0_Bad5,.d (.sl 4 (List.map e65 r0_2_3.Hair.Hanks)),.d (.sl 3 (List.map e67 r0_2_3.Hair.Horses)),jI r0_2_3.Hair.Dark,jI r0_2_3.Hair.Near,jI r0_2_3.Hair.Match,.d (.sl 1 (List.map e51 r0_2_3.Needs)),.d (.sl 2 (List.map e33 r0_2_3.Stock)),jI r0_2_3.Pack,jI r0_2_3.Bad,.d (.sl 4 (List.map e65 r0_2_4.Hair.Hanks)),.d (.sl 3 (List.map e67 r0_2_4.Hair.Horses)),jI r0_2_4.Hair.Dark,jI r0_2_4.Hair.Near,jI r0_2_4.Hair.Match,.d (.sl 1 (List.map e51 r0_2_4.Needs)),.d (.sl 2 (List.map e33 r0_2_4.Stock)),jI r0_2_4.Pack,jI r0_2_4.Bad]),(23,.row 33 2 (List.map e33 (setL r0_Stock2 0 r0_1))),(15,.row 33 2 (List.map e33 (setL r0_Stock1 0 r0))),(7,.row 33 2 (List.map e33 l)),(42,.row 65 4 (List.map e65 r0_Hair_Hanks5)),(43,.row 67 3 (List.map e67 r0_Hair_Horses5)),(44,.row 3 1 (List.map e3 o6_6)),(45,.row 3 1 (List.map e3 o6_1_5)),(46,.arr 51 [.own 44 (List.map e3 o6_6).length,.own 45 (List.map e3 o6_1_5).length]),(47,.row 33 2 (List.map e33 r0_Stock5)),(34,.row 65 4 (List.map e65 r0_Hair_Hanks4)),(35,.row 67 3 (List.map e67 r0_Hair_Horses4)),(36,.row 3 1 (List.map e3 o6_5)),(37,.row 3 1 (List.map e3 o6_1_4)),(38,.arr 51 [.own 36 (List.map e3 o6_5).length,.own 37 (List.map e3 o6_1_4).length]),(39,.row 33 2 (List.map e33 r0_Stock4)),(26,.row 65 4 (List.map e65 r0_Hair_Hanks3)),(27,.row 67 3 (List.map e67 r0_Hair_Horses3)),(28,.row 3 1 (List.map e3 o6_4)),(31,.row 33 2 (List.map e33 r0_Stock3)),(18,.row 65 4 (List.map e65 r0_Hair_Hanks2)),(19,.row 67 3 (List.map e67 r0_Hair_Horses2)),(20,.row 3 1 (List.map e3 o6_3)),(21,.row 3 1 (List.map e3 o6_1_2)),(22,.arr 51 [.own 20 (List.map e3 o6_3).length,.own 21 (List.map e3 o6_1_2).length]),(10,.row 65 4 (List.map e65 r0_Hair_Hanks1)),(11,.row 67 3 (List.map e67 r0_Hair_Horses1)),(12,.row 3 1 (List.map e3 o6_2)),(13,.row 3 1 (List.map e3 o6_1_1)),(14,.arr 51 [.own 12 (List.map e3 o6_2).length,.own 13 (List.map e3 o6_1_1).length]),(2,.row 65 4 (List.map e65 r0_Hair_Hanks)),(3,.row 67 3 (List.map e67 r0_Hair_Horses)),(4,.row 3 1 (List.map e3 o6)),(5,.row 3 1 (List.map e3 o6_1)),(6,.arr 51 [.own 4 (List.map e3 o6).length,.own 5 (List.map e3 o6_1).length])] 50 0) ?_
 refine RW.one fokW (r_iaAS trivial rfl rfl rfl (by decide) (by decide) (r_end ?_))
 refine RW.one fokW (r_faddrA trivial rfl (r_end ?_))
 refine RW.one fokW (r_loadAV trivial rfl rfl rfl (r_end ?_))
 refine RW.one fokW (r_iaAS trivial rfl rfl rfl (by decide) (by decide) (r_end ?_))
 refine RW.one fokW (r_loadAV trivial rfl rfl rfl (r_end ?_))
 obtain ⟨p2,hv_27,h⟩:=bsome h
 refine RW.one fokW (r_iaO trivial rfl rfl rfl (ixL_ok hv_27).1 (ix_lt (ixL_ok hv_27).2) rfl (r_end ?_))
 refine RW.one fokW (r_stE trivial rfl rfl rfl rfl (mapget (f:=e3) (ixL_ok hv_27).2) rfl rfl rfl (Nat.le_of_ble_eq_true rfl) (stz (f:=e3) (x:=10) rfl) (r_end ?_))
 rw [lenset (f:=e3) (xs:=o6_5) (i:=1) (x:=10)]
 refine RW.nil (hQ_26 _ ?_)
 refine AW.srwK (fun Q_28 hQ_28=>?_)
 refine Au 1 (sT [(1,.asl 48 12),(110,.asl 48 12)] [(36,.row 3 1 (List.map e3 (setL o6_5 1 10))),(30,.arr 51 [.own 28 (List.map e3 o6_4).length,.own 49 (List.map e3 [1]).length]),(49,.row 3 1 (List.map e3 [1])),(48,.arr 83 [.d (.nilSl),.d (.nilSl),jI 0,jI 0,jI 0,.d (.nilSl),.d (.nilSl),jI 0,jI 0,.d (.sl 4 (List.map e65 r0_2.Hair.Hanks)),.d (.sl 3 (List.map e67 r0_2.Hair.Horses)),jI 5,jI r0_2.Hair.Near,jI r0_2.Hair.Match,.d (.sl 1 (List.map e51 r0_2.Needs)),.d (.sl 2 (List.map e33 r0_2.Stock)),jI r0_2.Pack,jI r0_2.Bad,.d (.sl 4 (List.map e65 r0_2_1.Hair.Hanks)),.d (.sl 3 (List.map e67 r0_2_1.Hair.Horses)),jI r0_2_1.Hair.Dark,jI r0_2_1.Hair.Near,jI r0_2_1.Hair.Match,.d (.sl 1 (List.map e51 r0_2_1.Needs)),.d (.nilSl),jI r0_2_1.Pack,jI r0_2_1.Bad,.own 2 (List.map e65 r0_Hair_Hanks).length,.own 3 (List.map e67 r0_Hair_Horses).length,jI r0_Hair_Dark,jI r0_Hair_Near,jI r0_Hair_Match,.asl 6 2,.own 7 (List.map e33 l).length,jI r0_Pack,jI r0_Bad,.own 10 (List.map e65 r0_Hair_Hanks1).length,.own 11 (List.map e67 r0_Hair_Horses1).length,jI r0_Hair_Dark1,jI r0_Hair_Near1,jI r0_Hair_Match1,.asl 14 2,.own 15 (List.map e33 (setL r0_Stock1 0 r0)).length,jI r0_Pack1,jI r0_Bad1,.own 18 (List.map e65 r0_Hair_Hanks2).length,.own 19 (List.map e67 r0_Hair_Horses2).length,jI r0_Hair_Dark2,jI r0_Hair_Near2,jI r0_Hair_Match2,.asl 22 2,.own 23 (List.map e33 (setL r0_Stock2 0 r0_1)).length,jI r0_Pack2,jI r0_Bad2,.d (.sl 4 (List.map e65 r0_2_2.Hair.Hanks)),.d (.sl 3 (List.map e67 r0_2_2.Hair.Horses)),jI r0_2_2.Hair.Dark,jI r0_2_2.Hair.Near,jI r0_2_2.Hair.Match,.d (.sl 1 (List.map e51 l1)),.d (.sl 2 (List.map e33 r0_2_2.Stock)),jI r0_2_2.Pack,jI r0_2_2.Bad,.own 26 (List.map e65 r0_Hair_Hanks3).length,.own 27 (List.map e67 r0_Hair_Horses3).length,jI r0_Hair_Dark3,jI r0_Hair_Near3,jI r0_Hair_Match3,.asl 30 2,.own 31 (List.map e33 r0_Stock3).length,jI r0_Pack3,jI r0_Bad3,.own 34 (List.map e65 r0_Hair_Hanks4).length,.own 35 (List.map e67 r0_Hair_Horses4).length,jI r0_Hair_Dark4,jI r0_Hair_Near4,jI r0_Hair_Match4,.asl 38 2,.own 39 (List.map e33 r0_Stock4).length,jI r0_Pack4,jI r0_Bad4,.own 42 (List.map e65 r0_Hair_Hanks5).length,.own 43 (List.map e67 r0_Hair_Horses5).length,jI r0_Hair_Dark5,jI r0_Hair_Near5,jI r0_Hair_Match5,.asl 46 2,.own 47 (List.map e33 r0_Stock5).length,jI r0_Pack5,jI r0_Bad5,.d (.sl 4 (List.map e65 r0_2_3.Hair.Hanks)),.d (.sl 3 (List.map e67 r0_2_3.Hair.Horses)),jI r0_2_3.Hair.Dark,jI r0_2_3.Hair.Near,jI r0_2_3.Hair.Match,.d (.sl 1 (List.map e51 r0_2_3.Needs)),.d (.sl 2 (List.map e33 r0_2_3.Stock)),jI r0_2_3.Pack,jI r0_2_3.Bad,.d (.sl 4 (List.map e65 r0_2_4.Hair.Hanks)),.d (.sl 3 (List.map e67 r0_2_4.Hair.Horses)),jI r0_2_4.Hair.Dark,jI r0_2_4.Hair.Near,jI r0_2_4.Hair.Match,.d (.sl 1 (List.map e51 r0_2_4.Needs)),.d (.sl 2 (List.map e33 r0_2_4.Stock)),jI r0_2_4.Pack,jI r0_2_4.Bad]),(23,.row 33 2 (List.map e33 (setL r0_Stock2 0 r0_1))),(15,.row 33 2 (List.map e33 (setL r0_Stock1 0 r0))),(7,.row 33 2 (List.map e33 l)),(42,.row 65 4 (List.map e65 r0_Hair_Hanks5)),(43,.row 67 3 (List.map e67 r0_Hair_Horses5)),(44,.row 3 1 (List.map e3 o6_6)),(45,.row 3 1 (List.map e3 o6_1_5)),(46,.arr 51 [.own 44 (List.map e3 o6_6).length,.own 45 (List.map e3 o6_1_5).length]),(47,.row 33 2 (List.map e33 r0_Stock5)),(34,.row 65 4 (List.map e65 r0_Hair_Hanks4)),(35,.row 67 3 (List.map e67 r0_Hair_Horses4)),(37,.row 3 1 (List.map e3 o6_1_4)),(38,.arr 51 [.own 36 (List.map e3 (setL o6_5 1 10)).length,.own 37 (List.map e3 o6_1_4).length]),(39,.row 33 2 (List.map e33 r0_Stock4)),(26,.row 65 4 (List.map e65 r0_Hair_Hanks3)),(27,.row 67 3 (List.map e67 r0_Hair_Horses3)),(28,.row 3 1 (List.map e3 o6_4)),(31,.row 33 2 (List.map e33 r0_Stock3)),(18,.row 65 4 (List.map e65 r0_Hair_Hanks2)),(19,.row 67 3 (List.map e67 r0_Hair_Horses2)),(20,.row 3 1 (List.map e3 o6_3)),(21,.row 3 1 (List.map e3 o6_1_2)),(22,.arr 51 [.own 20 (List.map e3 o6_3).length,.own 21 (List.map e3 o6_1_2).length]),(10,.row 65 4 (List.map e65 r0_Hair_Hanks1)),(11,.row 67 3 (List.map e67 r0_Hair_Horses1)),(12,.row 3 1 (List.map e3 o6_2)),(13,.row 3 1 (List.map e3 o6_1_1)),(14,.arr 51 [.own 12 (List.map e3 o6_2).length,.own 13 (List.map e3 o6_1_1).length]),(2,.row 65 4 (List.map e65 r0_Hair_Hanks)),(3,.row 67 3 (List.map e67 r0_Hair_Horses)),(4,.row 3 1 (List.map e3 o6)),(5,.row 3 1 (List.map e3 o6_1)),(6,.arr 51 [.own 4 (List.map e3 o6).length,.own 5 (List.map e3 o6_1).length])] 50 0) ?_
 refine RW.one fokW (r_iaAS trivial rfl rfl rfl (by decide) (by decide) (r_end ?_))
 refine RW.one fokW (r_faddrA trivial rfl (r_end ?_))
 refine RW.one fokW (r_loadAV trivial rfl rfl rfl (r_end ?_))
 refine RW.one fokW (r_iaAS trivial rfl rfl rfl (by decide) (by decide) (r_end ?_))
 refine RW.one fokW (r_loadAV trivial rfl rfl rfl (r_end ?_))
 obtain ⟨p3,hv_29,h⟩:=bsome h
 refine RW.one fokW (r_iaO trivial rfl rfl rfl (ixL_ok hv_29).1 (ix_lt (ixL_ok hv_29).2) rfl (r_end ?_))
 refine RW.one fokW (r_stE trivial rfl rfl rfl rfl (mapget (f:=e3) (ixL_ok hv_29).2) rfl rfl rfl (Nat.le_of_ble_eq_true rfl) (stz (f:=e3) (x:=(-1)) rfl) (r_end ?_))
 rw [lenset (f:=e3) (xs:=o6_1_5) (i:=0) (x:=(-1))]
 refine RW.nil (hQ_28 _ ?_)
 refine AW.srwK (fun Q_30 hQ_30=>?_)
 refine Au 1 (sT [(1,.asl 48 12),(117,.asl 48 12)] [(45,.row 3 1 (List.map e3 (setL o6_1_5 0 (-1)))),(36,.row 3 1 (List.map e3 (setL o6_5 1 10))),(30,.arr 51 [.own 28 (List.map e3 o6_4).length,.own 49 (List.map e3 [1]).length]),(49,.row 3 1 (List.map e3 [1])),(48,.arr 83 [.d (.nilSl),.d (.nilSl),jI 0,jI 0,jI 0,.d (.nilSl),.d (.nilSl),jI 0,jI 0,.d (.sl 4 (List.map e65 r0_2.Hair.Hanks)),.d (.sl 3 (List.map e67 r0_2.Hair.Horses)),jI 5,jI r0_2.Hair.Near,jI r0_2.Hair.Match,.d (.sl 1 (List.map e51 r0_2.Needs)),.d (.sl 2 (List.map e33 r0_2.Stock)),jI r0_2.Pack,jI r0_2.Bad,.d (.sl 4 (List.map e65 r0_2_1.Hair.Hanks)),.d (.sl 3 (List.map e67 r0_2_1.Hair.Horses)),jI r0_2_1.Hair.Dark,jI r0_2_1.Hair.Near,jI r0_2_1.Hair.Match,.d (.sl 1 (List.map e51 r0_2_1.Needs)),.d (.nilSl),jI r0_2_1.Pack,jI r0_2_1.Bad,.own 2 (List.map e65 r0_Hair_Hanks).length,.own 3 (List.map e67 r0_Hair_Horses).length,jI r0_Hair_Dark,jI r0_Hair_Near,jI r0_Hair_Match,.asl 6 2,.own 7 (List.map e33 l).length,jI r0_Pack,jI r0_Bad,.own 10 (List.map e65 r0_Hair_Hanks1).length,.own 11 (List.map e67 r0_Hair_Horses1).length,jI r0_Hair_Dark1,jI r0_Hair_Near1,jI r0_Hair_Match1,.asl 14 2,.own 15 (List.map e33 (setL r0_Stock1 0 r0)).length,jI r0_Pack1,jI r0_Bad1,.own 18 (List.map e65 r0_Hair_Hanks2).length,.own 19 (List.map e67 r0_Hair_Horses2).length,jI r0_Hair_Dark2,jI r0_Hair_Near2,jI r0_Hair_Match2,.asl 22 2,.own 23 (List.map e33 (setL r0_Stock2 0 r0_1)).length,jI r0_Pack2,jI r0_Bad2,.d (.sl 4 (List.map e65 r0_2_2.Hair.Hanks)),.d (.sl 3 (List.map e67 r0_2_2.Hair.Horses)),jI r0_2_2.Hair.Dark,jI r0_2_2.Hair.Near,jI r0_2_2.Hair.Match,.d (.sl 1 (List.map e51 l1)),.d (.sl 2 (List.map e33 r0_2_2.Stock)),jI r0_2_2.Pack,jI r0_2_2.Bad,.own 26 (List.map e65 r0_Hair_Hanks3).length,.own 27 (List.map e67 r0_Hair_Horses3).length,jI r0_Hair_Dark3,jI r0_Hair_Near3,jI r0_Hair_Match3,.asl 30 2,.own 31 (List.map e33 r0_Stock3).length,jI r0_Pack3,jI r0_Bad3,.own 34 (List.map e65 r0_Hair_Hanks4).length,.own 35 (List.map e67 r0_Hair_Horses4).length,jI r0_Hair_Dark4,jI r0_Hair_Near4,jI r0_Hair_Match4,.asl 38 2,.own 39 (List.map e33 r0_Stock4).length,jI r0_Pack4,jI r0_Bad4,.own 42 (List.map e65 r0_Hair_Hanks5).length,.own 43 (List.map e67 r0_Hair_Horses5).length,jI r0_Hair_Dark5,jI r0_Hair_Near5,jI r0_Hair_Match5,.asl 46 2,.own 47 (List.map e33 r0_Stock5).length,jI r0_Pack5,jI r0_Bad5,.d (.sl 4 (List.map e65 r0_2_3.Hair.Hanks)),.d (.sl 3 (List.map e67 r0_2_3.Hair.Horses)),jI r0_2_3.Hair.Dark,jI r0_2_3.Hair.Near,jI r0_2_3.Hair.Match,.d (.sl 1 (List.map e51 r0_2_3.Needs)),.d (.sl 2 (List.map e33 r0_2_3.Stock)),jI r0_2_3.Pack,jI r0_2_3.Bad,.d (.sl 4 (List.map e65 r0_2_4.Hair.Hanks)),.d (.sl 3 (List.map e67 r0_2_4.Hair.Horses)),jI r0_2_4.Hair.Dark,jI r0_2_4.Hair.Near,jI r0_2_4.Hair.Match,.d (.sl 1 (List.map e51 r0_2_4.Needs)),.d (.sl 2 (List.map e33 r0_2_4.Stock)),jI r0_2_4.Pack,jI r0_2_4.Bad]),(23,.row 33 2 (List.map e33 (setL r0_Stock2 0 r0_1))),(15,.row 33 2 (List.map e33 (setL r0_Stock1 0 r0))),(7,.row 33 2 (List.map e33 l)),(42,.row 65 4 (List.map e65 r0_Hair_Hanks5)),(43,.row 67 3 (List.map e67 r0_Hair_Horses5)),(44,.row 3 1 (List.map e3 o6_6)),(46,.arr 51 [.own 44 (List.map e3 o6_6).length,.own 45 (List.map e3 (setL o6_1_5 0 (-1))).length]),(47,.row 33 2 (List.map e33 r0_Stock5)),(34,.row 65 4 (List.map e65 r0_Hair_Hanks4)),(35,.row 67 3 (List.map e67 r0_Hair_Horses4)),(37,.row 3 1 (List.map e3 o6_1_4)),(38,.arr 51 [.own 36 (List.map e3 (setL o6_5 1 10)).length,.own 37 (List.map e3 o6_1_4).length]),(39,.row 33 2 (List.map e33 r0_Stock4)),(26,.row 65 4 (List.map e65 r0_Hair_Hanks3)),(27,.row 67 3 (List.map e67 r0_Hair_Horses3)),(28,.row 3 1 (List.map e3 o6_4)),(31,.row 33 2 (List.map e33 r0_Stock3)),(18,.row 65 4 (List.map e65 r0_Hair_Hanks2)),(19,.row 67 3 (List.map e67 r0_Hair_Horses2)),(20,.row 3 1 (List.map e3 o6_3)),(21,.row 3 1 (List.map e3 o6_1_2)),(22,.arr 51 [.own 20 (List.map e3 o6_3).length,.own 21 (List.map e3 o6_1_2).length]),(10,.row 65 4 (List.map e65 r0_Hair_Hanks1)),(11,.row 67 3 (List.map e67 r0_Hair_Horses1)),(12,.row 3 1 (List.map e3 o6_2)),(13,.row 3 1 (List.map e3 o6_1_1)),(14,.arr 51 [.own 12 (List.map e3 o6_2).length,.own 13 (List.map e3 o6_1_1).length]),(2,.row 65 4 (List.map e65 r0_Hair_Hanks)),(3,.row 67 3 (List.map e67 r0_Hair_Horses)),(4,.row 3 1 (List.map e3 o6)),(5,.row 3 1 (List.map e3 o6_1)),(6,.arr 51 [.own 4 (List.map e3 o6).length,.own 5 (List.map e3 o6_1).length])] 50 0) ?_
 refine RW.one fokW (r_iaAS trivial rfl rfl rfl (by decide) (by decide) (r_end ?_))
 refine RW.one fokW (r_faddrA trivial rfl (r_end ?_))
 refine RW.one fokW (r_storeA trivial rfl rfl rfl rfl rfl rfl (r_end ?_))
 refine RW.nil (hQ_30 _ ?_)
 refine AW.srwK (fun Q_31 hQ_31=>?_)
 refine Au 1 (sT [(1,.asl 48 12),(120,.asl 48 12)] [(48,.arr 83 [.d (.nilSl),.d (.nilSl),jI 0,jI 0,jI 0,.d (.nilSl),.d (.nilSl),jI 0,jI 0,.d (.sl 4 (List.map e65 r0_2.Hair.Hanks)),.d (.sl 3 (List.map e67 r0_2.Hair.Horses)),jI 5,jI r0_2.Hair.Near,jI r0_2.Hair.Match,.d (.sl 1 (List.map e51 r0_2.Needs)),.d (.sl 2 (List.map e33 r0_2.Stock)),jI r0_2.Pack,jI r0_2.Bad,.d (.sl 4 (List.map e65 r0_2_1.Hair.Hanks)),.d (.sl 3 (List.map e67 r0_2_1.Hair.Horses)),jI r0_2_1.Hair.Dark,jI r0_2_1.Hair.Near,jI r0_2_1.Hair.Match,.d (.sl 1 (List.map e51 r0_2_1.Needs)),.d (.nilSl),jI r0_2_1.Pack,jI r0_2_1.Bad,.own 2 (List.map e65 r0_Hair_Hanks).length,.own 3 (List.map e67 r0_Hair_Horses).length,jI r0_Hair_Dark,jI r0_Hair_Near,jI r0_Hair_Match,.asl 6 2,.own 7 (List.map e33 l).length,jI r0_Pack,jI r0_Bad,.own 10 (List.map e65 r0_Hair_Hanks1).length,.own 11 (List.map e67 r0_Hair_Horses1).length,jI r0_Hair_Dark1,jI r0_Hair_Near1,jI r0_Hair_Match1,.asl 14 2,.own 15 (List.map e33 (setL r0_Stock1 0 r0)).length,jI r0_Pack1,jI r0_Bad1,.own 18 (List.map e65 r0_Hair_Hanks2).length,.own 19 (List.map e67 r0_Hair_Horses2).length,jI r0_Hair_Dark2,jI r0_Hair_Near2,jI r0_Hair_Match2,.asl 22 2,.own 23 (List.map e33 (setL r0_Stock2 0 r0_1)).length,jI r0_Pack2,jI r0_Bad2,.d (.sl 4 (List.map e65 r0_2_2.Hair.Hanks)),.d (.sl 3 (List.map e67 r0_2_2.Hair.Horses)),jI r0_2_2.Hair.Dark,jI r0_2_2.Hair.Near,jI r0_2_2.Hair.Match,.d (.sl 1 (List.map e51 l1)),.d (.sl 2 (List.map e33 r0_2_2.Stock)),jI r0_2_2.Pack,jI r0_2_2.Bad,.own 26 (List.map e65 r0_Hair_Hanks3).length,.own 27 (List.map e67 r0_Hair_Horses3).length,jI r0_Hair_Dark3,jI r0_Hair_Near3,jI r0_Hair_Match3,.asl 30 2,.own 31 (List.map e33 r0_Stock3).length,jI r0_Pack3,jI r0_Bad3,.own 34 (List.map e65 r0_Hair_Hanks4).length,.own 35 (List.map e67 r0_Hair_Horses4).length,jI r0_Hair_Dark4,jI r0_Hair_Near4,jI r0_Hair_Match4,.asl 38 2,.own 39 (List.map e33 r0_Stock4).length,jI r0_Pack4,jI r0_Bad4,.own 42 (List.map e65 r0_Hair_Hanks5).length,.own 43 (List.map e67 r0_Hair_Horses5).length,jI r0_Hair_Dark5,jI r0_Hair_Near5,jI r0_Hair_Match5,.asl 46 2,.own 47 (List.map e33 r0_Stock5).length,jI r0_Pack5,jI r0_Bad5,.d (.sl 4 (List.map e65 r0_2_3.Hair.Hanks)),.d (.sl 3 (List.map e67 r0_2_3.Hair.Horses)),jI r0_2_3.Hair.Dark,jI r0_2_3.Hair.Near,jI r0_2_3.Hair.Match,.d (.sl 1 (List.map e51 r0_2_3.Needs)),.d (.sl 2 (List.map e33 r0_2_3.Stock)),jI 13,jI r0_2_3.Bad,.d (.sl 4 (List.map e65 r0_2_4.Hair.Hanks)),.d (.sl 3 (List.map e67 r0_2_4.Hair.Horses)),jI r0_2_4.Hair.Dark,jI r0_2_4.Hair.Near,jI r0_2_4.Hair.Match,.d (.sl 1 (List.map e51 r0_2_4.Needs)),.d (.sl 2 (List.map e33 r0_2_4.Stock)),jI r0_2_4.Pack,jI r0_2_4.Bad]),(45,.row 3 1 (List.map e3 (setL o6_1_5 0 (-1)))),(36,.row 3 1 (List.map e3 (setL o6_5 1 10))),(30,.arr 51 [.own 28 (List.map e3 o6_4).length,.own 49 (List.map e3 [1]).length]),(49,.row 3 1 (List.map e3 [1])),(23,.row 33 2 (List.map e33 (setL r0_Stock2 0 r0_1))),(15,.row 33 2 (List.map e33 (setL r0_Stock1 0 r0))),(7,.row 33 2 (List.map e33 l)),(42,.row 65 4 (List.map e65 r0_Hair_Hanks5)),(43,.row 67 3 (List.map e67 r0_Hair_Horses5)),(44,.row 3 1 (List.map e3 o6_6)),(46,.arr 51 [.own 44 (List.map e3 o6_6).length,.own 45 (List.map e3 (setL o6_1_5 0 (-1))).length]),(47,.row 33 2 (List.map e33 r0_Stock5)),(34,.row 65 4 (List.map e65 r0_Hair_Hanks4)),(35,.row 67 3 (List.map e67 r0_Hair_Horses4)),(37,.row 3 1 (List.map e3 o6_1_4)),(38,.arr 51 [.own 36 (List.map e3 (setL o6_5 1 10)).length,.own 37 (List.map e3 o6_1_4).length]),(39,.row 33 2 (List.map e33 r0_Stock4)),(26,.row 65 4 (List.map e65 r0_Hair_Hanks3)),(27,.row 67 3 (List.map e67 r0_Hair_Horses3)),(28,.row 3 1 (List.map e3 o6_4)),(31,.row 33 2 (List.map e33 r0_Stock3)),(18,.row 65 4 (List.map e65 r0_Hair_Hanks2)),(19,.row 67 3 (List.map e67 r0_Hair_Horses2)),(20,.row 3 1 (List.map e3 o6_3)),(21,.row 3 1 (List.map e3 o6_1_2)),(22,.arr 51 [.own 20 (List.map e3 o6_3).length,.own 21 (List.map e3 o6_1_2).length]),(10,.row 65 4 (List.map e65 r0_Hair_Hanks1)),(11,.row 67 3 (List.map e67 r0_Hair_Horses1)),(12,.row 3 1 (List.map e3 o6_2)),(13,.row 3 1 (List.map e3 o6_1_1)),(14,.arr 51 [.own 12 (List.map e3 o6_2).length,.own 13 (List.map e3 o6_1_1).length]),(2,.row 65 4 (List.map e65 r0_Hair_Hanks)),(3,.row 67 3 (List.map e67 r0_Hair_Horses)),(4,.row 3 1 (List.map e3 o6)),(5,.row 3 1 (List.map e3 o6_1)),(6,.arr 51 [.own 4 (List.map e3 o6).length,.own 5 (List.map e3 o6_1).length])] 50 0) ?_
 refine RW.one fokW (r_iaAS trivial rfl rfl rfl (by decide) (by decide) (r_end ?_))
 refine RW.one fokW (r_faddrA trivial rfl (r_end ?_))
 refine RW.one fokW (r_storeA trivial rfl rfl rfl rfl rfl rfl (r_end ?_))
 refine RW.nil (hQ_31 _ ?_)
 refine AW.seqK (fun K_32 hK_32=>?_)
 refine Sa (sT [(1,.asl 48 12),(2,jI 0)] [(48,.arr 83 [.d (.nilSl),.d (.nilSl),jI 0,jI 0,jI 0,.d (.nilSl),.d (.nilSl),jI 0,jI 0,.d (.sl 4 (List.map e65 r0_2.Hair.Hanks)),.d (.sl 3 (List.map e67 r0_2.Hair.Horses)),jI 5,jI r0_2.Hair.Near,jI r0_2.Hair.Match,.d (.sl 1 (List.map e51 r0_2.Needs)),.d (.sl 2 (List.map e33 r0_2.Stock)),jI r0_2.Pack,jI r0_2.Bad,.d (.sl 4 (List.map e65 r0_2_1.Hair.Hanks)),.d (.sl 3 (List.map e67 r0_2_1.Hair.Horses)),jI r0_2_1.Hair.Dark,jI r0_2_1.Hair.Near,jI r0_2_1.Hair.Match,.d (.sl 1 (List.map e51 r0_2_1.Needs)),.d (.nilSl),jI r0_2_1.Pack,jI r0_2_1.Bad,.own 2 (List.map e65 r0_Hair_Hanks).length,.own 3 (List.map e67 r0_Hair_Horses).length,jI r0_Hair_Dark,jI r0_Hair_Near,jI r0_Hair_Match,.asl 6 2,.own 7 (List.map e33 l).length,jI r0_Pack,jI r0_Bad,.own 10 (List.map e65 r0_Hair_Hanks1).length,.own 11 (List.map e67 r0_Hair_Horses1).length,jI r0_Hair_Dark1,jI r0_Hair_Near1,jI r0_Hair_Match1,.asl 14 2,.own 15 (List.map e33 (setL r0_Stock1 0 r0)).length,jI r0_Pack1,jI r0_Bad1,.own 18 (List.map e65 r0_Hair_Hanks2).length,.own 19 (List.map e67 r0_Hair_Horses2).length,jI r0_Hair_Dark2,jI r0_Hair_Near2,jI r0_Hair_Match2,.asl 22 2,.own 23 (List.map e33 (setL r0_Stock2 0 r0_1)).length,jI r0_Pack2,jI r0_Bad2,.d (.sl 4 (List.map e65 r0_2_2.Hair.Hanks)),.d (.sl 3 (List.map e67 r0_2_2.Hair.Horses)),jI r0_2_2.Hair.Dark,jI r0_2_2.Hair.Near,jI r0_2_2.Hair.Match,.d (.sl 1 (List.map e51 l1)),.d (.sl 2 (List.map e33 r0_2_2.Stock)),jI r0_2_2.Pack,jI r0_2_2.Bad,.own 26 (List.map e65 r0_Hair_Hanks3).length,.own 27 (List.map e67 r0_Hair_Horses3).length,jI r0_Hair_Dark3,jI r0_Hair_Near3,jI r0_Hair_Match3,.asl 30 2,.own 31 (List.map e33 r0_Stock3).length,jI r0_Pack3,jI r0_Bad3,.own 34 (List.map e65 r0_Hair_Hanks4).length,.own 35 (List.map e67 r0_Hair_Horses4).length,jI r0_Hair_Dark4,jI r0_Hair_Near4,jI r0_Hair_Match4,.asl 38 2,.own 39 (List.map e33 r0_Stock4).length,jI r0_Pack4,jI r0_Bad4,.own 42 (List.map e65 r0_Hair_Hanks5).length,.own 43 (List.map e67 r0_Hair_Horses5).length,jI r0_Hair_Dark5,jI r0_Hair_Near5,jI r0_Hair_Match5,.asl 46 2,.own 47 (List.map e33 r0_Stock5).length,jI r0_Pack5,jI r0_Bad5,.d (.sl 4 (List.map e65 r0_2_3.Hair.Hanks)),.d (.sl 3 (List.map e67 r0_2_3.Hair.Horses)),jI r0_2_3.Hair.Dark,jI r0_2_3.Hair.Near,jI r0_2_3.Hair.Match,.d (.sl 1 (List.map e51 r0_2_3.Needs)),.d (.sl 2 (List.map e33 r0_2_3.Stock)),jI 13,jI r0_2_3.Bad,.d (.sl 4 (List.map e65 r0_2_4.Hair.Hanks)),.d (.sl 3 (List.map e67 r0_2_4.Hair.Horses)),jI r0_2_4.Hair.Dark,jI r0_2_4.Hair.Near,jI r0_2_4.Hair.Match,.d (.sl 1 (List.map e51 r0_2_4.Needs)),.d (.sl 2 (List.map e33 r0_2_4.Stock)),jI r0_2_4.Pack,jI 7]),(45,.row 3 1 (List.map e3 (setL o6_1_5 0 (-1)))),(36,.row 3 1 (List.map e3 (setL o6_5 1 10))),(30,.arr 51 [.own 28 (List.map e3 o6_4).length,.own 49 (List.map e3 [1]).length]),(49,.row 3 1 (List.map e3 [1])),(23,.row 33 2 (List.map e33 (setL r0_Stock2 0 r0_1))),(15,.row 33 2 (List.map e33 (setL r0_Stock1 0 r0))),(7,.row 33 2 (List.map e33 l)),(42,.row 65 4 (List.map e65 r0_Hair_Hanks5)),(43,.row 67 3 (List.map e67 r0_Hair_Horses5)),(44,.row 3 1 (List.map e3 o6_6)),(46,.arr 51 [.own 44 (List.map e3 o6_6).length,.own 45 (List.map e3 (setL o6_1_5 0 (-1))).length]),(47,.row 33 2 (List.map e33 r0_Stock5)),(34,.row 65 4 (List.map e65 r0_Hair_Hanks4)),(35,.row 67 3 (List.map e67 r0_Hair_Horses4)),(37,.row 3 1 (List.map e3 o6_1_4)),(38,.arr 51 [.own 36 (List.map e3 (setL o6_5 1 10)).length,.own 37 (List.map e3 o6_1_4).length]),(39,.row 33 2 (List.map e33 r0_Stock4)),(26,.row 65 4 (List.map e65 r0_Hair_Hanks3)),(27,.row 67 3 (List.map e67 r0_Hair_Horses3)),(28,.row 3 1 (List.map e3 o6_4)),(31,.row 33 2 (List.map e33 r0_Stock3)),(18,.row 65 4 (List.map e65 r0_Hair_Hanks2)),(19,.row 67 3 (List.map e67 r0_Hair_Horses2)),(20,.row 3 1 (List.map e3 o6_3)),(21,.row 3 1 (List.map e3 o6_1_2)),(22,.arr 51 [.own 20 (List.map e3 o6_3).length,.own 21 (List.map e3 o6_1_2).length]),(10,.row 65 4 (List.map e65 r0_Hair_Hanks1)),(11,.row 67 3 (List.map e67 r0_Hair_Horses1)),(12,.row 3 1 (List.map e3 o6_2)),(13,.row 3 1 (List.map e3 o6_1_1)),(14,.arr 51 [.own 12 (List.map e3 o6_2).length,.own 13 (List.map e3 o6_1_1).length]),(2,.row 65 4 (List.map e65 r0_Hair_Hanks)),(3,.row 67 3 (List.map e67 r0_Hair_Horses)),(4,.row 3 1 (List.map e3 o6)),(5,.row 3 1 (List.map e3 o6_1)),(6,.arr 51 [.own 4 (List.map e3 o6).length,.own 5 (List.map e3 o6_1).length])] 50 0) ?_
 refine AW.block ?_
 obtain ⟨o,hv_33,h⟩:=bsome h
 refine AW.can (Can.wkHA 48 0 4 rfl rfl) ?_
 refine AW.can (Can.wkHA 48 1 3 rfl rfl) ?_
 refine AW.can (Can.wkHA 48 5 1 rfl rfl) ?_
 refine AW.can (Can.wkHA 48 6 2 rfl rfl) ?_
 refine AW.can (Can.wkHA 48 24 2 rfl rfl) ?_
 refine AW.can (Can.fzHA 48 27 2 (n:=(List.map e65 r0_Hair_Hanks).length) (T:=65) (es:=4) (xs:=List.map e65 r0_Hair_Hanks) rfl (by kernel_rfl) (by kernel_rfl) rfl) ?_
 refine AW.can (Can.fzHA 48 28 3 (n:=(List.map e67 r0_Hair_Horses).length) (T:=67) (es:=3) (xs:=List.map e67 r0_Hair_Horses) rfl (by kernel_rfl) (by kernel_rfl) rfl) ?_
 refine AW.can (Can.fzHA 6 0 4 (n:=(List.map e3 o6).length) (T:=3) (es:=1) (xs:=List.map e3 o6) rfl (by kernel_rfl) (by kernel_rfl) rfl) ?_
 refine AW.can (Can.fzHA 6 1 5 (n:=(List.map e3 o6_1).length) (T:=3) (es:=1) (xs:=List.map e3 o6_1) rfl (by kernel_rfl) (by kernel_rfl) rfl) ?_
 refine AW.can (Can.fzAA 48 32 6 (n:=2) (T:=51) (es:=1) (xs:=List.map e51 [o6,o6_1]) rfl (by kernel_rfl) (by kernel_rfl) (by kernel_rfl) rfl (mlen (f:=e51) (fun _=>rfl))) ?_
 refine AW.can (Can.fzHA 48 33 7 (n:=(List.map e33 l).length) (T:=33) (es:=2) (xs:=List.map e33 l) rfl (by kernel_rfl) (by kernel_rfl) rfl) ?_
 refine AW.can (Can.fzHA 48 36 10 (n:=(List.map e65 r0_Hair_Hanks1).length) (T:=65) (es:=4) (xs:=List.map e65 r0_Hair_Hanks1) rfl (by kernel_rfl) (by kernel_rfl) rfl) ?_
 refine AW.can (Can.fzHA 48 37 11 (n:=(List.map e67 r0_Hair_Horses1).length) (T:=67) (es:=3) (xs:=List.map e67 r0_Hair_Horses1) rfl (by kernel_rfl) (by kernel_rfl) rfl) ?_
 refine AW.can (Can.fzHA 14 0 12 (n:=(List.map e3 o6_2).length) (T:=3) (es:=1) (xs:=List.map e3 o6_2) rfl (by kernel_rfl) (by kernel_rfl) rfl) ?_
 refine AW.can (Can.fzHA 14 1 13 (n:=(List.map e3 o6_1_1).length) (T:=3) (es:=1) (xs:=List.map e3 o6_1_1) rfl (by kernel_rfl) (by kernel_rfl) rfl) ?_
 refine AW.can (Can.fzAA 48 41 14 (n:=2) (T:=51) (es:=1) (xs:=List.map e51 [o6_2,o6_1_1]) rfl (by kernel_rfl) (by kernel_rfl) (by kernel_rfl) rfl (mlen (f:=e51) (fun _=>rfl))) ?_
 refine AW.can (Can.fzHA 48 42 15 (n:=(List.map e33 (setL r0_Stock1 0 r0)).length) (T:=33) (es:=2) (xs:=List.map e33 (setL r0_Stock1 0 r0)) rfl (by kernel_rfl) (by kernel_rfl) rfl) ?_
 refine AW.can (Can.fzHA 48 45 18 (n:=(List.map e65 r0_Hair_Hanks2).length) (T:=65) (es:=4) (xs:=List.map e65 r0_Hair_Hanks2) rfl (by kernel_rfl) (by kernel_rfl) rfl) ?_
 refine AW.can (Can.fzHA 48 46 19 (n:=(List.map e67 r0_Hair_Horses2).length) (T:=67) (es:=3) (xs:=List.map e67 r0_Hair_Horses2) rfl (by kernel_rfl) (by kernel_rfl) rfl) ?_
 refine AW.can (Can.fzHA 22 0 20 (n:=(List.map e3 o6_3).length) (T:=3) (es:=1) (xs:=List.map e3 o6_3) rfl (by kernel_rfl) (by kernel_rfl) rfl) ?_
 refine AW.can (Can.fzHA 22 1 21 (n:=(List.map e3 o6_1_2).length) (T:=3) (es:=1) (xs:=List.map e3 o6_1_2) rfl (by kernel_rfl) (by kernel_rfl) rfl) ?_
 refine AW.can (Can.fzAA 48 50 22 (n:=2) (T:=51) (es:=1) (xs:=List.map e51 [o6_3,o6_1_2]) rfl (by kernel_rfl) (by kernel_rfl) (by kernel_rfl) rfl (mlen (f:=e51) (fun _=>rfl))) ?_
 refine AW.can (Can.fzHA 48 51 23 (n:=(List.map e33 (setL r0_Stock2 0 r0_1)).length) (T:=33) (es:=2) (xs:=List.map e33 (setL r0_Stock2 0 r0_1)) rfl (by kernel_rfl) (by kernel_rfl) rfl) ?_
 refine AW.can (Can.fzHA 48 63 26 (n:=(List.map e65 r0_Hair_Hanks3).length) (T:=65) (es:=4) (xs:=List.map e65 r0_Hair_Hanks3) rfl (by kernel_rfl) (by kernel_rfl) rfl) ?_
 refine AW.can (Can.fzHA 48 64 27 (n:=(List.map e67 r0_Hair_Horses3).length) (T:=67) (es:=3) (xs:=List.map e67 r0_Hair_Horses3) rfl (by kernel_rfl) (by kernel_rfl) rfl) ?_
 refine AW.can (Can.fzHA 30 0 28 (n:=(List.map e3 o6_4).length) (T:=3) (es:=1) (xs:=List.map e3 o6_4) rfl (by kernel_rfl) (by kernel_rfl) rfl) ?_
 refine AW.can (Can.fzHA 30 1 49 (n:=(List.map e3 [1]).length) (T:=3) (es:=1) (xs:=List.map e3 [1]) rfl (by kernel_rfl) (by kernel_rfl) rfl) ?_
 refine AW.can (Can.fzAA 48 68 30 (n:=2) (T:=51) (es:=1) (xs:=List.map e51 [o6_4,[1]]) rfl (by kernel_rfl) (by kernel_rfl) (by kernel_rfl) rfl (mlen (f:=e51) (fun _=>rfl))) ?_
 refine AW.can (Can.fzHA 48 69 31 (n:=(List.map e33 r0_Stock3).length) (T:=33) (es:=2) (xs:=List.map e33 r0_Stock3) rfl (by kernel_rfl) (by kernel_rfl) rfl) ?_
 refine AW.can (Can.fzHA 48 72 34 (n:=(List.map e65 r0_Hair_Hanks4).length) (T:=65) (es:=4) (xs:=List.map e65 r0_Hair_Hanks4) rfl (by kernel_rfl) (by kernel_rfl) rfl) ?_
 refine AW.can (Can.fzHA 48 73 35 (n:=(List.map e67 r0_Hair_Horses4).length) (T:=67) (es:=3) (xs:=List.map e67 r0_Hair_Horses4) rfl (by kernel_rfl) (by kernel_rfl) rfl) ?_
 refine AW.can (Can.fzHA 38 0 36 (n:=(List.map e3 (setL o6_5 1 10)).length) (T:=3) (es:=1) (xs:=List.map e3 (setL o6_5 1 10)) rfl (by kernel_rfl) (by kernel_rfl) rfl) ?_
 refine AW.can (Can.fzHA 38 1 37 (n:=(List.map e3 o6_1_4).length) (T:=3) (es:=1) (xs:=List.map e3 o6_1_4) rfl (by kernel_rfl) (by kernel_rfl) rfl) ?_
 refine AW.can (Can.fzAA 48 77 38 (n:=2) (T:=51) (es:=1) (xs:=List.map e51 [(setL o6_5 1 10),o6_1_4]) rfl (by kernel_rfl) (by kernel_rfl) (by kernel_rfl) rfl (mlen (f:=e51) (fun _=>rfl))) ?_
 refine AW.can (Can.fzHA 48 78 39 (n:=(List.map e33 r0_Stock4).length) (T:=33) (es:=2) (xs:=List.map e33 r0_Stock4) rfl (by kernel_rfl) (by kernel_rfl) rfl) ?_
 refine AW.can (Can.fzHA 48 81 42 (n:=(List.map e65 r0_Hair_Hanks5).length) (T:=65) (es:=4) (xs:=List.map e65 r0_Hair_Hanks5) rfl (by kernel_rfl) (by kernel_rfl) rfl) ?_
 refine AW.can (Can.fzHA 48 82 43 (n:=(List.map e67 r0_Hair_Horses5).length) (T:=67) (es:=3) (xs:=List.map e67 r0_Hair_Horses5) rfl (by kernel_rfl) (by kernel_rfl) rfl) ?_
 refine AW.can (Can.fzHA 46 0 44 (n:=(List.map e3 o6_6).length) (T:=3) (es:=1) (xs:=List.map e3 o6_6) rfl (by kernel_rfl) (by kernel_rfl) rfl) ?_
 refine AW.can (Can.fzHA 46 1 45 (n:=(List.map e3 (setL o6_1_5 0 (-1))).length) (T:=3) (es:=1) (xs:=List.map e3 (setL o6_1_5 0 (-1))) rfl (by kernel_rfl) (by kernel_rfl) rfl) ?_
 refine AW.can (Can.fzAA 48 86 46 (n:=2) (T:=51) (es:=1) (xs:=List.map e51 [o6_6,(setL o6_1_5 0 (-1))]) rfl (by kernel_rfl) (by kernel_rfl) (by kernel_rfl) rfl (mlen (f:=e51) (fun _=>rfl))) ?_
 refine AW.can (Can.fzHA 48 87 47 (n:=(List.map e33 r0_Stock5).length) (T:=33) (es:=2) (xs:=List.map e33 r0_Stock5) rfl (by kernel_rfl) (by kernel_rfl) rfl) ?_
 refine AW.can (Can.fzAE 1 48 (n:=12) (T:=83) (es:=9) (xs:=List.map e83 o) (by kernel_rfl) (by cases hv_33;kernel_rfl) (by cases hv_33;rfl) (mlen (f:=e83) (fun _=>rfl))) ?_
 refine AW.kp (sT [(1,.d (.sl 9 (List.map e83 o))),(2,jI 0)] [] 50 0) (by kernel_rfl) ?_
 refine AW.sln (t:=1) rfl (fun hN_34=>?_)
 rw [List.length_map] at hN_34
 obtain ⟨out_34,hx_34,hk_34⟩:=bsomeC h
 refine AW.evCK (fun (A:Int) (_:Unit)=>(sT [(1,.d (.sl 9 (List.map e83 o))),(2,jI A)] [] 50 0)) g5_34 hx_34 (Can.kp (by kernel_rfl)) (fun A p4 s_34 hi_34 hl_34 hp_34 c_34 h hb_34 K_34 hK_34=>?_) (fun A s_34 hi_34 hl_34 hout=>?_)
 ·unfold g5_34 at h
  refine AW.seqK fun K_35 hK_35=>AW.srwK fun Q_36 hQ_36=>?_
  refine Au 2 (sT [(1,.d (.sl 9 (List.map e83 o))),(2,jI A),(123,jI A),(124,.d (.sl 9 (List.map e83 o)))] [] 50 0) ?_
  refine rL rfl ?_
  refine Au 1 (sT [(1,.d (.sl 9 (List.map e83 o))),(2,jI A),(126,.d (.bool (decide (A<(o.length:Int)))))] [] 50 0) ?_
  refine RW.nil (hQ_36 _ ?_)
  refine AW.cond rfl (fun hb_37=>?_) (fun hb_37=>False.elim (by have:=of_decide_eq_false hb_37;omega))
  refine AW.skip (hK_35 _ ?_)
  refine AW.seqK (fun K_38 hK_38=>?_)
  refine AW.block ?_
  refine AW.srwK (fun Q_39 hQ_39=>?_)
  refine Au 2 (sT [(1,.d (.sl 9 (List.map e83 o))),(2,jI A),(130,.d (.sl 9 (List.map e83 o))),(131,jI A)] [] 50 0) ?_
  refine RW.one fokW (r_iaD trivial rfl rfl hi_34 (row:=e83 p4) (mapget hp_34) (r_end ?_))
  refine Au 1 (sT [(1,.d (.sl 9 (List.map e83 o))),(2,jI A),(133,.agg [.d (.sl 4 (List.map e65 p4.Hair.Hanks)),.d (.sl 3 (List.map e67 p4.Hair.Horses)),jI p4.Hair.Dark,jI p4.Hair.Near,jI p4.Hair.Match,.d (.sl 1 (List.map e51 p4.Needs)),.d (.sl 2 (List.map e33 p4.Stock)),jI p4.Pack,jI p4.Bad])] [] 50 0) ?_
  obtain ⟨⟨r0_4,r1_4⟩,hx_40,h⟩:=bsome h
  refine rC (k40 p4 _ hx_40) ?_
  refine Au 5 (sT [(1,.d (.sl 9 (List.map e83 o))),(2,jI A),(4,jI r1_4)] [] 50 0) ?_
  refine RW.nil (hQ_39 _ ?_)
  refine AW.srwK (fun Q_41 hQ_41=>?_)
  refine Au 2 (sT [(1,.d (.sl 9 (List.map e83 o))),(2,jI A),(4,jI r1_4),(138,.d (.sl 9 (List.map e83 o))),(139,jI A)] [] 50 0) ?_
  refine RW.one fokW (r_iaD trivial rfl rfl hi_34 (row:=e83 p4) (mapget hp_34) (r_end ?_))
  refine Au 1 (sT [(1,.d (.sl 9 (List.map e83 o))),(2,jI A),(4,jI r1_4),(141,.agg [.d (.sl 4 (List.map e65 p4.Hair.Hanks)),.d (.sl 3 (List.map e67 p4.Hair.Horses)),jI p4.Hair.Dark,jI p4.Hair.Near,jI p4.Hair.Match,.d (.sl 1 (List.map e51 p4.Needs)),.d (.sl 2 (List.map e33 p4.Stock)),jI p4.Pack,jI p4.Bad])] [] 50 0) ?_
  obtain ⟨⟨r0_4_1,r1_4_1⟩,hx_42,h⟩:=bsome h
  refine rC (k41 p4 _ hx_42) ?_
  refine Au 5 (sT [(1,.d (.sl 9 (List.map e83 o))),(2,jI A),(4,jI r1_4),(6,jI r1_4_1)] [] 50 0) ?_
  refine RW.nil (hQ_41 _ ?_)
  refine AW.srwK (fun Q_43 hQ_43=>?_)
  refine Au 2 (sT [(1,.d (.sl 9 (List.map e83 o))),(2,jI A),(4,jI r1_4),(6,jI r1_4_1),(146,.d (.sl 9 (List.map e83 o))),(147,jI A)] [] 50 0) ?_
  refine RW.one fokW (r_iaD trivial rfl rfl hi_34 (row:=e83 p4) (mapget hp_34) (r_end ?_))
  refine Au 1 (sT [(1,.d (.sl 9 (List.map e83 o))),(2,jI A),(4,jI r1_4),(6,jI r1_4_1),(149,.agg [.d (.sl 4 (List.map e65 p4.Hair.Hanks)),.d (.sl 3 (List.map e67 p4.Hair.Horses)),jI p4.Hair.Dark,jI p4.Hair.Near,jI p4.Hair.Match,.d (.sl 1 (List.map e51 p4.Needs)),.d (.sl 2 (List.map e33 p4.Stock)),jI p4.Pack,jI p4.Bad])] [] 50 0) ?_
  obtain ⟨⟨r0_5,r1_4_2⟩,hx_44,h⟩:=bsome h
  refine rC (k42 p4 _ hx_44) ?_
  refine Au 6 (sT [(1,.d (.sl 9 (List.map e83 o))),(2,jI A),(4,jI r1_4),(6,jI r1_4_1),(8,jI r1_4_2)] [] 51 0) ?_
  refine RW.nil (hQ_43 _ ?_)
  refine AW.srwK (fun Q_45 hQ_45=>?_)
  refine Au 2 (sT [(1,.d (.sl 9 (List.map e83 o))),(2,jI A),(4,jI r1_4),(6,jI r1_4_1),(8,jI r1_4_2),(154,.d (.sl 9 (List.map e83 o))),(155,jI A)] [] 51 0) ?_
  refine RW.one fokW (r_iaD trivial rfl rfl hi_34 (row:=e83 p4) (mapget hp_34) (r_end ?_))
  refine Au 1 (sT [(1,.d (.sl 9 (List.map e83 o))),(2,jI A),(4,jI r1_4),(6,jI r1_4_1),(8,jI r1_4_2),(157,.agg [.d (.sl 4 (List.map e65 p4.Hair.Hanks)),.d (.sl 3 (List.map e67 p4.Hair.Horses)),jI p4.Hair.Dark,jI p4.Hair.Near,jI p4.Hair.Match,.d (.sl 1 (List.map e51 p4.Needs)),.d (.sl 2 (List.map e33 p4.Stock)),jI p4.Pack,jI p4.Bad])] [] 51 0) ?_
  obtain ⟨⟨r0_3,r1_4_3⟩,hx_46,h⟩:=bsome h
  refine rC (k43 p4 (-1) _ hx_46) ?_
  refine Au 6 (sT [(1,.d (.sl 9 (List.map e83 o))),(2,jI A),(4,jI r1_4),(6,jI r1_4_1),(8,jI r1_4_2),(10,jI r1_4_3)] [] 52 0) ?_
  refine RW.nil (hQ_45 _ ?_)
  refine AW.srwK (fun Q_47 hQ_47=>?_)
  refine Au 2 (sT [(1,.d (.sl 9 (List.map e83 o))),(2,jI A),(4,jI r1_4),(6,jI r1_4_1),(8,jI r1_4_2),(10,jI r1_4_3),(162,.d (.sl 9 (List.map e83 o))),(163,jI A)] [] 52 0) ?_
  refine RW.one fokW (r_iaD trivial rfl rfl hi_34 (row:=e83 p4) (mapget hp_34) (r_end ?_))
  refine Au 1 (sT [(1,.d (.sl 9 (List.map e83 o))),(2,jI A),(4,jI r1_4),(6,jI r1_4_1),(8,jI r1_4_2),(10,jI r1_4_3),(165,.agg [.d (.sl 4 (List.map e65 p4.Hair.Hanks)),.d (.sl 3 (List.map e67 p4.Hair.Horses)),jI p4.Hair.Dark,jI p4.Hair.Near,jI p4.Hair.Match,.d (.sl 1 (List.map e51 p4.Needs)),.d (.sl 2 (List.map e33 p4.Stock)),jI p4.Pack,jI p4.Bad])] [] 52 0) ?_
  obtain ⟨⟨r0_3_1,r1_4_4⟩,hx_48,h⟩:=bsome h
  refine rC (k44 p4 _ hx_48) ?_
  refine Au 5 (sT [(1,.d (.sl 9 (List.map e83 o))),(2,jI A),(4,jI r1_4),(6,jI r1_4_1),(8,jI r1_4_2),(10,jI r1_4_3),(12,jI r1_4_4)] [] 52 0) ?_
  refine RW.nil (hQ_47 _ ?_)
  refine AW.srwK (fun Q_49 hQ_49=>?_)
  refine Au 2 (sT [(1,.d (.sl 9 (List.map e83 o))),(2,jI A),(4,jI r1_4),(6,jI r1_4_1),(8,jI r1_4_2),(10,jI r1_4_3),(12,jI r1_4_4),(170,.d (.sl 9 (List.map e83 o))),(171,jI A)] [] 52 0) ?_
  refine RW.one fokW (r_iaD trivial rfl rfl hi_34 (row:=e83 p4) (mapget hp_34) (r_end ?_))
  refine Au 1 (sT [(1,.d (.sl 9 (List.map e83 o))),(2,jI A),(4,jI r1_4),(6,jI r1_4_1),(8,jI r1_4_2),(10,jI r1_4_3),(12,jI r1_4_4),(173,.agg [.d (.sl 4 (List.map e65 p4.Hair.Hanks)),.d (.sl 3 (List.map e67 p4.Hair.Horses)),jI p4.Hair.Dark,jI p4.Hair.Near,jI p4.Hair.Match,.d (.sl 1 (List.map e51 p4.Needs)),.d (.sl 2 (List.map e33 p4.Stock)),jI p4.Pack,jI p4.Bad])] [] 52 0) ?_
  obtain ⟨⟨r0_4_2,r1_4_5⟩,hx_50,h⟩:=bsome h
  refine rC (k45 p4 (-1) _ hx_50) ?_
  refine Au 6 (sT [(1,.d (.sl 9 (List.map e83 o))),(2,jI A),(4,jI r1_4),(6,jI r1_4_1),(8,jI r1_4_2),(10,jI r1_4_3),(12,jI r1_4_4),(14,jI r1_4_5)] [] 53 0) ?_
  refine RW.nil (hQ_49 _ ?_)
  refine AW.srwK (fun Q_51 hQ_51=>?_)
  refine Au 2 (sT [(1,.d (.sl 9 (List.map e83 o))),(2,jI A),(4,jI r1_4),(6,jI r1_4_1),(8,jI r1_4_2),(10,jI r1_4_3),(12,jI r1_4_4),(14,jI r1_4_5),(178,.d (.sl 9 (List.map e83 o))),(179,jI A)] [] 53 0) ?_
  refine RW.one fokW (r_iaD trivial rfl rfl hi_34 (row:=e83 p4) (mapget hp_34) (r_end ?_))
  refine Au 1 (sT [(1,.d (.sl 9 (List.map e83 o))),(2,jI A),(4,jI r1_4),(6,jI r1_4_1),(8,jI r1_4_2),(10,jI r1_4_3),(12,jI r1_4_4),(14,jI r1_4_5),(181,.agg [.d (.sl 4 (List.map e65 p4.Hair.Hanks)),.d (.sl 3 (List.map e67 p4.Hair.Horses)),jI p4.Hair.Dark,jI p4.Hair.Near,jI p4.Hair.Match,.d (.sl 1 (List.map e51 p4.Needs)),.d (.sl 2 (List.map e33 p4.Stock)),jI p4.Pack,jI p4.Bad])] [] 53 0) ?_
  obtain ⟨⟨r0_5_1,r1_5⟩,hx_52,h⟩:=bsome h
  refine rC (k46 p4 _ hx_52) ?_
  refine Au 5 (sT [(1,.d (.sl 9 (List.map e83 o))),(2,jI A),(4,jI r1_4),(6,jI r1_4_1),(8,jI r1_4_2),(10,jI r1_4_3),(12,jI r1_4_4),(14,jI r1_4_5),(16,jI r1_5)] [] 53 0) ?_
  refine RW.nil (hQ_51 _ ?_)
  refine AW.srwK (fun Q_53 hQ_53=>?_)
  refine Au 2 (sT [(1,.d (.sl 9 (List.map e83 o))),(2,jI A),(4,jI r1_4),(6,jI r1_4_1),(8,jI r1_4_2),(10,jI r1_4_3),(12,jI r1_4_4),(14,jI r1_4_5),(16,jI r1_5),(186,.d (.sl 9 (List.map e83 o))),(187,jI A)] [] 53 0) ?_
  refine RW.one fokW (r_iaD trivial rfl rfl hi_34 (row:=e83 p4) (mapget hp_34) (r_end ?_))
  refine Au 1 (sT [(1,.d (.sl 9 (List.map e83 o))),(2,jI A),(4,jI r1_4),(6,jI r1_4_1),(8,jI r1_4_2),(10,jI r1_4_3),(12,jI r1_4_4),(14,jI r1_4_5),(16,jI r1_5),(189,.agg [.d (.sl 4 (List.map e65 p4.Hair.Hanks)),.d (.sl 3 (List.map e67 p4.Hair.Horses)),jI p4.Hair.Dark,jI p4.Hair.Near,jI p4.Hair.Match,.d (.sl 1 (List.map e51 p4.Needs)),.d (.sl 2 (List.map e33 p4.Stock)),jI p4.Pack,jI p4.Bad])] [] 53 0) ?_
  obtain ⟨⟨r0_2_5,r1_4_6⟩,hx_54,h⟩:=bsome h
  refine rC (k47 p4 _ hx_54) ?_
  refine Au 5 (sT [(1,.d (.sl 9 (List.map e83 o))),(2,jI A),(4,jI r1_4),(6,jI r1_4_1),(8,jI r1_4_2),(10,jI r1_4_3),(12,jI r1_4_4),(14,jI r1_4_5),(16,jI r1_5),(18,jI r1_4_6)] [] 53 0) ?_
  refine RW.nil (hQ_53 _ ?_)
  refine AW.srwK (fun Q_55 hQ_55=>?_)
  refine Au 2 (sT [(1,.d (.sl 9 (List.map e83 o))),(2,jI A),(4,jI r1_4),(6,jI r1_4_1),(8,jI r1_4_2),(10,jI r1_4_3),(12,jI r1_4_4),(14,jI r1_4_5),(16,jI r1_5),(18,jI r1_4_6),(193,.d (.sl 9 (List.map e83 o))),(194,jI A)] [] 53 0) ?_
  refine RW.one fokW (r_iaD trivial rfl rfl hi_34 (row:=e83 p4) (mapget hp_34) (r_end ?_))
  refine Au 1 (sT [(1,.d (.sl 9 (List.map e83 o))),(2,jI A),(4,jI r1_4),(6,jI r1_4_1),(8,jI r1_4_2),(10,jI r1_4_3),(12,jI r1_4_4),(14,jI r1_4_5),(16,jI r1_5),(18,jI r1_4_6),(196,.agg [.d (.sl 4 (List.map e65 p4.Hair.Hanks)),.d (.sl 3 (List.map e67 p4.Hair.Horses)),jI p4.Hair.Dark,jI p4.Hair.Near,jI p4.Hair.Match,.d (.sl 1 (List.map e51 p4.Needs)),.d (.sl 2 (List.map e33 p4.Stock)),jI p4.Pack,jI p4.Bad])] [] 53 0) ?_
  obtain ⟨r0_6,hx_56,h⟩:=bsome h
  refine rC (k48 p4 _ hx_56) ?_
  refine RW.au fokW 33 [199,203,207,211,215,219,223,227] (sT [(1,.d (.sl 9 (List.map e83 o))),(2,jI A),(230,.d (.bool (((((((((decide (r0_6≠100))||(decide (r1_4≠100)))||(decide (r1_4_1≠100)))||(decide (r1_4_2≠100)))||(decide (r1_4_3≠100)))||(decide (r1_4_4≠100)))||(decide (r1_4_5≠100)))||(decide (r1_5≠100)))||(decide (r1_4_6≠100)))))] [] 53 0) (by kernel_rfl) ?_
  refine RW.nil (hQ_55 _ ?_)
  refine AW.cond rfl (fun hb_57=>?_) (fun hb_57=>?_)
  ·have h:=ifT hb_57 h
   refine Sa (sT [(0,.d (.bool false))] [] 53 0) ?_
   obtain rfl:=Option.some.inj h
   have e_1:=hb_34 _ rfl
   subst e_1
   obtain rfl:=Aft.bk hk_34
   exact rT hR_0 (.cons (.tmp rfl) .nil)
  ·have h:=ifF hb_57 h
   refine AW.skip (hK_38 _ ?_)
   refine Ra (sT [(1,.d (.sl 9 (List.map e83 o))),(2,jI (wr (A+1)))] [] 53 0) ?_
   obtain rfl:=Option.some.inj h
   have ew:wr (A+1)=A+1:=inext (N:=(o.length:Int)) (by omega) (by omega) (by omega)
   rw [ew]
   exact hK_34 _ _ rfl (Can.kp (by kernel_rfl))
 ·subst hout
  have h:=Aft.nx hk_34
  refine AW.seqK fun K_58 hK_58=>AW.srwK fun Q_59 hQ_59=>?_
  refine Au 2 (sT [(1,.d (.sl 9 (List.map e83 o))),(2,jI A),(123,jI A),(124,.d (.sl 9 (List.map e83 o)))] [] 50 0) ?_
  refine rL rfl ?_
  refine Au 1 (sT [(1,.d (.sl 9 (List.map e83 o))),(2,jI A),(126,.d (.bool (decide (A<(o.length:Int)))))] [] 50 0) ?_
  refine RW.nil (hQ_59 _ ?_)
  refine AW.cond rfl (fun hb_60=>False.elim (by have:=of_decide_eq_true hb_60;omega)) (fun hb_60=>?_)
  refine AW.exit ?_
  refine hK_32 _ ?_
  refine AW.srwK (fun Q_61 hQ_61=>?_)
  obtain ⟨r0_2_6,hx_62,h⟩:=bsome h
  refine rC (k39 _ hx_62) ?_
  obtain ⟨⟨r0_3_2,r1_4_7⟩,hx_63,h⟩:=bsome h
  refine rC (k43 r0_2_6 2 _ hx_63) ?_
  refine Au 6 (sT [(20,jI r1_4_7)] [] 51 0) ?_
  refine RW.nil (hQ_61 _ ?_)
  refine AW.srwK (fun Q_64 hQ_64=>?_)
  obtain ⟨r0_2_7,hx_65,h⟩:=bsome h
  refine rC (k39 _ hx_65) ?_
  obtain ⟨⟨r0_4_3,r1_4_8⟩,hx_66,h⟩:=bsome h
  refine rC (k45 r0_2_7 (-1) _ hx_66) ?_
  refine Au 6 (sT [(20,jI r1_4_7),(22,jI r1_4_8)] [] 52 0) ?_
  refine RW.nil (hQ_64 _ ?_)
  refine AW.srwK (fun Q_67 hQ_67=>?_)
  obtain ⟨r0_2_8,hx_68,h⟩:=bsome h
  refine rC (k39 _ hx_68) ?_
  obtain ⟨⟨r0_5_2,r1_5_1⟩,hx_69,h⟩:=bsome h
  refine rC (k46 r0_2_8 _ hx_69) ?_
  refine Au 5 (sT [(20,jI r1_4_7),(22,jI r1_4_8),(24,jI r1_5_1)] [] 52 0) ?_
  refine RW.nil (hQ_67 _ ?_)
  refine AW.srwK (fun Q_70 hQ_70=>?_)
  obtain ⟨r0_1_1,hx_71,h⟩:=bsome h
  refine rC (k49 _ hx_71) ?_
  obtain ⟨⟨r0_5_3,r1_5_2⟩,hx_72,h⟩:=bsome h
  refine rC (k46 r0_1_1 _ hx_72) ?_
  refine Au 5 (sT [(20,jI r1_4_7),(22,jI r1_4_8),(24,jI r1_5_1),(26,jI r1_5_2)] [] 52 0) ?_
  refine RW.nil (hQ_70 _ ?_)
  refine AW.seqK (fun K_73 hK_73=>?_)
  refine AW.sa fokW [253,257,261] (sT [(264,.d (.bool ((((decide (r1_4_7≠101))||(decide (r1_4_8≠101)))||(decide (r1_5_1≠4)))||(decide (r1_5_2≠4)))))] [] 52 0) (by kernel_rfl) ?_
  refine AW.cond rfl (fun hb_74=>?_) (fun hb_74=>?_)
  ·have h:=ifT hb_74 h
   refine Sa (sT [(0,.d (.bool false))] [] 52 0) ?_
   obtain rfl:=Option.some.inj h
   exact rT hR_0 (.cons (.tmp rfl) .nil)
  ·have h:=ifF hb_74 h
   refine AW.skip (hK_73 _ ?_)
   refine AW.srwK (fun Q_75 hQ_75=>?_)
   obtain ⟨r0_2_9,hx_76,h⟩:=bsome h
   refine rC (k39 _ hx_76) ?_
   obtain ⟨⟨r0_4_4,r1_4_9⟩,hx_77,h⟩:=bsome h
   refine rC (k41 r0_2_9 _ hx_77) ?_
   refine Au 5 (sT [(20,jI r1_4_9),(27,.d (.sl 1 (List.map e3 r0_4_4)))] [] 52 0) ?_
   refine RW.nil (hQ_75 _ ?_)
   refine AW.srwK (fun Q_78 hQ_78=>?_)
   obtain ⟨r0_1_2,hx_79,h⟩:=bsome h
   refine rC (k50 _ hx_79) ?_
   obtain ⟨⟨r0_4_5,r1_4_10⟩,hx_80,h⟩:=bsome h
   refine rC (k40 r0_1_2 _ hx_80) ?_
   refine Au 5 (sT [(20,jI r1_4_9),(22,jI r1_4_10),(27,.d (.sl 1 (List.map e3 r0_4_4))),(28,.d (.sl 1 (List.map e3 r0_4_5)))] [] 52 0) ?_
   refine RW.nil (hQ_78 _ ?_)
   refine AW.srwK (fun Q_81 hQ_81=>?_)
   obtain ⟨r0_1_3,hx_82,h⟩:=bsome h
   refine rC (k49 _ hx_82) ?_
   obtain ⟨⟨r0_4_6,r1_4_11⟩,hx_83,h⟩:=bsome h
   refine rC (k41 r0_1_3 _ hx_83) ?_
   refine Au 5 (sT [(20,jI r1_4_9),(22,jI r1_4_10),(24,jI r1_4_11),(27,.d (.sl 1 (List.map e3 r0_4_4))),(28,.d (.sl 1 (List.map e3 r0_4_5))),(29,.d (.sl 1 (List.map e3 r0_4_6)))] [] 52 0) ?_
   refine RW.nil (hQ_81 _ ?_)
   refine AW.srwK (fun Q_84 hQ_84=>?_)
   obtain ⟨r0_1_4,hx_85,h⟩:=bsome h
   refine rC (k50 _ hx_85) ?_
   obtain ⟨⟨r0_5_4,r1_4_12⟩,hx_86,h⟩:=bsome h
   refine rC (k42 r0_1_4 _ hx_86) ?_
   refine Au 6 (sT [(20,jI r1_4_9),(22,jI r1_4_10),(24,jI r1_4_11),(26,jI r1_4_12),(27,.d (.sl 1 (List.map e3 r0_4_4))),(28,.d (.sl 1 (List.map e3 r0_4_5))),(29,.d (.sl 1 (List.map e3 r0_4_6))),pR 30 52] [(52,.var 33 [jI r0_5_4.Low,jI r0_5_4.High])] 53 0) ?_
   refine RW.nil (hQ_84 _ ?_)
   refine AW.srwK (fun Q_87 hQ_87=>?_)
   obtain ⟨r0_1_5,hx_88,h⟩:=bsome h
   refine rC (k50 _ hx_88) ?_
   obtain ⟨⟨r0_3_3,r1_4_13⟩,hx_89,h⟩:=bsome h
   refine rC (k43 r0_1_5 1 _ hx_89) ?_
   refine Au 6 (sT [(20,jI r1_4_9),(22,jI r1_4_10),(24,jI r1_4_11),(26,jI r1_4_12),(27,.d (.sl 1 (List.map e3 r0_4_4))),(28,.d (.sl 1 (List.map e3 r0_4_5))),(29,.d (.sl 1 (List.map e3 r0_4_6))),pR 30 52,pR 31 53,(32,jI r1_4_13)] [(53,.var 33 [jI r0_3_3.Low,jI r0_3_3.High]),(52,.var 33 [jI r0_5_4.Low,jI r0_5_4.High])] 54 0) ?_
   refine RW.nil (hQ_87 _ ?_)
   refine AW.srwK (fun Q_90 hQ_90=>?_)
   obtain ⟨r0_1_6,hx_91,h⟩:=bsome h
   refine rC (k49 _ hx_91) ?_
   obtain ⟨⟨r0_3_4,r1_4_14⟩,hx_92,h⟩:=bsome h
   refine rC (k43 r0_1_6 1 _ hx_92) ?_
   refine Au 6 (sT [(20,jI r1_4_9),(22,jI r1_4_10),(24,jI r1_4_11),(26,jI r1_4_12),(27,.d (.sl 1 (List.map e3 r0_4_4))),(28,.d (.sl 1 (List.map e3 r0_4_5))),(29,.d (.sl 1 (List.map e3 r0_4_6))),pR 30 52,pR 31 53,(32,jI r1_4_13),pR 33 54,(34,jI r1_4_14)] [(54,.var 33 [jI r0_3_4.Low,jI r0_3_4.High]),(53,.var 33 [jI r0_3_3.Low,jI r0_3_3.High]),(52,.var 33 [jI r0_5_4.Low,jI r0_5_4.High])] 55 0) ?_
   refine RW.nil (hQ_90 _ ?_)
   refine AW.srwK (fun Q_93 hQ_93=>?_)
   obtain ⟨r0_2_10,hx_94,h⟩:=bsome h
   refine rC (k39 _ hx_94) ?_
   obtain ⟨⟨r0_3_5,r1_4_15⟩,hx_95,h⟩:=bsome h
   refine rC (k43 r0_2_10 0 _ hx_95) ?_
   refine Au 6 (sT [(20,jI r1_4_9),(22,jI r1_4_10),(24,jI r1_4_11),(26,jI r1_4_12),(27,.d (.sl 1 (List.map e3 r0_4_4))),(28,.d (.sl 1 (List.map e3 r0_4_5))),(29,.d (.sl 1 (List.map e3 r0_4_6))),pR 30 52,pR 31 53,(32,jI r1_4_13),pR 33 54,(34,jI r1_4_14),pR 35 55,(36,jI r1_4_15)] [(55,.var 33 [jI r0_3_5.Low,jI r0_3_5.High]),(54,.var 33 [jI r0_3_4.Low,jI r0_3_4.High]),(53,.var 33 [jI r0_3_3.Low,jI r0_3_3.High]),(52,.var 33 [jI r0_5_4.Low,jI r0_5_4.High])] 56 0) ?_
   refine RW.nil (hQ_93 _ ?_)
   obtain ⟨c_96,hx_96,hk_96⟩:=bsomeC h
   refine AW.jnK (fun (_:Unit)=>(sT [pR 30 52,pR 31 53,pR 33 54] [(54,.var 33 [jI r0_3_4.Low,jI r0_3_4.High]),(53,.var 33 [jI r0_3_3.Low,jI r0_3_3.High]),(52,.var 33 [jI r0_5_4.Low,jI r0_5_4.High])] 56 0)) (c:=c_96) (fun K_96 hK_96=>?_) (fun j_96 hj_96=>?_)
   ·have h:=hx_96
    obtain ⟨v,hx_97,h⟩:=bsome h
    refine AW.jnSK (fun (v:Bool)=>(sT [pR 30 52,pR 31 53,pR 33 54,(362,.d (.bool v))] [(54,.var 33 [jI r0_3_4.Low,jI r0_3_4.High]),(53,.var 33 [jI r0_3_3.Low,jI r0_3_3.High]),(52,.var 33 [jI r0_5_4.Low,jI r0_5_4.High])] 56 0)) (c:=v) (fun K_97 hK_97=>?_) ?_
    ·have h:=hx_97
     refine AW.drw fokW ?_
     refine aX 3 (sT [(22,jI r1_4_10),(24,jI r1_4_11),(26,jI r1_4_12),(27,.d (.sl 1 (List.map e3 r0_4_4))),(28,.d (.sl 1 (List.map e3 r0_4_5))),(29,.d (.sl 1 (List.map e3 r0_4_6))),pR 30 52,pR 31 53,(32,jI r1_4_13),pR 33 54,(34,jI r1_4_14),pR 35 55,(36,jI r1_4_15),(302,.d (.bool (decide (r1_4_9≠0))))] [(55,.var 33 [jI r0_3_5.Low,jI r0_3_5.High]),(54,.var 33 [jI r0_3_4.Low,jI r0_3_4.High]),(53,.var 33 [jI r0_3_3.Low,jI r0_3_3.High]),(52,.var 33 [jI r0_5_4.Low,jI r0_5_4.High])] 56 0) ?_
     refine r_split 302 rfl (fun hb_99=>?_) (fun hb_99=>?_)
     ·have h:=ifT hb_99 h
      refine aX 60 (sT [pR 30 52,pR 31 53,pR 33 54,(362,.d (.bool true))] [(55,.var 33 [jI r0_3_5.Low,jI r0_3_5.High]),(54,.var 33 [jI r0_3_4.Low,jI r0_3_4.High]),(53,.var 33 [jI r0_3_3.Low,jI r0_3_3.High]),(52,.var 33 [jI r0_5_4.Low,jI r0_5_4.High])] 56 0) ?_
      refine RunC.fin2 (sT [pR 30 52,pR 31 53,pR 33 54,(362,.d (.bool true))] [(54,.var 33 [jI r0_3_4.Low,jI r0_3_4.High]),(53,.var 33 [jI r0_3_3.Low,jI r0_3_3.High]),(52,.var 33 [jI r0_5_4.Low,jI r0_5_4.High])] 56 0) (by kernel_rfl) (by kernel_rfl) ?_
      obtain rfl:=Option.some.inj h
      exact hK_97 _ (Can.kp (by kernel_rfl))
     ·have h:=ifF hb_99 h
      refine aX 2 (sT [(22,jI r1_4_10),(24,jI r1_4_11),(26,jI r1_4_12),(28,.d (.sl 1 (List.map e3 r0_4_5))),(29,.d (.sl 1 (List.map e3 r0_4_6))),pR 30 52,pR 31 53,(32,jI r1_4_13),pR 33 54,(34,jI r1_4_14),pR 35 55,(36,jI r1_4_15),(302,.d (.bool false)),(303,.d (.sl 1 (List.map e3 r0_4_4))),(304,.own 56 (List.map e3 [0]).length)] [(56,.row 3 1 (List.map e3 [0])),(55,.var 33 [jI r0_3_5.Low,jI r0_3_5.High]),(54,.var 33 [jI r0_3_4.Low,jI r0_3_4.High]),(53,.var 33 [jI r0_3_3.Low,jI r0_3_3.High]),(52,.var 33 [jI r0_5_4.Low,jI r0_5_4.High])] 57 0) ?_
      obtain ⟨r0_7,hx_100,h⟩:=bsome h
      refine r_callF (rs:=[(56,.row 3 1 (List.map e3 [0]))]) rfl rfl (k37 r0_4_4 [0] _ hx_100) ⟨rfl,trivial⟩ ⟨.refl _,(.own rfl rfl),trivial⟩ rfl rfl rfl ?_
      refine aX 3 (sT [(22,jI r1_4_10),(24,jI r1_4_11),(26,jI r1_4_12),(28,.d (.sl 1 (List.map e3 r0_4_5))),(29,.d (.sl 1 (List.map e3 r0_4_6))),pR 30 52,pR 31 53,(32,jI r1_4_13),pR 33 54,(34,jI r1_4_14),pR 35 55,(36,jI r1_4_15),(308,.d (.bool (!r0_7)))] [(56,.row 3 1 (List.map e3 [0])),(55,.var 33 [jI r0_3_5.Low,jI r0_3_5.High]),(54,.var 33 [jI r0_3_4.Low,jI r0_3_4.High]),(53,.var 33 [jI r0_3_3.Low,jI r0_3_3.High]),(52,.var 33 [jI r0_5_4.Low,jI r0_5_4.High])] 57 0) ?_
      refine r_split 308 rfl (fun hb_101=>?_) (fun hb_101=>?_)
      ·have h:=ifT hb_101 h
       refine aX 54 (sT [pR 30 52,pR 31 53,pR 33 54,(362,.d (.bool true))] [(56,.row 3 1 (List.map e3 [0])),(55,.var 33 [jI r0_3_5.Low,jI r0_3_5.High]),(54,.var 33 [jI r0_3_4.Low,jI r0_3_4.High]),(53,.var 33 [jI r0_3_3.Low,jI r0_3_3.High]),(52,.var 33 [jI r0_5_4.Low,jI r0_5_4.High])] 57 0) ?_
       refine RunC.fin2 (sT [pR 30 52,pR 31 53,pR 33 54,(362,.d (.bool true))] [(54,.var 33 [jI r0_3_4.Low,jI r0_3_4.High]),(53,.var 33 [jI r0_3_3.Low,jI r0_3_3.High]),(52,.var 33 [jI r0_5_4.Low,jI r0_5_4.High])] 57 0) (by kernel_rfl) (by kernel_rfl) ?_
       obtain rfl:=Option.some.inj h
       exact hK_97 _ (Can.kp (by kernel_rfl))
      ·have h:=ifF hb_101 h
       refine aX 4 (sT [(24,jI r1_4_11),(26,jI r1_4_12),(28,.d (.sl 1 (List.map e3 r0_4_5))),(29,.d (.sl 1 (List.map e3 r0_4_6))),pR 30 52,pR 31 53,(32,jI r1_4_13),pR 33 54,(34,jI r1_4_14),pR 35 55,(36,jI r1_4_15),(312,.d (.bool (decide (r1_4_10≠0))))] [(56,.row 3 1 (List.map e3 [0])),(55,.var 33 [jI r0_3_5.Low,jI r0_3_5.High]),(54,.var 33 [jI r0_3_4.Low,jI r0_3_4.High]),(53,.var 33 [jI r0_3_3.Low,jI r0_3_3.High]),(52,.var 33 [jI r0_5_4.Low,jI r0_5_4.High])] 57 0) ?_
       refine r_split 312 rfl (fun hb_102=>?_) (fun hb_102=>?_)
       ·have h:=ifT hb_102 h
        refine aX 50 (sT [pR 30 52,pR 31 53,pR 33 54,(362,.d (.bool true))] [(56,.row 3 1 (List.map e3 [0])),(55,.var 33 [jI r0_3_5.Low,jI r0_3_5.High]),(54,.var 33 [jI r0_3_4.Low,jI r0_3_4.High]),(53,.var 33 [jI r0_3_3.Low,jI r0_3_3.High]),(52,.var 33 [jI r0_5_4.Low,jI r0_5_4.High])] 57 0) ?_
        refine RunC.fin2 (sT [pR 30 52,pR 31 53,pR 33 54,(362,.d (.bool true))] [(54,.var 33 [jI r0_3_4.Low,jI r0_3_4.High]),(53,.var 33 [jI r0_3_3.Low,jI r0_3_3.High]),(52,.var 33 [jI r0_5_4.Low,jI r0_5_4.High])] 57 0) (by kernel_rfl) (by kernel_rfl) ?_
        obtain rfl:=Option.some.inj h
        exact hK_97 _ (Can.kp (by kernel_rfl))
       ·have h:=ifF hb_102 h
        refine aX 1 (sT [(24,jI r1_4_11),(26,jI r1_4_12),(29,.d (.sl 1 (List.map e3 r0_4_6))),pR 30 52,pR 31 53,(32,jI r1_4_13),pR 33 54,(34,jI r1_4_14),pR 35 55,(36,jI r1_4_15),(312,.d (.bool false)),(313,.d (.sl 1 (List.map e3 r0_4_5)))] [(56,.row 3 1 (List.map e3 [0])),(55,.var 33 [jI r0_3_5.Low,jI r0_3_5.High]),(54,.var 33 [jI r0_3_4.Low,jI r0_3_4.High]),(53,.var 33 [jI r0_3_3.Low,jI r0_3_3.High]),(52,.var 33 [jI r0_5_4.Low,jI r0_5_4.High])] 57 0) ?_
        refine r_lenX rfl rfl lenm ?_
        refine aX 3 (sT [(24,jI r1_4_11),(26,jI r1_4_12),(29,.d (.sl 1 (List.map e3 r0_4_6))),pR 30 52,pR 31 53,(32,jI r1_4_13),pR 33 54,(34,jI r1_4_14),pR 35 55,(36,jI r1_4_15),(317,.d (.bool (decide ((r0_4_5.length:Int)≠0))))] [(56,.row 3 1 (List.map e3 [0])),(55,.var 33 [jI r0_3_5.Low,jI r0_3_5.High]),(54,.var 33 [jI r0_3_4.Low,jI r0_3_4.High]),(53,.var 33 [jI r0_3_3.Low,jI r0_3_3.High]),(52,.var 33 [jI r0_5_4.Low,jI r0_5_4.High])] 57 0) ?_
        refine r_split 317 rfl (fun hb_103=>?_) (fun hb_103=>?_)
        ·have h:=ifT hb_103 h
         refine aX 45 (sT [pR 30 52,pR 31 53,pR 33 54,(362,.d (.bool true))] [(56,.row 3 1 (List.map e3 [0])),(55,.var 33 [jI r0_3_5.Low,jI r0_3_5.High]),(54,.var 33 [jI r0_3_4.Low,jI r0_3_4.High]),(53,.var 33 [jI r0_3_3.Low,jI r0_3_3.High]),(52,.var 33 [jI r0_5_4.Low,jI r0_5_4.High])] 57 0) ?_
         refine RunC.fin2 (sT [pR 30 52,pR 31 53,pR 33 54,(362,.d (.bool true))] [(54,.var 33 [jI r0_3_4.Low,jI r0_3_4.High]),(53,.var 33 [jI r0_3_3.Low,jI r0_3_3.High]),(52,.var 33 [jI r0_5_4.Low,jI r0_5_4.High])] 57 0) (by kernel_rfl) (by kernel_rfl) ?_
         obtain rfl:=Option.some.inj h
         exact hK_97 _ (Can.kp (by kernel_rfl))
        ·have h:=ifF hb_103 h
         refine aX 4 (sT [(26,jI r1_4_12),(29,.d (.sl 1 (List.map e3 r0_4_6))),pR 30 52,pR 31 53,(32,jI r1_4_13),pR 33 54,(34,jI r1_4_14),pR 35 55,(36,jI r1_4_15),(321,.d (.bool (decide (r1_4_11≠0))))] [(56,.row 3 1 (List.map e3 [0])),(55,.var 33 [jI r0_3_5.Low,jI r0_3_5.High]),(54,.var 33 [jI r0_3_4.Low,jI r0_3_4.High]),(53,.var 33 [jI r0_3_3.Low,jI r0_3_3.High]),(52,.var 33 [jI r0_5_4.Low,jI r0_5_4.High])] 57 0) ?_
         refine r_split 321 rfl (fun hb_104=>?_) (fun hb_104=>?_)
         ·have h:=ifT hb_104 h
          refine aX 41 (sT [pR 30 52,pR 31 53,pR 33 54,(362,.d (.bool true))] [(56,.row 3 1 (List.map e3 [0])),(55,.var 33 [jI r0_3_5.Low,jI r0_3_5.High]),(54,.var 33 [jI r0_3_4.Low,jI r0_3_4.High]),(53,.var 33 [jI r0_3_3.Low,jI r0_3_3.High]),(52,.var 33 [jI r0_5_4.Low,jI r0_5_4.High])] 57 0) ?_
          refine RunC.fin2 (sT [pR 30 52,pR 31 53,pR 33 54,(362,.d (.bool true))] [(54,.var 33 [jI r0_3_4.Low,jI r0_3_4.High]),(53,.var 33 [jI r0_3_3.Low,jI r0_3_3.High]),(52,.var 33 [jI r0_5_4.Low,jI r0_5_4.High])] 57 0) (by kernel_rfl) (by kernel_rfl) ?_
          obtain rfl:=Option.some.inj h
          exact hK_97 _ (Can.kp (by kernel_rfl))
         ·have h:=ifF hb_104 h
          refine aX 2 (sT [(26,jI r1_4_12),pR 30 52,pR 31 53,(32,jI r1_4_13),pR 33 54,(34,jI r1_4_14),pR 35 55,(36,jI r1_4_15),(321,.d (.bool false)),(322,.d (.sl 1 (List.map e3 r0_4_6))),(323,.own 57 (List.map e3 [1]).length)] [(57,.row 3 1 (List.map e3 [1])),(56,.row 3 1 (List.map e3 [0])),(55,.var 33 [jI r0_3_5.Low,jI r0_3_5.High]),(54,.var 33 [jI r0_3_4.Low,jI r0_3_4.High]),(53,.var 33 [jI r0_3_3.Low,jI r0_3_3.High]),(52,.var 33 [jI r0_5_4.Low,jI r0_5_4.High])] 58 0) ?_
          obtain ⟨r0_8,hx_105,h⟩:=bsome h
          refine r_callF (rs:=[(57,.row 3 1 (List.map e3 [1]))]) rfl rfl (k37 r0_4_6 [1] _ hx_105) ⟨rfl,trivial⟩ ⟨.refl _,(.own rfl rfl),trivial⟩ rfl rfl rfl ?_
          refine aX 3 (sT [(26,jI r1_4_12),pR 30 52,pR 31 53,(32,jI r1_4_13),pR 33 54,(34,jI r1_4_14),pR 35 55,(36,jI r1_4_15),(327,.d (.bool (!r0_8)))] [(57,.row 3 1 (List.map e3 [1])),(56,.row 3 1 (List.map e3 [0])),(55,.var 33 [jI r0_3_5.Low,jI r0_3_5.High]),(54,.var 33 [jI r0_3_4.Low,jI r0_3_4.High]),(53,.var 33 [jI r0_3_3.Low,jI r0_3_3.High]),(52,.var 33 [jI r0_5_4.Low,jI r0_5_4.High])] 58 0) ?_
          refine r_split 327 rfl (fun hb_106=>?_) (fun hb_106=>?_)
          ·have h:=ifT hb_106 h
           refine aX 35 (sT [pR 30 52,pR 31 53,pR 33 54,(362,.d (.bool true))] [(57,.row 3 1 (List.map e3 [1])),(56,.row 3 1 (List.map e3 [0])),(55,.var 33 [jI r0_3_5.Low,jI r0_3_5.High]),(54,.var 33 [jI r0_3_4.Low,jI r0_3_4.High]),(53,.var 33 [jI r0_3_3.Low,jI r0_3_3.High]),(52,.var 33 [jI r0_5_4.Low,jI r0_5_4.High])] 58 0) ?_
           refine RunC.fin2 (sT [pR 30 52,pR 31 53,pR 33 54,(362,.d (.bool true))] [(54,.var 33 [jI r0_3_4.Low,jI r0_3_4.High]),(53,.var 33 [jI r0_3_3.Low,jI r0_3_3.High]),(52,.var 33 [jI r0_5_4.Low,jI r0_5_4.High])] 58 0) (by kernel_rfl) (by kernel_rfl) ?_
           obtain rfl:=Option.some.inj h
           exact hK_97 _ (Can.kp (by kernel_rfl))
          ·have h:=ifF hb_106 h
           refine aX 4 (sT [pR 30 52,pR 31 53,(32,jI r1_4_13),pR 33 54,(34,jI r1_4_14),pR 35 55,(36,jI r1_4_15),(331,.d (.bool (decide (r1_4_12≠0))))] [(57,.row 3 1 (List.map e3 [1])),(56,.row 3 1 (List.map e3 [0])),(55,.var 33 [jI r0_3_5.Low,jI r0_3_5.High]),(54,.var 33 [jI r0_3_4.Low,jI r0_3_4.High]),(53,.var 33 [jI r0_3_3.Low,jI r0_3_3.High]),(52,.var 33 [jI r0_5_4.Low,jI r0_5_4.High])] 58 0) ?_
           refine r_split 331 rfl (fun hb_107=>?_) (fun hb_107=>?_)
           ·have h:=ifT hb_107 h
            refine aX 31 (sT [pR 30 52,pR 31 53,pR 33 54,(362,.d (.bool true))] [(57,.row 3 1 (List.map e3 [1])),(56,.row 3 1 (List.map e3 [0])),(55,.var 33 [jI r0_3_5.Low,jI r0_3_5.High]),(54,.var 33 [jI r0_3_4.Low,jI r0_3_4.High]),(53,.var 33 [jI r0_3_3.Low,jI r0_3_3.High]),(52,.var 33 [jI r0_5_4.Low,jI r0_5_4.High])] 58 0) ?_
            refine RunC.fin2 (sT [pR 30 52,pR 31 53,pR 33 54,(362,.d (.bool true))] [(54,.var 33 [jI r0_3_4.Low,jI r0_3_4.High]),(53,.var 33 [jI r0_3_3.Low,jI r0_3_3.High]),(52,.var 33 [jI r0_5_4.Low,jI r0_5_4.High])] 58 0) (by kernel_rfl) (by kernel_rfl) ?_
            obtain rfl:=Option.some.inj h
            exact hK_97 _ (Can.kp (by kernel_rfl))
           ·have h:=ifF hb_107 h
            refine aX 1 (sT [pR 30 52,pR 31 53,(32,jI r1_4_13),pR 33 54,(34,jI r1_4_14),pR 35 55,(36,jI r1_4_15),(331,.d (.bool false)),(332,.agg [jI r0_5_4.Low,jI r0_5_4.High])] [(57,.row 3 1 (List.map e3 [1])),(56,.row 3 1 (List.map e3 [0])),(55,.var 33 [jI r0_3_5.Low,jI r0_3_5.High]),(54,.var 33 [jI r0_3_4.Low,jI r0_3_4.High]),(53,.var 33 [jI r0_3_3.Low,jI r0_3_3.High]),(52,.var 33 [jI r0_5_4.Low,jI r0_5_4.High])] 58 0) ?_
            obtain ⟨r0_9,hx_108,h⟩:=bsome h
            refine r_call rfl rfl (k24 1 _ hx_108) rfl rfl ?_
            refine r_aeq rfl rfl rfl rfl rfl ft33 rfl rfl rfl ?_
            refine aX 2 (sT [pR 30 52,pR 31 53,(32,jI r1_4_13),pR 33 54,(34,jI r1_4_14),pR 35 55,(36,jI r1_4_15),(336,.d (.bool (true != ((r0_5_4.Low==r0_9.Low)&&((r0_5_4.High==r0_9.High)&&true)))))] [(57,.row 3 1 (List.map e3 [1])),(56,.row 3 1 (List.map e3 [0])),(55,.var 33 [jI r0_3_5.Low,jI r0_3_5.High]),(54,.var 33 [jI r0_3_4.Low,jI r0_3_4.High]),(53,.var 33 [jI r0_3_3.Low,jI r0_3_3.High]),(52,.var 33 [jI r0_5_4.Low,jI r0_5_4.High])] 58 0) ?_
            refine r_split 336 rfl (fun hb_109=>?_) (fun hb_109=>?_)
            ·have h:=ifT hb_109 h
             refine aX 26 (sT [pR 30 52,pR 31 53,pR 33 54,(362,.d (.bool true))] [(57,.row 3 1 (List.map e3 [1])),(56,.row 3 1 (List.map e3 [0])),(55,.var 33 [jI r0_3_5.Low,jI r0_3_5.High]),(54,.var 33 [jI r0_3_4.Low,jI r0_3_4.High]),(53,.var 33 [jI r0_3_3.Low,jI r0_3_3.High]),(52,.var 33 [jI r0_5_4.Low,jI r0_5_4.High])] 58 0) ?_
             refine RunC.fin2 (sT [pR 30 52,pR 31 53,pR 33 54,(362,.d (.bool true))] [(54,.var 33 [jI r0_3_4.Low,jI r0_3_4.High]),(53,.var 33 [jI r0_3_3.Low,jI r0_3_3.High]),(52,.var 33 [jI r0_5_4.Low,jI r0_5_4.High])] 58 0) (by kernel_rfl) (by kernel_rfl) ?_
             obtain rfl:=Option.some.inj h
             exact hK_97 _ (Can.kp (by kernel_rfl))
            ·have h:=ifF hb_109 h
             refine aX 4 (sT [pR 30 52,pR 31 53,pR 33 54,(34,jI r1_4_14),pR 35 55,(36,jI r1_4_15),(340,.d (.bool (decide (r1_4_13≠0))))] [(57,.row 3 1 (List.map e3 [1])),(56,.row 3 1 (List.map e3 [0])),(55,.var 33 [jI r0_3_5.Low,jI r0_3_5.High]),(54,.var 33 [jI r0_3_4.Low,jI r0_3_4.High]),(53,.var 33 [jI r0_3_3.Low,jI r0_3_3.High]),(52,.var 33 [jI r0_5_4.Low,jI r0_5_4.High])] 58 0) ?_
             refine r_split 340 rfl (fun hb_110=>?_) (fun hb_110=>?_)
             ·have h:=ifT hb_110 h
              refine aX 22 (sT [pR 30 52,pR 31 53,pR 33 54,(362,.d (.bool true))] [(57,.row 3 1 (List.map e3 [1])),(56,.row 3 1 (List.map e3 [0])),(55,.var 33 [jI r0_3_5.Low,jI r0_3_5.High]),(54,.var 33 [jI r0_3_4.Low,jI r0_3_4.High]),(53,.var 33 [jI r0_3_3.Low,jI r0_3_3.High]),(52,.var 33 [jI r0_5_4.Low,jI r0_5_4.High])] 58 0) ?_
              refine RunC.fin2 (sT [pR 30 52,pR 31 53,pR 33 54,(362,.d (.bool true))] [(54,.var 33 [jI r0_3_4.Low,jI r0_3_4.High]),(53,.var 33 [jI r0_3_3.Low,jI r0_3_3.High]),(52,.var 33 [jI r0_5_4.Low,jI r0_5_4.High])] 58 0) (by kernel_rfl) (by kernel_rfl) ?_
              obtain rfl:=Option.some.inj h
              exact hK_97 _ (Can.kp (by kernel_rfl))
             ·have h:=ifF hb_110 h
              refine aX 1 (sT [pR 30 52,pR 31 53,pR 33 54,(34,jI r1_4_14),pR 35 55,(36,jI r1_4_15),(340,.d (.bool false)),(341,.agg [jI r0_3_3.Low,jI r0_3_3.High])] [(57,.row 3 1 (List.map e3 [1])),(56,.row 3 1 (List.map e3 [0])),(55,.var 33 [jI r0_3_5.Low,jI r0_3_5.High]),(54,.var 33 [jI r0_3_4.Low,jI r0_3_4.High]),(53,.var 33 [jI r0_3_3.Low,jI r0_3_3.High]),(52,.var 33 [jI r0_5_4.Low,jI r0_5_4.High])] 58 0) ?_
              obtain ⟨r0_10,hx_111,h⟩:=bsome h
              refine r_call rfl rfl (k10 2 3 _ hx_111) rfl rfl ?_
              refine r_aeq rfl rfl rfl rfl rfl ft33 rfl rfl rfl ?_
              refine aX 2 (sT [pR 30 52,pR 31 53,pR 33 54,(34,jI r1_4_14),pR 35 55,(36,jI r1_4_15),(345,.d (.bool (true != ((r0_3_3.Low==r0_10.Low)&&((r0_3_3.High==r0_10.High)&&true)))))] [(57,.row 3 1 (List.map e3 [1])),(56,.row 3 1 (List.map e3 [0])),(55,.var 33 [jI r0_3_5.Low,jI r0_3_5.High]),(54,.var 33 [jI r0_3_4.Low,jI r0_3_4.High]),(53,.var 33 [jI r0_3_3.Low,jI r0_3_3.High]),(52,.var 33 [jI r0_5_4.Low,jI r0_5_4.High])] 58 0) ?_
              refine r_split 345 rfl (fun hb_112=>?_) (fun hb_112=>?_)
              ·have h:=ifT hb_112 h
               refine aX 17 (sT [pR 30 52,pR 31 53,pR 33 54,(362,.d (.bool true))] [(57,.row 3 1 (List.map e3 [1])),(56,.row 3 1 (List.map e3 [0])),(55,.var 33 [jI r0_3_5.Low,jI r0_3_5.High]),(54,.var 33 [jI r0_3_4.Low,jI r0_3_4.High]),(53,.var 33 [jI r0_3_3.Low,jI r0_3_3.High]),(52,.var 33 [jI r0_5_4.Low,jI r0_5_4.High])] 58 0) ?_
               refine RunC.fin2 (sT [pR 30 52,pR 31 53,pR 33 54,(362,.d (.bool true))] [(54,.var 33 [jI r0_3_4.Low,jI r0_3_4.High]),(53,.var 33 [jI r0_3_3.Low,jI r0_3_3.High]),(52,.var 33 [jI r0_5_4.Low,jI r0_5_4.High])] 58 0) (by kernel_rfl) (by kernel_rfl) ?_
               obtain rfl:=Option.some.inj h
               exact hK_97 _ (Can.kp (by kernel_rfl))
              ·have h:=ifF hb_112 h
               refine aX 4 (sT [pR 30 52,pR 31 53,pR 33 54,pR 35 55,(36,jI r1_4_15),(349,.d (.bool (decide (r1_4_14≠0))))] [(57,.row 3 1 (List.map e3 [1])),(56,.row 3 1 (List.map e3 [0])),(55,.var 33 [jI r0_3_5.Low,jI r0_3_5.High]),(54,.var 33 [jI r0_3_4.Low,jI r0_3_4.High]),(53,.var 33 [jI r0_3_3.Low,jI r0_3_3.High]),(52,.var 33 [jI r0_5_4.Low,jI r0_5_4.High])] 58 0) ?_
               refine r_split 349 rfl (fun hb_113=>?_) (fun hb_113=>?_)
               ·have h:=ifT hb_113 h
                refine aX 13 (sT [pR 30 52,pR 31 53,pR 33 54,(362,.d (.bool true))] [(57,.row 3 1 (List.map e3 [1])),(56,.row 3 1 (List.map e3 [0])),(55,.var 33 [jI r0_3_5.Low,jI r0_3_5.High]),(54,.var 33 [jI r0_3_4.Low,jI r0_3_4.High]),(53,.var 33 [jI r0_3_3.Low,jI r0_3_3.High]),(52,.var 33 [jI r0_5_4.Low,jI r0_5_4.High])] 58 0) ?_
                refine RunC.fin2 (sT [pR 30 52,pR 31 53,pR 33 54,(362,.d (.bool true))] [(54,.var 33 [jI r0_3_4.Low,jI r0_3_4.High]),(53,.var 33 [jI r0_3_3.Low,jI r0_3_3.High]),(52,.var 33 [jI r0_5_4.Low,jI r0_5_4.High])] 58 0) (by kernel_rfl) (by kernel_rfl) ?_
                obtain rfl:=Option.some.inj h
                exact hK_97 _ (Can.kp (by kernel_rfl))
               ·have h:=ifF hb_113 h
                refine aX 1 (sT [pR 30 52,pR 31 53,pR 33 54,pR 35 55,(36,jI r1_4_15),(349,.d (.bool false)),(350,.agg [jI r0_3_4.Low,jI r0_3_4.High])] [(57,.row 3 1 (List.map e3 [1])),(56,.row 3 1 (List.map e3 [0])),(55,.var 33 [jI r0_3_5.Low,jI r0_3_5.High]),(54,.var 33 [jI r0_3_4.Low,jI r0_3_4.High]),(53,.var 33 [jI r0_3_3.Low,jI r0_3_3.High]),(52,.var 33 [jI r0_5_4.Low,jI r0_5_4.High])] 58 0) ?_
                obtain ⟨r0_11,hx_114,h⟩:=bsome h
                refine r_call rfl rfl (k24 0 _ hx_114) rfl rfl ?_
                refine r_aeq rfl rfl rfl rfl rfl ft33 rfl rfl rfl ?_
                refine aX 2 (sT [pR 30 52,pR 31 53,pR 33 54,pR 35 55,(36,jI r1_4_15),(354,.d (.bool (true != ((r0_3_4.Low==r0_11.Low)&&((r0_3_4.High==r0_11.High)&&true)))))] [(57,.row 3 1 (List.map e3 [1])),(56,.row 3 1 (List.map e3 [0])),(55,.var 33 [jI r0_3_5.Low,jI r0_3_5.High]),(54,.var 33 [jI r0_3_4.Low,jI r0_3_4.High]),(53,.var 33 [jI r0_3_3.Low,jI r0_3_3.High]),(52,.var 33 [jI r0_5_4.Low,jI r0_5_4.High])] 58 0) ?_
                refine r_split 354 rfl (fun hb_115=>?_) (fun hb_115=>?_)
                ·have h:=ifT hb_115 h
                 refine aX 8 (sT [pR 30 52,pR 31 53,pR 33 54,(362,.d (.bool true))] [(57,.row 3 1 (List.map e3 [1])),(56,.row 3 1 (List.map e3 [0])),(55,.var 33 [jI r0_3_5.Low,jI r0_3_5.High]),(54,.var 33 [jI r0_3_4.Low,jI r0_3_4.High]),(53,.var 33 [jI r0_3_3.Low,jI r0_3_3.High]),(52,.var 33 [jI r0_5_4.Low,jI r0_5_4.High])] 58 0) ?_
                 refine RunC.fin2 (sT [pR 30 52,pR 31 53,pR 33 54,(362,.d (.bool true))] [(54,.var 33 [jI r0_3_4.Low,jI r0_3_4.High]),(53,.var 33 [jI r0_3_3.Low,jI r0_3_3.High]),(52,.var 33 [jI r0_5_4.Low,jI r0_5_4.High])] 58 0) (by kernel_rfl) (by kernel_rfl) ?_
                 obtain rfl:=Option.some.inj h
                 exact hK_97 _ (Can.kp (by kernel_rfl))
                ·have h:=ifF hb_115 h
                 refine aX 4 (sT [pR 30 52,pR 31 53,pR 33 54,pR 35 55,(358,.d (.bool (decide (r1_4_15≠0))))] [(57,.row 3 1 (List.map e3 [1])),(56,.row 3 1 (List.map e3 [0])),(55,.var 33 [jI r0_3_5.Low,jI r0_3_5.High]),(54,.var 33 [jI r0_3_4.Low,jI r0_3_4.High]),(53,.var 33 [jI r0_3_3.Low,jI r0_3_3.High]),(52,.var 33 [jI r0_5_4.Low,jI r0_5_4.High])] 58 0) ?_
                 refine r_split 358 rfl (fun hb_116=>?_) (fun hb_116=>?_)
                 ·have h:=ifT hb_116 h
                  refine aX 4 (sT [pR 30 52,pR 31 53,pR 33 54,(362,.d (.bool true))] [(57,.row 3 1 (List.map e3 [1])),(56,.row 3 1 (List.map e3 [0])),(55,.var 33 [jI r0_3_5.Low,jI r0_3_5.High]),(54,.var 33 [jI r0_3_4.Low,jI r0_3_4.High]),(53,.var 33 [jI r0_3_3.Low,jI r0_3_3.High]),(52,.var 33 [jI r0_5_4.Low,jI r0_5_4.High])] 58 0) ?_
                  refine RunC.fin2 (sT [pR 30 52,pR 31 53,pR 33 54,(362,.d (.bool true))] [(54,.var 33 [jI r0_3_4.Low,jI r0_3_4.High]),(53,.var 33 [jI r0_3_3.Low,jI r0_3_3.High]),(52,.var 33 [jI r0_5_4.Low,jI r0_5_4.High])] 58 0) (by kernel_rfl) (by kernel_rfl) ?_
                  obtain rfl:=Option.some.inj h
                  exact hK_97 _ (Can.kp (by kernel_rfl))
                 ·have h:=ifF hb_116 h
                  refine aX 1 (sT [pR 30 52,pR 31 53,pR 33 54,(358,.d (.bool false)),(359,.agg [jI r0_3_5.Low,jI r0_3_5.High])] [(57,.row 3 1 (List.map e3 [1])),(56,.row 3 1 (List.map e3 [0])),(55,.var 33 [jI r0_3_5.Low,jI r0_3_5.High]),(54,.var 33 [jI r0_3_4.Low,jI r0_3_4.High]),(53,.var 33 [jI r0_3_3.Low,jI r0_3_3.High]),(52,.var 33 [jI r0_5_4.Low,jI r0_5_4.High])] 58 0) ?_
                  obtain ⟨r0_12,hx_117,h⟩:=bsome h
                  refine r_call rfl rfl (k24 0 _ hx_117) rfl rfl ?_
                  refine r_aeq rfl rfl rfl rfl rfl ft33 rfl rfl rfl ?_
                  refine aX 1 (sT [pR 30 52,pR 31 53,pR 33 54,(362,.d (.bool (true != ((r0_3_5.Low==r0_12.Low)&&((r0_3_5.High==r0_12.High)&&true)))))] [(57,.row 3 1 (List.map e3 [1])),(56,.row 3 1 (List.map e3 [0])),(55,.var 33 [jI r0_3_5.Low,jI r0_3_5.High]),(54,.var 33 [jI r0_3_4.Low,jI r0_3_4.High]),(53,.var 33 [jI r0_3_3.Low,jI r0_3_3.High]),(52,.var 33 [jI r0_5_4.Low,jI r0_5_4.High])] 58 0) ?_
                  refine RunC.fin2 (sT [pR 30 52,pR 31 53,pR 33 54,(362,.d (.bool (true != ((r0_3_5.Low==r0_12.Low)&&((r0_3_5.High==r0_12.High)&&true)))))] [(54,.var 33 [jI r0_3_4.Low,jI r0_3_4.High]),(53,.var 33 [jI r0_3_3.Low,jI r0_3_3.High]),(52,.var 33 [jI r0_5_4.Low,jI r0_5_4.High])] 58 0) (by kernel_rfl) (by kernel_rfl) ?_
                  obtain rfl:=Option.some.inj h
                  exact hK_97 _ (Can.kp (by kernel_rfl))
    ·refine AW.cond rfl (fun hb_118=>?_) (fun hb_118=>?_)
     ·have h:=ifT hb_118 h
      refine Sa (sT [(0,.d (.bool false))] [] 56 0) ?_
      obtain rfl:=Option.some.inj h
      obtain rfl:=Aft.bk hk_96
      exact rT hR_0 (.cons (.tmp rfl) .nil)
     ·have h:=ifF hb_118 h
      refine AW.skip ?_
      obtain rfl:=Option.some.inj h
      exact hK_96 _ _ rfl (Can.kp (by kernel_rfl))
   ·subst hj_96
    have h:=Aft.nx hk_96
    refine AW.srwK (fun Q_119 hQ_119=>?_)
    obtain ⟨r0_1_7,hx_120,h⟩:=bsome h
    refine rC (k50 _ hx_120) ?_
    obtain ⟨⟨r0_3_6,r1_4_16⟩,hx_121,h⟩:=bsome h
    refine rC (k44 r0_1_7 _ hx_121) ?_
    refine Au 5 (sT [(20,jI r1_4_16),(27,.d (.sl 1 (List.map e3 r0_3_6))),pR 30 52,pR 31 53,pR 33 54] [(54,.var 33 [jI r0_3_4.Low,jI r0_3_4.High]),(53,.var 33 [jI r0_3_3.Low,jI r0_3_3.High]),(52,.var 33 [jI r0_5_4.Low,jI r0_5_4.High])] 56 0) ?_
    refine RW.nil (hQ_119 _ ?_)
    refine AW.srwK (fun Q_122 hQ_122=>?_)
    obtain ⟨r0_1_8,hx_123,h⟩:=bsome h
    refine rC (k49 _ hx_123) ?_
    obtain ⟨⟨r0_3_7,r1_4_17⟩,hx_124,h⟩:=bsome h
    refine rC (k44 r0_1_8 _ hx_124) ?_
    refine Au 5 (sT [(20,jI r1_4_16),(22,jI r1_4_17),(27,.d (.sl 1 (List.map e3 r0_3_6))),(28,.d (.sl 1 (List.map e3 r0_3_7))),pR 30 52,pR 31 53,pR 33 54] [(54,.var 33 [jI r0_3_4.Low,jI r0_3_4.High]),(53,.var 33 [jI r0_3_3.Low,jI r0_3_3.High]),(52,.var 33 [jI r0_5_4.Low,jI r0_5_4.High])] 56 0) ?_
    refine RW.nil (hQ_122 _ ?_)
    refine AW.srwK (fun Q_125 hQ_125=>?_)
    obtain ⟨r0_2_11,hx_126,h⟩:=bsome h
    refine rC (k39 _ hx_126) ?_
    obtain ⟨⟨r0_4_7,r1_4_18⟩,hx_127,h⟩:=bsome h
    refine rC (k45 r0_2_11 0 _ hx_127) ?_
    refine Au 5 (sT [(20,jI r1_4_16),(22,jI r1_4_17),(24,jI r1_4_18),(27,.d (.sl 1 (List.map e3 r0_3_6))),(28,.d (.sl 1 (List.map e3 r0_3_7))),pR 30 52,pR 31 53,pR 33 54] [(52,.var 33 [jI r0_4_7.Low,jI r0_4_7.High]),(54,.var 33 [jI r0_3_4.Low,jI r0_3_4.High]),(53,.var 33 [jI r0_3_3.Low,jI r0_3_3.High])] 56 0) ?_
    refine RW.nil (hQ_125 _ ?_)
    refine AW.srwK (fun Q_128 hQ_128=>?_)
    obtain ⟨r0_1_9,hx_129,h⟩:=bsome h
    refine rC (k50 _ hx_129) ?_
    obtain ⟨⟨r0_4_8,r1_4_19⟩,hx_130,h⟩:=bsome h
    refine rC (k45 r0_1_9 1 _ hx_130) ?_
    refine Au 5 (sT [(20,jI r1_4_16),(22,jI r1_4_17),(24,jI r1_4_18),(26,jI r1_4_19),(27,.d (.sl 1 (List.map e3 r0_3_6))),(28,.d (.sl 1 (List.map e3 r0_3_7))),pR 30 52,pR 31 53,pR 33 54] [(53,.var 33 [jI r0_4_8.Low,jI r0_4_8.High]),(52,.var 33 [jI r0_4_7.Low,jI r0_4_7.High]),(54,.var 33 [jI r0_3_4.Low,jI r0_3_4.High])] 56 0) ?_
    refine RW.nil (hQ_128 _ ?_)
    refine AW.srwK (fun Q_131 hQ_131=>?_)
    obtain ⟨r0_1_10,hx_132,h⟩:=bsome h
    refine rC (k49 _ hx_132) ?_
    obtain ⟨⟨r0_4_9,r1_4_20⟩,hx_133,h⟩:=bsome h
    refine rC (k45 r0_1_10 1 _ hx_133) ?_
    refine Au 5 (sT [(20,jI r1_4_16),(22,jI r1_4_17),(24,jI r1_4_18),(26,jI r1_4_19),(27,.d (.sl 1 (List.map e3 r0_3_6))),(28,.d (.sl 1 (List.map e3 r0_3_7))),pR 30 52,pR 31 53,(32,jI r1_4_20),pR 33 54] [(54,.var 33 [jI r0_4_9.Low,jI r0_4_9.High]),(53,.var 33 [jI r0_4_8.Low,jI r0_4_8.High]),(52,.var 33 [jI r0_4_7.Low,jI r0_4_7.High])] 56 0) ?_
    refine RW.nil (hQ_131 _ ?_)
    refine AW.srwK (fun Q_134 hQ_134=>?_)
    obtain ⟨r0_2_12,hx_135,h⟩:=bsome h
    refine rC (k39 _ hx_135) ?_
    obtain ⟨⟨r0_2_13,r1_4_21⟩,hx_136,h⟩:=bsome h
    refine rC (k47 r0_2_12 _ hx_136) ?_
    refine Au 5 (sT [(20,jI r1_4_16),(22,jI r1_4_17),(24,jI r1_4_18),(26,jI r1_4_19),(27,.d (.sl 1 (List.map e3 r0_3_6))),(28,.d (.sl 1 (List.map e3 r0_3_7))),(29,.d (.sl 1 (List.map e3 r0_2_13))),pR 30 52,pR 31 53,(32,jI r1_4_20),pR 33 54,(34,jI r1_4_21)] [(54,.var 33 [jI r0_4_9.Low,jI r0_4_9.High]),(53,.var 33 [jI r0_4_8.Low,jI r0_4_8.High]),(52,.var 33 [jI r0_4_7.Low,jI r0_4_7.High])] 56 0) ?_
    refine RW.nil (hQ_134 _ ?_)
    refine AW.srwK (fun Q_137 hQ_137=>?_)
    obtain ⟨r0_1_11,hx_138,h⟩:=bsome h
    refine rC (k49 _ hx_138) ?_
    obtain ⟨⟨r0_2_14,r1_4_22⟩,hx_139,h⟩:=bsome h
    refine rC (k47 r0_1_11 _ hx_139) ?_
    refine Au 5 (sT [(20,jI r1_4_16),(22,jI r1_4_17),(24,jI r1_4_18),(26,jI r1_4_19),(27,.d (.sl 1 (List.map e3 r0_3_6))),(28,.d (.sl 1 (List.map e3 r0_3_7))),(29,.d (.sl 1 (List.map e3 r0_2_13))),pR 30 52,pR 31 53,(32,jI r1_4_20),pR 33 54,(34,jI r1_4_21),(36,jI r1_4_22),(37,.d (.sl 1 (List.map e3 r0_2_14)))] [(54,.var 33 [jI r0_4_9.Low,jI r0_4_9.High]),(53,.var 33 [jI r0_4_8.Low,jI r0_4_8.High]),(52,.var 33 [jI r0_4_7.Low,jI r0_4_7.High])] 56 0) ?_
    refine RW.nil (hQ_137 _ ?_)
    refine AW.srwK (fun Q_140 hQ_140=>?_)
    obtain ⟨r0_13,hx_141,h⟩:=bsome h
    refine rC (k10 1 2 _ hx_141) ?_
    refine Au 4 (sT [(20,jI r1_4_16),(22,jI r1_4_17),(24,jI r1_4_18),(26,jI r1_4_19),(27,.d (.sl 1 (List.map e3 r0_3_6))),(28,.d (.sl 1 (List.map e3 r0_3_7))),(29,.d (.sl 1 (List.map e3 r0_2_13))),pR 30 52,pR 31 53,(32,jI r1_4_20),pR 33 54,(34,jI r1_4_21),(36,jI r1_4_22),(37,.d (.sl 1 (List.map e3 r0_2_14))),pR 38 57] [(57,.var 83 [.d (.nilSl),.d (.nilSl),jI 0,jI 0,jI 0,.d (.nilSl),.own 56 (List.map e33 [r0_13]).length,jI 1,jI 0]),(56,.row 33 2 (List.map e33 [r0_13])),(54,.var 33 [jI r0_4_9.Low,jI r0_4_9.High]),(53,.var 33 [jI r0_4_8.Low,jI r0_4_8.High]),(52,.var 33 [jI r0_4_7.Low,jI r0_4_7.High])] 58 0) ?_
    refine RW.nil (hQ_140 _ ?_)
    refine AW.can (Can.fzH 57 6 56 rfl rfl rfl rfl) ?_
    refine AW.kp (sT [(20,jI r1_4_16),(22,jI r1_4_17),(24,jI r1_4_18),(26,jI r1_4_19),(27,.d (.sl 1 (List.map e3 r0_3_6))),(28,.d (.sl 1 (List.map e3 r0_3_7))),(29,.d (.sl 1 (List.map e3 r0_2_13))),pR 30 52,pR 31 53,(32,jI r1_4_20),pR 33 54,(34,jI r1_4_21),(36,jI r1_4_22),(37,.d (.sl 1 (List.map e3 r0_2_14))),pR 38 57] [(57,.var 83 [.d (.nilSl),.d (.nilSl),jI 0,jI 0,jI 0,.d (.nilSl),.d (.sl 2 (List.map e33 [r0_13])),jI 1,jI 0]),(54,.var 33 [jI r0_4_9.Low,jI r0_4_9.High]),(53,.var 33 [jI r0_4_8.Low,jI r0_4_8.High]),(52,.var 33 [jI r0_4_7.Low,jI r0_4_7.High])] 58 0) (by kernel_rfl) ?_
    refine AW.srwK (fun Q_142 hQ_142=>?_)
    refine Au 1 (sT [(20,jI r1_4_16),(22,jI r1_4_17),(24,jI r1_4_18),(26,jI r1_4_19),(27,.d (.sl 1 (List.map e3 r0_3_6))),(28,.d (.sl 1 (List.map e3 r0_3_7))),(29,.d (.sl 1 (List.map e3 r0_2_13))),pR 30 52,pR 31 53,(32,jI r1_4_20),pR 33 54,(34,jI r1_4_21),(36,jI r1_4_22),(37,.d (.sl 1 (List.map e3 r0_2_14))),pR 38 57,(402,.agg [.d (.nilSl),.d (.nilSl),jI 0,jI 0,jI 0,.d (.nilSl),.d (.sl 2 (List.map e33 [r0_13])),jI 1,jI 0])] [(57,.var 83 [.d (.nilSl),.d (.nilSl),jI 0,jI 0,jI 0,.d (.nilSl),.d (.sl 2 (List.map e33 [r0_13])),jI 1,jI 0]),(54,.var 33 [jI r0_4_9.Low,jI r0_4_9.High]),(53,.var 33 [jI r0_4_8.Low,jI r0_4_8.High]),(52,.var 33 [jI r0_4_7.Low,jI r0_4_7.High])] 58 0) ?_
    obtain ⟨⟨r0_2_15,r1_4_23⟩,hx_143,h⟩:=bsome h
    refine RW.one fokW (r_callZ (zr:=[]) trivial rfl (k47 (HarnessBook.mk (HairBook.mk [] [] 0 0 0) [] [r0_13] 1 0) _ hx_143) trivial ⟨(Frz.agg_of ⟨(.nil 4),(.nil 3),.refl _,.refl _,.refl _,(.nil 1),.refl _,.refl _,.refl _,trivial⟩),trivial⟩ rfl rfl rfl rfl (r_end ?_))
    refine Au 5 (sT [(20,jI r1_4_16),(22,jI r1_4_17),(24,jI r1_4_18),(26,jI r1_4_19),(27,.d (.sl 1 (List.map e3 r0_3_6))),(28,.d (.sl 1 (List.map e3 r0_3_7))),(29,.d (.sl 1 (List.map e3 r0_2_13))),pR 30 52,pR 31 53,(32,jI r1_4_20),pR 33 54,(34,jI r1_4_21),(36,jI r1_4_22),(37,.d (.sl 1 (List.map e3 r0_2_14))),pR 38 57,(39,.d (.sl 1 (List.map e3 r0_2_15))),(40,jI r1_4_23)] [(57,.var 83 [.d (.nilSl),.d (.nilSl),jI 0,jI 0,jI 0,.d (.nilSl),.d (.sl 2 (List.map e33 [r0_13])),jI 1,jI 0]),(54,.var 33 [jI r0_4_9.Low,jI r0_4_9.High]),(53,.var 33 [jI r0_4_8.Low,jI r0_4_8.High]),(52,.var 33 [jI r0_4_7.Low,jI r0_4_7.High])] 58 0) ?_
    refine RW.nil (hQ_142 _ ?_)
    refine AW.srwK (fun Q_144 hQ_144=>?_)
    refine Au 1 (sT [(20,jI r1_4_16),(22,jI r1_4_17),(24,jI r1_4_18),(26,jI r1_4_19),(27,.d (.sl 1 (List.map e3 r0_3_6))),(28,.d (.sl 1 (List.map e3 r0_3_7))),(29,.d (.sl 1 (List.map e3 r0_2_13))),pR 30 52,pR 31 53,(32,jI r1_4_20),pR 33 54,(34,jI r1_4_21),(36,jI r1_4_22),(37,.d (.sl 1 (List.map e3 r0_2_14))),pR 38 57,(39,.d (.sl 1 (List.map e3 r0_2_15))),(40,jI r1_4_23),(407,.agg [.d (.nilSl),.d (.nilSl),jI 0,jI 0,jI 0,.d (.nilSl),.d (.sl 2 (List.map e33 [r0_13])),jI 1,jI 0])] [(57,.var 83 [.d (.nilSl),.d (.nilSl),jI 0,jI 0,jI 0,.d (.nilSl),.d (.sl 2 (List.map e33 [r0_13])),jI 1,jI 0]),(54,.var 33 [jI r0_4_9.Low,jI r0_4_9.High]),(53,.var 33 [jI r0_4_8.Low,jI r0_4_8.High]),(52,.var 33 [jI r0_4_7.Low,jI r0_4_7.High])] 58 0) ?_
    obtain ⟨⟨r0_3_8,r1_4_24⟩,hx_145,h⟩:=bsome h
    refine RW.one fokW (r_callZ (zr:=[]) trivial rfl (k44 (HarnessBook.mk (HairBook.mk [] [] 0 0 0) [] [r0_13] 1 0) _ hx_145) trivial ⟨(Frz.agg_of ⟨(.nil 4),(.nil 3),.refl _,.refl _,.refl _,(.nil 1),.refl _,.refl _,.refl _,trivial⟩),trivial⟩ rfl rfl rfl rfl (r_end ?_))
    refine Au 5 (sT [(20,jI r1_4_16),(22,jI r1_4_17),(24,jI r1_4_18),(26,jI r1_4_19),(27,.d (.sl 1 (List.map e3 r0_3_6))),(28,.d (.sl 1 (List.map e3 r0_3_7))),(29,.d (.sl 1 (List.map e3 r0_2_13))),pR 30 52,pR 31 53,(32,jI r1_4_20),pR 33 54,(34,jI r1_4_21),(36,jI r1_4_22),(37,.d (.sl 1 (List.map e3 r0_2_14))),pR 38 57,(39,.d (.sl 1 (List.map e3 r0_2_15))),(40,jI r1_4_23),(41,.d (.sl 1 (List.map e3 r0_3_8))),(42,jI r1_4_24)] [(57,.var 83 [.d (.nilSl),.d (.nilSl),jI 0,jI 0,jI 0,.d (.nilSl),.d (.sl 2 (List.map e33 [r0_13])),jI 1,jI 0]),(54,.var 33 [jI r0_4_9.Low,jI r0_4_9.High]),(53,.var 33 [jI r0_4_8.Low,jI r0_4_8.High]),(52,.var 33 [jI r0_4_7.Low,jI r0_4_7.High])] 58 0) ?_
    refine RW.nil (hQ_144 _ ?_)
    refine AW.srwK (fun Q_146 hQ_146=>?_)
    refine Au 1 (sT [(20,jI r1_4_16),(22,jI r1_4_17),(24,jI r1_4_18),(26,jI r1_4_19),(27,.d (.sl 1 (List.map e3 r0_3_6))),(28,.d (.sl 1 (List.map e3 r0_3_7))),(29,.d (.sl 1 (List.map e3 r0_2_13))),pR 30 52,pR 31 53,(32,jI r1_4_20),pR 33 54,(34,jI r1_4_21),(36,jI r1_4_22),(37,.d (.sl 1 (List.map e3 r0_2_14))),(39,.d (.sl 1 (List.map e3 r0_2_15))),(40,jI r1_4_23),(41,.d (.sl 1 (List.map e3 r0_3_8))),(42,jI r1_4_24),(412,.agg [.d (.nilSl),.d (.nilSl),jI 0,jI 0,jI 0,.d (.nilSl),.d (.sl 2 (List.map e33 [r0_13])),jI 1,jI 0])] [(54,.var 33 [jI r0_4_9.Low,jI r0_4_9.High]),(53,.var 33 [jI r0_4_8.Low,jI r0_4_8.High]),(52,.var 33 [jI r0_4_7.Low,jI r0_4_7.High])] 58 0) ?_
    obtain ⟨⟨r0_4_10,r1_4_25⟩,hx_147,h⟩:=bsome h
    refine RW.one fokW (r_callZ (zr:=[]) trivial rfl (k45 (HarnessBook.mk (HairBook.mk [] [] 0 0 0) [] [r0_13] 1 0) 0 _ hx_147) trivial ⟨(Frz.agg_of ⟨(.nil 4),(.nil 3),.refl _,.refl _,.refl _,(.nil 1),.refl _,.refl _,.refl _,trivial⟩),.refl _,trivial⟩ rfl rfl rfl rfl (r_end ?_))
    refine Au 6 (sT [(20,jI r1_4_16),(22,jI r1_4_17),(24,jI r1_4_18),(26,jI r1_4_19),(27,.d (.sl 1 (List.map e3 r0_3_6))),(28,.d (.sl 1 (List.map e3 r0_3_7))),(29,.d (.sl 1 (List.map e3 r0_2_13))),pR 30 52,pR 31 53,(32,jI r1_4_20),pR 33 54,(34,jI r1_4_21),(36,jI r1_4_22),(37,.d (.sl 1 (List.map e3 r0_2_14))),(39,.d (.sl 1 (List.map e3 r0_2_15))),(40,jI r1_4_23),(41,.d (.sl 1 (List.map e3 r0_3_8))),(42,jI r1_4_24),pR 43 58,(44,jI r1_4_25)] [(58,.var 33 [jI r0_4_10.Low,jI r0_4_10.High]),(54,.var 33 [jI r0_4_9.Low,jI r0_4_9.High]),(53,.var 33 [jI r0_4_8.Low,jI r0_4_8.High]),(52,.var 33 [jI r0_4_7.Low,jI r0_4_7.High])] 59 0) ?_
    refine RW.nil (hQ_146 _ ?_)
    obtain ⟨t,hx_148,h⟩:=bsome h
    refine AW.jnSK (fun (t:Bool)=>(sT [(0,.d (.bool t))] [] 59 0)) (c:=t) (fun K_148 hK_148=>?_) ?_
    ·have h:=hx_148
     refine AW.drw fokW ?_
     refine aX 3 (sT [(22,jI r1_4_17),(24,jI r1_4_18),(26,jI r1_4_19),(27,.d (.sl 1 (List.map e3 r0_3_6))),(28,.d (.sl 1 (List.map e3 r0_3_7))),(29,.d (.sl 1 (List.map e3 r0_2_13))),pR 30 52,pR 31 53,(32,jI r1_4_20),pR 33 54,(34,jI r1_4_21),(36,jI r1_4_22),(37,.d (.sl 1 (List.map e3 r0_2_14))),(39,.d (.sl 1 (List.map e3 r0_2_15))),(40,jI r1_4_23),(41,.d (.sl 1 (List.map e3 r0_3_8))),(42,jI r1_4_24),pR 43 58,(44,jI r1_4_25),(418,.d (.bool (decide (r1_4_16=0))))] [(58,.var 33 [jI r0_4_10.Low,jI r0_4_10.High]),(54,.var 33 [jI r0_4_9.Low,jI r0_4_9.High]),(53,.var 33 [jI r0_4_8.Low,jI r0_4_8.High]),(52,.var 33 [jI r0_4_7.Low,jI r0_4_7.High])] 59 0) ?_
     refine r_split 418 rfl (fun hb_150=>?_) (fun hb_150=>?_)
     ·have h:=ifT hb_150 h
      refine aX 2 (sT [(22,jI r1_4_17),(24,jI r1_4_18),(26,jI r1_4_19),(28,.d (.sl 1 (List.map e3 r0_3_7))),(29,.d (.sl 1 (List.map e3 r0_2_13))),pR 30 52,pR 31 53,(32,jI r1_4_20),pR 33 54,(34,jI r1_4_21),(36,jI r1_4_22),(37,.d (.sl 1 (List.map e3 r0_2_14))),(39,.d (.sl 1 (List.map e3 r0_2_15))),(40,jI r1_4_23),(41,.d (.sl 1 (List.map e3 r0_3_8))),(42,jI r1_4_24),pR 43 58,(44,jI r1_4_25),(418,.d (.bool true)),(419,.d (.sl 1 (List.map e3 r0_3_6))),(420,.own 59 (List.map e3 [0,1]).length)] [(59,.row 3 1 (List.map e3 [0,1])),(58,.var 33 [jI r0_4_10.Low,jI r0_4_10.High]),(54,.var 33 [jI r0_4_9.Low,jI r0_4_9.High]),(53,.var 33 [jI r0_4_8.Low,jI r0_4_8.High]),(52,.var 33 [jI r0_4_7.Low,jI r0_4_7.High])] 60 0) ?_
      obtain ⟨r0_14,hx_151,h⟩:=bsome h
      refine r_callF (rs:=[(59,.row 3 1 (List.map e3 [0,1]))]) rfl rfl (k37 r0_3_6 [0,1] _ hx_151) ⟨rfl,trivial⟩ ⟨.refl _,(.own rfl rfl),trivial⟩ rfl rfl rfl ?_
      refine aX 2 (sT [(22,jI r1_4_17),(24,jI r1_4_18),(26,jI r1_4_19),(28,.d (.sl 1 (List.map e3 r0_3_7))),(29,.d (.sl 1 (List.map e3 r0_2_13))),pR 30 52,pR 31 53,(32,jI r1_4_20),pR 33 54,(34,jI r1_4_21),(36,jI r1_4_22),(37,.d (.sl 1 (List.map e3 r0_2_14))),(39,.d (.sl 1 (List.map e3 r0_2_15))),(40,jI r1_4_23),(41,.d (.sl 1 (List.map e3 r0_3_8))),(42,jI r1_4_24),pR 43 58,(44,jI r1_4_25),(423,.d (.bool r0_14))] [(59,.row 3 1 (List.map e3 [0,1])),(58,.var 33 [jI r0_4_10.Low,jI r0_4_10.High]),(54,.var 33 [jI r0_4_9.Low,jI r0_4_9.High]),(53,.var 33 [jI r0_4_8.Low,jI r0_4_8.High]),(52,.var 33 [jI r0_4_7.Low,jI r0_4_7.High])] 60 0) ?_
      refine r_split 423 rfl (fun hb_152=>?_) (fun hb_152=>?_)
      ·have h:=ifT hb_152 h
       refine aX 4 (sT [(24,jI r1_4_18),(26,jI r1_4_19),(28,.d (.sl 1 (List.map e3 r0_3_7))),(29,.d (.sl 1 (List.map e3 r0_2_13))),pR 30 52,pR 31 53,(32,jI r1_4_20),pR 33 54,(34,jI r1_4_21),(36,jI r1_4_22),(37,.d (.sl 1 (List.map e3 r0_2_14))),(39,.d (.sl 1 (List.map e3 r0_2_15))),(40,jI r1_4_23),(41,.d (.sl 1 (List.map e3 r0_3_8))),(42,jI r1_4_24),pR 43 58,(44,jI r1_4_25),(427,.d (.bool (decide (r1_4_17=0))))] [(59,.row 3 1 (List.map e3 [0,1])),(58,.var 33 [jI r0_4_10.Low,jI r0_4_10.High]),(54,.var 33 [jI r0_4_9.Low,jI r0_4_9.High]),(53,.var 33 [jI r0_4_8.Low,jI r0_4_8.High]),(52,.var 33 [jI r0_4_7.Low,jI r0_4_7.High])] 60 0) ?_
       refine r_split 427 rfl (fun hb_153=>?_) (fun hb_153=>?_)
       ·have h:=ifT hb_153 h
        refine aX 2 (sT [(24,jI r1_4_18),(26,jI r1_4_19),(29,.d (.sl 1 (List.map e3 r0_2_13))),pR 30 52,pR 31 53,(32,jI r1_4_20),pR 33 54,(34,jI r1_4_21),(36,jI r1_4_22),(37,.d (.sl 1 (List.map e3 r0_2_14))),(39,.d (.sl 1 (List.map e3 r0_2_15))),(40,jI r1_4_23),(41,.d (.sl 1 (List.map e3 r0_3_8))),(42,jI r1_4_24),pR 43 58,(44,jI r1_4_25),(427,.d (.bool true)),(428,.d (.sl 1 (List.map e3 r0_3_7))),(429,.own 60 (List.map e3 [0,0]).length)] [(60,.row 3 1 (List.map e3 [0,0])),(59,.row 3 1 (List.map e3 [0,1])),(58,.var 33 [jI r0_4_10.Low,jI r0_4_10.High]),(54,.var 33 [jI r0_4_9.Low,jI r0_4_9.High]),(53,.var 33 [jI r0_4_8.Low,jI r0_4_8.High]),(52,.var 33 [jI r0_4_7.Low,jI r0_4_7.High])] 61 0) ?_
        obtain ⟨r0_15,hx_154,h⟩:=bsome h
        refine r_callF (rs:=[(60,.row 3 1 (List.map e3 [0,0]))]) rfl rfl (k37 r0_3_7 [0,0] _ hx_154) ⟨rfl,trivial⟩ ⟨.refl _,(.own rfl rfl),trivial⟩ rfl rfl rfl ?_
        refine aX 2 (sT [(24,jI r1_4_18),(26,jI r1_4_19),(29,.d (.sl 1 (List.map e3 r0_2_13))),pR 30 52,pR 31 53,(32,jI r1_4_20),pR 33 54,(34,jI r1_4_21),(36,jI r1_4_22),(37,.d (.sl 1 (List.map e3 r0_2_14))),(39,.d (.sl 1 (List.map e3 r0_2_15))),(40,jI r1_4_23),(41,.d (.sl 1 (List.map e3 r0_3_8))),(42,jI r1_4_24),pR 43 58,(44,jI r1_4_25),(432,.d (.bool r0_15))] [(60,.row 3 1 (List.map e3 [0,0])),(59,.row 3 1 (List.map e3 [0,1])),(58,.var 33 [jI r0_4_10.Low,jI r0_4_10.High]),(54,.var 33 [jI r0_4_9.Low,jI r0_4_9.High]),(53,.var 33 [jI r0_4_8.Low,jI r0_4_8.High]),(52,.var 33 [jI r0_4_7.Low,jI r0_4_7.High])] 61 0) ?_
        refine r_split 432 rfl (fun hb_155=>?_) (fun hb_155=>?_)
        ·have h:=ifT hb_155 h
         refine aX 4 (sT [(26,jI r1_4_19),(29,.d (.sl 1 (List.map e3 r0_2_13))),pR 30 52,pR 31 53,(32,jI r1_4_20),pR 33 54,(34,jI r1_4_21),(36,jI r1_4_22),(37,.d (.sl 1 (List.map e3 r0_2_14))),(39,.d (.sl 1 (List.map e3 r0_2_15))),(40,jI r1_4_23),(41,.d (.sl 1 (List.map e3 r0_3_8))),(42,jI r1_4_24),pR 43 58,(44,jI r1_4_25),(436,.d (.bool (decide (r1_4_18=0))))] [(60,.row 3 1 (List.map e3 [0,0])),(59,.row 3 1 (List.map e3 [0,1])),(58,.var 33 [jI r0_4_10.Low,jI r0_4_10.High]),(54,.var 33 [jI r0_4_9.Low,jI r0_4_9.High]),(53,.var 33 [jI r0_4_8.Low,jI r0_4_8.High]),(52,.var 33 [jI r0_4_7.Low,jI r0_4_7.High])] 61 0) ?_
         refine r_split 436 rfl (fun hb_156=>?_) (fun hb_156=>?_)
         ·have h:=ifT hb_156 h
          refine aX 1 (sT [(26,jI r1_4_19),(29,.d (.sl 1 (List.map e3 r0_2_13))),pR 31 53,(32,jI r1_4_20),pR 33 54,(34,jI r1_4_21),(36,jI r1_4_22),(37,.d (.sl 1 (List.map e3 r0_2_14))),(39,.d (.sl 1 (List.map e3 r0_2_15))),(40,jI r1_4_23),(41,.d (.sl 1 (List.map e3 r0_3_8))),(42,jI r1_4_24),pR 43 58,(44,jI r1_4_25),(436,.d (.bool true)),(437,.agg [jI r0_4_7.Low,jI r0_4_7.High])] [(60,.row 3 1 (List.map e3 [0,0])),(59,.row 3 1 (List.map e3 [0,1])),(58,.var 33 [jI r0_4_10.Low,jI r0_4_10.High]),(54,.var 33 [jI r0_4_9.Low,jI r0_4_9.High]),(53,.var 33 [jI r0_4_8.Low,jI r0_4_8.High]),(52,.var 33 [jI r0_4_7.Low,jI r0_4_7.High])] 61 0) ?_
          obtain ⟨r0_16,hx_157,h⟩:=bsome h
          refine r_call rfl rfl (k10 0 1 _ hx_157) rfl rfl ?_
          refine r_aeq rfl rfl rfl rfl rfl ft33 rfl rfl rfl ?_
          refine aX 2 (sT [(26,jI r1_4_19),(29,.d (.sl 1 (List.map e3 r0_2_13))),pR 31 53,(32,jI r1_4_20),pR 33 54,(34,jI r1_4_21),(36,jI r1_4_22),(37,.d (.sl 1 (List.map e3 r0_2_14))),(39,.d (.sl 1 (List.map e3 r0_2_15))),(40,jI r1_4_23),(41,.d (.sl 1 (List.map e3 r0_3_8))),(42,jI r1_4_24),pR 43 58,(44,jI r1_4_25),(441,.d (.bool (false != ((r0_4_7.Low==r0_16.Low)&&((r0_4_7.High==r0_16.High)&&true)))))] [(60,.row 3 1 (List.map e3 [0,0])),(59,.row 3 1 (List.map e3 [0,1])),(58,.var 33 [jI r0_4_10.Low,jI r0_4_10.High]),(54,.var 33 [jI r0_4_9.Low,jI r0_4_9.High]),(53,.var 33 [jI r0_4_8.Low,jI r0_4_8.High]),(52,.var 33 [jI r0_4_7.Low,jI r0_4_7.High])] 61 0) ?_
          refine r_split 441 rfl (fun hb_158=>?_) (fun hb_158=>?_)
          ·have h:=ifT hb_158 h
           refine aX 4 (sT [(29,.d (.sl 1 (List.map e3 r0_2_13))),pR 31 53,(32,jI r1_4_20),pR 33 54,(34,jI r1_4_21),(36,jI r1_4_22),(37,.d (.sl 1 (List.map e3 r0_2_14))),(39,.d (.sl 1 (List.map e3 r0_2_15))),(40,jI r1_4_23),(41,.d (.sl 1 (List.map e3 r0_3_8))),(42,jI r1_4_24),pR 43 58,(44,jI r1_4_25),(445,.d (.bool (decide (r1_4_19=0))))] [(60,.row 3 1 (List.map e3 [0,0])),(59,.row 3 1 (List.map e3 [0,1])),(58,.var 33 [jI r0_4_10.Low,jI r0_4_10.High]),(54,.var 33 [jI r0_4_9.Low,jI r0_4_9.High]),(53,.var 33 [jI r0_4_8.Low,jI r0_4_8.High]),(52,.var 33 [jI r0_4_7.Low,jI r0_4_7.High])] 61 0) ?_
           refine r_split 445 rfl (fun hb_159=>?_) (fun hb_159=>?_)
           ·have h:=ifT hb_159 h
            refine aX 1 (sT [(29,.d (.sl 1 (List.map e3 r0_2_13))),(32,jI r1_4_20),pR 33 54,(34,jI r1_4_21),(36,jI r1_4_22),(37,.d (.sl 1 (List.map e3 r0_2_14))),(39,.d (.sl 1 (List.map e3 r0_2_15))),(40,jI r1_4_23),(41,.d (.sl 1 (List.map e3 r0_3_8))),(42,jI r1_4_24),pR 43 58,(44,jI r1_4_25),(445,.d (.bool true)),(446,.agg [jI r0_4_8.Low,jI r0_4_8.High])] [(60,.row 3 1 (List.map e3 [0,0])),(59,.row 3 1 (List.map e3 [0,1])),(58,.var 33 [jI r0_4_10.Low,jI r0_4_10.High]),(54,.var 33 [jI r0_4_9.Low,jI r0_4_9.High]),(53,.var 33 [jI r0_4_8.Low,jI r0_4_8.High]),(52,.var 33 [jI r0_4_7.Low,jI r0_4_7.High])] 61 0) ?_
            obtain ⟨r0_17,hx_160,h⟩:=bsome h
            refine r_call rfl rfl (k10 3 5 _ hx_160) rfl rfl ?_
            refine r_aeq rfl rfl rfl rfl rfl ft33 rfl rfl rfl ?_
            refine aX 2 (sT [(29,.d (.sl 1 (List.map e3 r0_2_13))),(32,jI r1_4_20),pR 33 54,(34,jI r1_4_21),(36,jI r1_4_22),(37,.d (.sl 1 (List.map e3 r0_2_14))),(39,.d (.sl 1 (List.map e3 r0_2_15))),(40,jI r1_4_23),(41,.d (.sl 1 (List.map e3 r0_3_8))),(42,jI r1_4_24),pR 43 58,(44,jI r1_4_25),(450,.d (.bool (false != ((r0_4_8.Low==r0_17.Low)&&((r0_4_8.High==r0_17.High)&&true)))))] [(60,.row 3 1 (List.map e3 [0,0])),(59,.row 3 1 (List.map e3 [0,1])),(58,.var 33 [jI r0_4_10.Low,jI r0_4_10.High]),(54,.var 33 [jI r0_4_9.Low,jI r0_4_9.High]),(53,.var 33 [jI r0_4_8.Low,jI r0_4_8.High]),(52,.var 33 [jI r0_4_7.Low,jI r0_4_7.High])] 61 0) ?_
            refine r_split 450 rfl (fun hb_161=>?_) (fun hb_161=>?_)
            ·have h:=ifT hb_161 h
             refine aX 4 (sT [(29,.d (.sl 1 (List.map e3 r0_2_13))),pR 33 54,(34,jI r1_4_21),(36,jI r1_4_22),(37,.d (.sl 1 (List.map e3 r0_2_14))),(39,.d (.sl 1 (List.map e3 r0_2_15))),(40,jI r1_4_23),(41,.d (.sl 1 (List.map e3 r0_3_8))),(42,jI r1_4_24),pR 43 58,(44,jI r1_4_25),(454,.d (.bool (decide (r1_4_20=0))))] [(60,.row 3 1 (List.map e3 [0,0])),(59,.row 3 1 (List.map e3 [0,1])),(58,.var 33 [jI r0_4_10.Low,jI r0_4_10.High]),(54,.var 33 [jI r0_4_9.Low,jI r0_4_9.High]),(53,.var 33 [jI r0_4_8.Low,jI r0_4_8.High]),(52,.var 33 [jI r0_4_7.Low,jI r0_4_7.High])] 61 0) ?_
             refine r_split 454 rfl (fun hb_162=>?_) (fun hb_162=>?_)
             ·have h:=ifT hb_162 h
              refine aX 1 (sT [(29,.d (.sl 1 (List.map e3 r0_2_13))),(34,jI r1_4_21),(36,jI r1_4_22),(37,.d (.sl 1 (List.map e3 r0_2_14))),(39,.d (.sl 1 (List.map e3 r0_2_15))),(40,jI r1_4_23),(41,.d (.sl 1 (List.map e3 r0_3_8))),(42,jI r1_4_24),pR 43 58,(44,jI r1_4_25),(454,.d (.bool true)),(455,.agg [jI r0_4_9.Low,jI r0_4_9.High])] [(60,.row 3 1 (List.map e3 [0,0])),(59,.row 3 1 (List.map e3 [0,1])),(58,.var 33 [jI r0_4_10.Low,jI r0_4_10.High]),(54,.var 33 [jI r0_4_9.Low,jI r0_4_9.High]),(53,.var 33 [jI r0_4_8.Low,jI r0_4_8.High]),(52,.var 33 [jI r0_4_7.Low,jI r0_4_7.High])] 61 0) ?_
              obtain ⟨r0_18,hx_163,h⟩:=bsome h
              refine r_call rfl rfl (k10 2 3 _ hx_163) rfl rfl ?_
              refine r_aeq rfl rfl rfl rfl rfl ft33 rfl rfl rfl ?_
              refine aX 2 (sT [(29,.d (.sl 1 (List.map e3 r0_2_13))),(34,jI r1_4_21),(36,jI r1_4_22),(37,.d (.sl 1 (List.map e3 r0_2_14))),(39,.d (.sl 1 (List.map e3 r0_2_15))),(40,jI r1_4_23),(41,.d (.sl 1 (List.map e3 r0_3_8))),(42,jI r1_4_24),pR 43 58,(44,jI r1_4_25),(459,.d (.bool (false != ((r0_4_9.Low==r0_18.Low)&&((r0_4_9.High==r0_18.High)&&true)))))] [(60,.row 3 1 (List.map e3 [0,0])),(59,.row 3 1 (List.map e3 [0,1])),(58,.var 33 [jI r0_4_10.Low,jI r0_4_10.High]),(54,.var 33 [jI r0_4_9.Low,jI r0_4_9.High]),(53,.var 33 [jI r0_4_8.Low,jI r0_4_8.High]),(52,.var 33 [jI r0_4_7.Low,jI r0_4_7.High])] 61 0) ?_
              refine r_split 459 rfl (fun hb_164=>?_) (fun hb_164=>?_)
              ·have h:=ifT hb_164 h
               refine aX 4 (sT [(29,.d (.sl 1 (List.map e3 r0_2_13))),(36,jI r1_4_22),(37,.d (.sl 1 (List.map e3 r0_2_14))),(39,.d (.sl 1 (List.map e3 r0_2_15))),(40,jI r1_4_23),(41,.d (.sl 1 (List.map e3 r0_3_8))),(42,jI r1_4_24),pR 43 58,(44,jI r1_4_25),(463,.d (.bool (decide (r1_4_21=0))))] [(60,.row 3 1 (List.map e3 [0,0])),(59,.row 3 1 (List.map e3 [0,1])),(58,.var 33 [jI r0_4_10.Low,jI r0_4_10.High]),(54,.var 33 [jI r0_4_9.Low,jI r0_4_9.High]),(53,.var 33 [jI r0_4_8.Low,jI r0_4_8.High]),(52,.var 33 [jI r0_4_7.Low,jI r0_4_7.High])] 61 0) ?_
               refine r_split 463 rfl (fun hb_165=>?_) (fun hb_165=>?_)
               ·have h:=ifT hb_165 h
                refine aX 2 (sT [(36,jI r1_4_22),(37,.d (.sl 1 (List.map e3 r0_2_14))),(39,.d (.sl 1 (List.map e3 r0_2_15))),(40,jI r1_4_23),(41,.d (.sl 1 (List.map e3 r0_3_8))),(42,jI r1_4_24),pR 43 58,(44,jI r1_4_25),(463,.d (.bool true)),(464,.d (.sl 1 (List.map e3 r0_2_13))),(465,.own 61 (List.map e3 [0,1]).length)] [(61,.row 3 1 (List.map e3 [0,1])),(60,.row 3 1 (List.map e3 [0,0])),(59,.row 3 1 (List.map e3 [0,1])),(58,.var 33 [jI r0_4_10.Low,jI r0_4_10.High]),(54,.var 33 [jI r0_4_9.Low,jI r0_4_9.High]),(53,.var 33 [jI r0_4_8.Low,jI r0_4_8.High]),(52,.var 33 [jI r0_4_7.Low,jI r0_4_7.High])] 62 0) ?_
                obtain ⟨r0_19,hx_166,h⟩:=bsome h
                refine r_callF (rs:=[(61,.row 3 1 (List.map e3 [0,1]))]) rfl rfl (k37 r0_2_13 [0,1] _ hx_166) ⟨rfl,trivial⟩ ⟨.refl _,(.own rfl rfl),trivial⟩ rfl rfl rfl ?_
                refine aX 2 (sT [(36,jI r1_4_22),(37,.d (.sl 1 (List.map e3 r0_2_14))),(39,.d (.sl 1 (List.map e3 r0_2_15))),(40,jI r1_4_23),(41,.d (.sl 1 (List.map e3 r0_3_8))),(42,jI r1_4_24),pR 43 58,(44,jI r1_4_25),(468,.d (.bool r0_19))] [(61,.row 3 1 (List.map e3 [0,1])),(60,.row 3 1 (List.map e3 [0,0])),(59,.row 3 1 (List.map e3 [0,1])),(58,.var 33 [jI r0_4_10.Low,jI r0_4_10.High]),(54,.var 33 [jI r0_4_9.Low,jI r0_4_9.High]),(53,.var 33 [jI r0_4_8.Low,jI r0_4_8.High]),(52,.var 33 [jI r0_4_7.Low,jI r0_4_7.High])] 62 0) ?_
                refine r_split 468 rfl (fun hb_167=>?_) (fun hb_167=>?_)
                ·have h:=ifT hb_167 h
                 refine aX 4 (sT [(37,.d (.sl 1 (List.map e3 r0_2_14))),(39,.d (.sl 1 (List.map e3 r0_2_15))),(40,jI r1_4_23),(41,.d (.sl 1 (List.map e3 r0_3_8))),(42,jI r1_4_24),pR 43 58,(44,jI r1_4_25),(472,.d (.bool (decide (r1_4_22=0))))] [(61,.row 3 1 (List.map e3 [0,1])),(60,.row 3 1 (List.map e3 [0,0])),(59,.row 3 1 (List.map e3 [0,1])),(58,.var 33 [jI r0_4_10.Low,jI r0_4_10.High]),(54,.var 33 [jI r0_4_9.Low,jI r0_4_9.High]),(53,.var 33 [jI r0_4_8.Low,jI r0_4_8.High]),(52,.var 33 [jI r0_4_7.Low,jI r0_4_7.High])] 62 0) ?_
                 refine r_split 472 rfl (fun hb_168=>?_) (fun hb_168=>?_)
                 ·have h:=ifT hb_168 h
                  refine aX 2 (sT [(39,.d (.sl 1 (List.map e3 r0_2_15))),(40,jI r1_4_23),(41,.d (.sl 1 (List.map e3 r0_3_8))),(42,jI r1_4_24),pR 43 58,(44,jI r1_4_25),(472,.d (.bool true)),(473,.d (.sl 1 (List.map e3 r0_2_14))),(474,.own 62 (List.map e3 [0,1]).length)] [(62,.row 3 1 (List.map e3 [0,1])),(61,.row 3 1 (List.map e3 [0,1])),(60,.row 3 1 (List.map e3 [0,0])),(59,.row 3 1 (List.map e3 [0,1])),(58,.var 33 [jI r0_4_10.Low,jI r0_4_10.High]),(54,.var 33 [jI r0_4_9.Low,jI r0_4_9.High]),(53,.var 33 [jI r0_4_8.Low,jI r0_4_8.High]),(52,.var 33 [jI r0_4_7.Low,jI r0_4_7.High])] 63 0) ?_
                  obtain ⟨r0_20,hx_169,h⟩:=bsome h
                  refine r_callF (rs:=[(62,.row 3 1 (List.map e3 [0,1]))]) rfl rfl (k37 r0_2_14 [0,1] _ hx_169) ⟨rfl,trivial⟩ ⟨.refl _,(.own rfl rfl),trivial⟩ rfl rfl rfl ?_
                  refine aX 2 (sT [(39,.d (.sl 1 (List.map e3 r0_2_15))),(40,jI r1_4_23),(41,.d (.sl 1 (List.map e3 r0_3_8))),(42,jI r1_4_24),pR 43 58,(44,jI r1_4_25),(477,.d (.bool r0_20))] [(62,.row 3 1 (List.map e3 [0,1])),(61,.row 3 1 (List.map e3 [0,1])),(60,.row 3 1 (List.map e3 [0,0])),(59,.row 3 1 (List.map e3 [0,1])),(58,.var 33 [jI r0_4_10.Low,jI r0_4_10.High]),(54,.var 33 [jI r0_4_9.Low,jI r0_4_9.High]),(53,.var 33 [jI r0_4_8.Low,jI r0_4_8.High]),(52,.var 33 [jI r0_4_7.Low,jI r0_4_7.High])] 63 0) ?_
                  refine r_split 477 rfl (fun hb_170=>?_) (fun hb_170=>?_)
                  ·have h:=ifT hb_170 h
                   refine aX 4 (sT [(39,.d (.sl 1 (List.map e3 r0_2_15))),(41,.d (.sl 1 (List.map e3 r0_3_8))),(42,jI r1_4_24),pR 43 58,(44,jI r1_4_25),(481,.d (.bool (decide (r1_4_23=0))))] [(62,.row 3 1 (List.map e3 [0,1])),(61,.row 3 1 (List.map e3 [0,1])),(60,.row 3 1 (List.map e3 [0,0])),(59,.row 3 1 (List.map e3 [0,1])),(58,.var 33 [jI r0_4_10.Low,jI r0_4_10.High]),(54,.var 33 [jI r0_4_9.Low,jI r0_4_9.High]),(53,.var 33 [jI r0_4_8.Low,jI r0_4_8.High]),(52,.var 33 [jI r0_4_7.Low,jI r0_4_7.High])] 63 0) ?_
                   refine r_split 481 rfl (fun hb_171=>?_) (fun hb_171=>?_)
                   ·have h:=ifT hb_171 h
                    refine aX 1 (sT [(41,.d (.sl 1 (List.map e3 r0_3_8))),(42,jI r1_4_24),pR 43 58,(44,jI r1_4_25),(481,.d (.bool true)),(482,.d (.sl 1 (List.map e3 r0_2_15)))] [(62,.row 3 1 (List.map e3 [0,1])),(61,.row 3 1 (List.map e3 [0,1])),(60,.row 3 1 (List.map e3 [0,0])),(59,.row 3 1 (List.map e3 [0,1])),(58,.var 33 [jI r0_4_10.Low,jI r0_4_10.High]),(54,.var 33 [jI r0_4_9.Low,jI r0_4_9.High]),(53,.var 33 [jI r0_4_8.Low,jI r0_4_8.High]),(52,.var 33 [jI r0_4_7.Low,jI r0_4_7.High])] 63 0) ?_
                    refine r_lenX rfl rfl lenm ?_
                    refine aX 3 (sT [(41,.d (.sl 1 (List.map e3 r0_3_8))),(42,jI r1_4_24),pR 43 58,(44,jI r1_4_25),(486,.d (.bool (decide ((r0_2_15.length:Int)=0))))] [(62,.row 3 1 (List.map e3 [0,1])),(61,.row 3 1 (List.map e3 [0,1])),(60,.row 3 1 (List.map e3 [0,0])),(59,.row 3 1 (List.map e3 [0,1])),(58,.var 33 [jI r0_4_10.Low,jI r0_4_10.High]),(54,.var 33 [jI r0_4_9.Low,jI r0_4_9.High]),(53,.var 33 [jI r0_4_8.Low,jI r0_4_8.High]),(52,.var 33 [jI r0_4_7.Low,jI r0_4_7.High])] 63 0) ?_
                    refine r_split 486 rfl (fun hb_172=>?_) (fun hb_172=>?_)
                    ·have h:=ifT hb_172 h
                     refine aX 4 (sT [(41,.d (.sl 1 (List.map e3 r0_3_8))),pR 43 58,(44,jI r1_4_25),(490,.d (.bool (decide (r1_4_24=0))))] [(62,.row 3 1 (List.map e3 [0,1])),(61,.row 3 1 (List.map e3 [0,1])),(60,.row 3 1 (List.map e3 [0,0])),(59,.row 3 1 (List.map e3 [0,1])),(58,.var 33 [jI r0_4_10.Low,jI r0_4_10.High]),(54,.var 33 [jI r0_4_9.Low,jI r0_4_9.High]),(53,.var 33 [jI r0_4_8.Low,jI r0_4_8.High]),(52,.var 33 [jI r0_4_7.Low,jI r0_4_7.High])] 63 0) ?_
                     refine r_split 490 rfl (fun hb_173=>?_) (fun hb_173=>?_)
                     ·have h:=ifT hb_173 h
                      refine aX 2 (sT [pR 43 58,(44,jI r1_4_25),(490,.d (.bool true)),(491,.d (.sl 1 (List.map e3 r0_3_8))),(492,.own 63 (List.map e3 [0]).length)] [(63,.row 3 1 (List.map e3 [0])),(62,.row 3 1 (List.map e3 [0,1])),(61,.row 3 1 (List.map e3 [0,1])),(60,.row 3 1 (List.map e3 [0,0])),(59,.row 3 1 (List.map e3 [0,1])),(58,.var 33 [jI r0_4_10.Low,jI r0_4_10.High]),(54,.var 33 [jI r0_4_9.Low,jI r0_4_9.High]),(53,.var 33 [jI r0_4_8.Low,jI r0_4_8.High]),(52,.var 33 [jI r0_4_7.Low,jI r0_4_7.High])] 64 0) ?_
                      obtain ⟨r0_21,hx_174,h⟩:=bsome h
                      refine r_callF (rs:=[(63,.row 3 1 (List.map e3 [0]))]) rfl rfl (k37 r0_3_8 [0] _ hx_174) ⟨rfl,trivial⟩ ⟨.refl _,(.own rfl rfl),trivial⟩ rfl rfl rfl ?_
                      refine aX 2 (sT [pR 43 58,(44,jI r1_4_25),(495,.d (.bool r0_21))] [(63,.row 3 1 (List.map e3 [0])),(62,.row 3 1 (List.map e3 [0,1])),(61,.row 3 1 (List.map e3 [0,1])),(60,.row 3 1 (List.map e3 [0,0])),(59,.row 3 1 (List.map e3 [0,1])),(58,.var 33 [jI r0_4_10.Low,jI r0_4_10.High]),(54,.var 33 [jI r0_4_9.Low,jI r0_4_9.High]),(53,.var 33 [jI r0_4_8.Low,jI r0_4_8.High]),(52,.var 33 [jI r0_4_7.Low,jI r0_4_7.High])] 64 0) ?_
                      refine r_split 495 rfl (fun hb_175=>?_) (fun hb_175=>?_)
                      ·have h:=ifT hb_175 h
                       refine aX 4 (sT [pR 43 58,(499,.d (.bool (decide (r1_4_25=0))))] [(63,.row 3 1 (List.map e3 [0])),(62,.row 3 1 (List.map e3 [0,1])),(61,.row 3 1 (List.map e3 [0,1])),(60,.row 3 1 (List.map e3 [0,0])),(59,.row 3 1 (List.map e3 [0,1])),(58,.var 33 [jI r0_4_10.Low,jI r0_4_10.High]),(54,.var 33 [jI r0_4_9.Low,jI r0_4_9.High]),(53,.var 33 [jI r0_4_8.Low,jI r0_4_8.High]),(52,.var 33 [jI r0_4_7.Low,jI r0_4_7.High])] 64 0) ?_
                       refine r_split 499 rfl (fun hb_176=>?_) (fun hb_176=>?_)
                       ·have h:=ifT hb_176 h
                        refine aX 1 (sT [(499,.d (.bool true)),(500,.agg [jI r0_4_10.Low,jI r0_4_10.High])] [(63,.row 3 1 (List.map e3 [0])),(62,.row 3 1 (List.map e3 [0,1])),(61,.row 3 1 (List.map e3 [0,1])),(60,.row 3 1 (List.map e3 [0,0])),(59,.row 3 1 (List.map e3 [0,1])),(58,.var 33 [jI r0_4_10.Low,jI r0_4_10.High]),(54,.var 33 [jI r0_4_9.Low,jI r0_4_9.High]),(53,.var 33 [jI r0_4_8.Low,jI r0_4_8.High]),(52,.var 33 [jI r0_4_7.Low,jI r0_4_7.High])] 64 0) ?_
                        obtain ⟨r0_22,hx_177,h⟩:=bsome h
                        refine r_call rfl rfl (k10 1 2 _ hx_177) rfl rfl ?_
                        refine r_aeq rfl rfl rfl rfl rfl ft33 rfl rfl rfl ?_
                        refine aX 2 (sT [(504,.d (.bool (false != ((r0_4_10.Low==r0_22.Low)&&((r0_4_10.High==r0_22.High)&&true)))))] [(63,.row 3 1 (List.map e3 [0])),(62,.row 3 1 (List.map e3 [0,1])),(61,.row 3 1 (List.map e3 [0,1])),(60,.row 3 1 (List.map e3 [0,0])),(59,.row 3 1 (List.map e3 [0,1])),(58,.var 33 [jI r0_4_10.Low,jI r0_4_10.High]),(54,.var 33 [jI r0_4_9.Low,jI r0_4_9.High]),(53,.var 33 [jI r0_4_8.Low,jI r0_4_8.High]),(52,.var 33 [jI r0_4_7.Low,jI r0_4_7.High])] 64 0) ?_
                        refine r_pickB trivial rfl rfl rfl ?_
                        refine aX 1 (sT [(506,.d (.bool (false != ((r0_4_10.Low==r0_22.Low)&&((r0_4_10.High==r0_22.High)&&true)))))] [(63,.row 3 1 (List.map e3 [0])),(62,.row 3 1 (List.map e3 [0,1])),(61,.row 3 1 (List.map e3 [0,1])),(60,.row 3 1 (List.map e3 [0,0])),(59,.row 3 1 (List.map e3 [0,1])),(58,.var 33 [jI r0_4_10.Low,jI r0_4_10.High]),(54,.var 33 [jI r0_4_9.Low,jI r0_4_9.High]),(53,.var 33 [jI r0_4_8.Low,jI r0_4_8.High]),(52,.var 33 [jI r0_4_7.Low,jI r0_4_7.High])] 64 0) ?_
                        refine r_split 506 rfl (fun hb_178=>?_) (fun hb_178=>?_)
                        ·have h:=ifT hb_178 h
                         obtain ⟨t2,hx_179,h⟩:=bsome h
                         refine r_call rfl rfl (k51 _ hx_179) rfl rfl ?_
                         refine aX 2 (sT [(0,.d (.bool t2))] [(63,.row 3 1 (List.map e3 [0])),(62,.row 3 1 (List.map e3 [0,1])),(61,.row 3 1 (List.map e3 [0,1])),(60,.row 3 1 (List.map e3 [0,0])),(59,.row 3 1 (List.map e3 [0,1])),(58,.var 33 [jI r0_4_10.Low,jI r0_4_10.High]),(54,.var 33 [jI r0_4_9.Low,jI r0_4_9.High]),(53,.var 33 [jI r0_4_8.Low,jI r0_4_8.High]),(52,.var 33 [jI r0_4_7.Low,jI r0_4_7.High])] 64 0) ?_
                         refine RunC.fin2 (sT [(0,.d (.bool t2))] [] 64 0) (by kernel_rfl) (by kernel_rfl) ?_
                         obtain rfl:=Option.some.inj h
                         exact hK_148 _ (Can.kp (by kernel_rfl))
                        ·have h:=ifF hb_178 h
                         refine aX 3 (sT [(0,.d (.bool false))] [(63,.row 3 1 (List.map e3 [0])),(62,.row 3 1 (List.map e3 [0,1])),(61,.row 3 1 (List.map e3 [0,1])),(60,.row 3 1 (List.map e3 [0,0])),(59,.row 3 1 (List.map e3 [0,1])),(58,.var 33 [jI r0_4_10.Low,jI r0_4_10.High]),(54,.var 33 [jI r0_4_9.Low,jI r0_4_9.High]),(53,.var 33 [jI r0_4_8.Low,jI r0_4_8.High]),(52,.var 33 [jI r0_4_7.Low,jI r0_4_7.High])] 64 0) ?_
                         refine RunC.fin2 (sT [(0,.d (.bool false))] [] 64 0) (by kernel_rfl) (by kernel_rfl) ?_
                         obtain rfl:=Option.some.inj h
                         exact hK_148 _ (Can.kp (by kernel_rfl))
                       ·have h:=ifF hb_176 h
                        refine aX 10 (sT [(0,.d (.bool false))] [(63,.row 3 1 (List.map e3 [0])),(62,.row 3 1 (List.map e3 [0,1])),(61,.row 3 1 (List.map e3 [0,1])),(60,.row 3 1 (List.map e3 [0,0])),(59,.row 3 1 (List.map e3 [0,1])),(58,.var 33 [jI r0_4_10.Low,jI r0_4_10.High]),(54,.var 33 [jI r0_4_9.Low,jI r0_4_9.High]),(53,.var 33 [jI r0_4_8.Low,jI r0_4_8.High]),(52,.var 33 [jI r0_4_7.Low,jI r0_4_7.High])] 64 0) ?_
                        refine RunC.fin2 (sT [(0,.d (.bool false))] [] 64 0) (by kernel_rfl) (by kernel_rfl) ?_
                        obtain rfl:=Option.some.inj h
                        exact hK_148 _ (Can.kp (by kernel_rfl))
                      ·have h:=ifF hb_175 h
                       refine aX 14 (sT [(0,.d (.bool false))] [(63,.row 3 1 (List.map e3 [0])),(62,.row 3 1 (List.map e3 [0,1])),(61,.row 3 1 (List.map e3 [0,1])),(60,.row 3 1 (List.map e3 [0,0])),(59,.row 3 1 (List.map e3 [0,1])),(58,.var 33 [jI r0_4_10.Low,jI r0_4_10.High]),(54,.var 33 [jI r0_4_9.Low,jI r0_4_9.High]),(53,.var 33 [jI r0_4_8.Low,jI r0_4_8.High]),(52,.var 33 [jI r0_4_7.Low,jI r0_4_7.High])] 64 0) ?_
                       refine RunC.fin2 (sT [(0,.d (.bool false))] [] 64 0) (by kernel_rfl) (by kernel_rfl) ?_
                       obtain rfl:=Option.some.inj h
                       exact hK_148 _ (Can.kp (by kernel_rfl))
                     ·have h:=ifF hb_173 h
                      refine aX 19 (sT [(0,.d (.bool false))] [(62,.row 3 1 (List.map e3 [0,1])),(61,.row 3 1 (List.map e3 [0,1])),(60,.row 3 1 (List.map e3 [0,0])),(59,.row 3 1 (List.map e3 [0,1])),(58,.var 33 [jI r0_4_10.Low,jI r0_4_10.High]),(54,.var 33 [jI r0_4_9.Low,jI r0_4_9.High]),(53,.var 33 [jI r0_4_8.Low,jI r0_4_8.High]),(52,.var 33 [jI r0_4_7.Low,jI r0_4_7.High])] 63 0) ?_
                      refine RunC.fin2 (sT [(0,.d (.bool false))] [] 63 0) (by kernel_rfl) (by kernel_rfl) ?_
                      obtain rfl:=Option.some.inj h
                      exact hK_148 _ (Can.kp (by kernel_rfl))
                    ·have h:=ifF hb_172 h
                     refine aX 23 (sT [(0,.d (.bool false))] [(62,.row 3 1 (List.map e3 [0,1])),(61,.row 3 1 (List.map e3 [0,1])),(60,.row 3 1 (List.map e3 [0,0])),(59,.row 3 1 (List.map e3 [0,1])),(58,.var 33 [jI r0_4_10.Low,jI r0_4_10.High]),(54,.var 33 [jI r0_4_9.Low,jI r0_4_9.High]),(53,.var 33 [jI r0_4_8.Low,jI r0_4_8.High]),(52,.var 33 [jI r0_4_7.Low,jI r0_4_7.High])] 63 0) ?_
                     refine RunC.fin2 (sT [(0,.d (.bool false))] [] 63 0) (by kernel_rfl) (by kernel_rfl) ?_
                     obtain rfl:=Option.some.inj h
                     exact hK_148 _ (Can.kp (by kernel_rfl))
                   ·have h:=ifF hb_171 h
                    refine aX 28 (sT [(0,.d (.bool false))] [(62,.row 3 1 (List.map e3 [0,1])),(61,.row 3 1 (List.map e3 [0,1])),(60,.row 3 1 (List.map e3 [0,0])),(59,.row 3 1 (List.map e3 [0,1])),(58,.var 33 [jI r0_4_10.Low,jI r0_4_10.High]),(54,.var 33 [jI r0_4_9.Low,jI r0_4_9.High]),(53,.var 33 [jI r0_4_8.Low,jI r0_4_8.High]),(52,.var 33 [jI r0_4_7.Low,jI r0_4_7.High])] 63 0) ?_
                    refine RunC.fin2 (sT [(0,.d (.bool false))] [] 63 0) (by kernel_rfl) (by kernel_rfl) ?_
                    obtain rfl:=Option.some.inj h
                    exact hK_148 _ (Can.kp (by kernel_rfl))
                  ·have h:=ifF hb_170 h
                   refine aX 32 (sT [(0,.d (.bool false))] [(62,.row 3 1 (List.map e3 [0,1])),(61,.row 3 1 (List.map e3 [0,1])),(60,.row 3 1 (List.map e3 [0,0])),(59,.row 3 1 (List.map e3 [0,1])),(58,.var 33 [jI r0_4_10.Low,jI r0_4_10.High]),(54,.var 33 [jI r0_4_9.Low,jI r0_4_9.High]),(53,.var 33 [jI r0_4_8.Low,jI r0_4_8.High]),(52,.var 33 [jI r0_4_7.Low,jI r0_4_7.High])] 63 0) ?_
                   refine RunC.fin2 (sT [(0,.d (.bool false))] [] 63 0) (by kernel_rfl) (by kernel_rfl) ?_
                   obtain rfl:=Option.some.inj h
                   exact hK_148 _ (Can.kp (by kernel_rfl))
                 ·have h:=ifF hb_168 h
                  refine aX 37 (sT [(0,.d (.bool false))] [(61,.row 3 1 (List.map e3 [0,1])),(60,.row 3 1 (List.map e3 [0,0])),(59,.row 3 1 (List.map e3 [0,1])),(58,.var 33 [jI r0_4_10.Low,jI r0_4_10.High]),(54,.var 33 [jI r0_4_9.Low,jI r0_4_9.High]),(53,.var 33 [jI r0_4_8.Low,jI r0_4_8.High]),(52,.var 33 [jI r0_4_7.Low,jI r0_4_7.High])] 62 0) ?_
                  refine RunC.fin2 (sT [(0,.d (.bool false))] [] 62 0) (by kernel_rfl) (by kernel_rfl) ?_
                  obtain rfl:=Option.some.inj h
                  exact hK_148 _ (Can.kp (by kernel_rfl))
                ·have h:=ifF hb_167 h
                 refine aX 41 (sT [(0,.d (.bool false))] [(61,.row 3 1 (List.map e3 [0,1])),(60,.row 3 1 (List.map e3 [0,0])),(59,.row 3 1 (List.map e3 [0,1])),(58,.var 33 [jI r0_4_10.Low,jI r0_4_10.High]),(54,.var 33 [jI r0_4_9.Low,jI r0_4_9.High]),(53,.var 33 [jI r0_4_8.Low,jI r0_4_8.High]),(52,.var 33 [jI r0_4_7.Low,jI r0_4_7.High])] 62 0) ?_
                 refine RunC.fin2 (sT [(0,.d (.bool false))] [] 62 0) (by kernel_rfl) (by kernel_rfl) ?_
                 obtain rfl:=Option.some.inj h
                 exact hK_148 _ (Can.kp (by kernel_rfl))
               ·have h:=ifF hb_165 h
                refine aX 46 (sT [(0,.d (.bool false))] [(60,.row 3 1 (List.map e3 [0,0])),(59,.row 3 1 (List.map e3 [0,1])),(58,.var 33 [jI r0_4_10.Low,jI r0_4_10.High]),(54,.var 33 [jI r0_4_9.Low,jI r0_4_9.High]),(53,.var 33 [jI r0_4_8.Low,jI r0_4_8.High]),(52,.var 33 [jI r0_4_7.Low,jI r0_4_7.High])] 61 0) ?_
                refine RunC.fin2 (sT [(0,.d (.bool false))] [] 61 0) (by kernel_rfl) (by kernel_rfl) ?_
                obtain rfl:=Option.some.inj h
                exact hK_148 _ (Can.kp (by kernel_rfl))
              ·have h:=ifF hb_164 h
               refine aX 50 (sT [(0,.d (.bool false))] [(60,.row 3 1 (List.map e3 [0,0])),(59,.row 3 1 (List.map e3 [0,1])),(58,.var 33 [jI r0_4_10.Low,jI r0_4_10.High]),(54,.var 33 [jI r0_4_9.Low,jI r0_4_9.High]),(53,.var 33 [jI r0_4_8.Low,jI r0_4_8.High]),(52,.var 33 [jI r0_4_7.Low,jI r0_4_7.High])] 61 0) ?_
               refine RunC.fin2 (sT [(0,.d (.bool false))] [] 61 0) (by kernel_rfl) (by kernel_rfl) ?_
               obtain rfl:=Option.some.inj h
               exact hK_148 _ (Can.kp (by kernel_rfl))
             ·have h:=ifF hb_162 h
              refine aX 55 (sT [(0,.d (.bool false))] [(60,.row 3 1 (List.map e3 [0,0])),(59,.row 3 1 (List.map e3 [0,1])),(58,.var 33 [jI r0_4_10.Low,jI r0_4_10.High]),(54,.var 33 [jI r0_4_9.Low,jI r0_4_9.High]),(53,.var 33 [jI r0_4_8.Low,jI r0_4_8.High]),(52,.var 33 [jI r0_4_7.Low,jI r0_4_7.High])] 61 0) ?_
              refine RunC.fin2 (sT [(0,.d (.bool false))] [] 61 0) (by kernel_rfl) (by kernel_rfl) ?_
              obtain rfl:=Option.some.inj h
              exact hK_148 _ (Can.kp (by kernel_rfl))
            ·have h:=ifF hb_161 h
             refine aX 59 (sT [(0,.d (.bool false))] [(60,.row 3 1 (List.map e3 [0,0])),(59,.row 3 1 (List.map e3 [0,1])),(58,.var 33 [jI r0_4_10.Low,jI r0_4_10.High]),(54,.var 33 [jI r0_4_9.Low,jI r0_4_9.High]),(53,.var 33 [jI r0_4_8.Low,jI r0_4_8.High]),(52,.var 33 [jI r0_4_7.Low,jI r0_4_7.High])] 61 0) ?_
             refine RunC.fin2 (sT [(0,.d (.bool false))] [] 61 0) (by kernel_rfl) (by kernel_rfl) ?_
             obtain rfl:=Option.some.inj h
             exact hK_148 _ (Can.kp (by kernel_rfl))
           ·have h:=ifF hb_159 h
            refine aX 64 (sT [(0,.d (.bool false))] [(60,.row 3 1 (List.map e3 [0,0])),(59,.row 3 1 (List.map e3 [0,1])),(58,.var 33 [jI r0_4_10.Low,jI r0_4_10.High]),(54,.var 33 [jI r0_4_9.Low,jI r0_4_9.High]),(53,.var 33 [jI r0_4_8.Low,jI r0_4_8.High]),(52,.var 33 [jI r0_4_7.Low,jI r0_4_7.High])] 61 0) ?_
            refine RunC.fin2 (sT [(0,.d (.bool false))] [] 61 0) (by kernel_rfl) (by kernel_rfl) ?_
            obtain rfl:=Option.some.inj h
            exact hK_148 _ (Can.kp (by kernel_rfl))
          ·have h:=ifF hb_158 h
           refine aX 68 (sT [(0,.d (.bool false))] [(60,.row 3 1 (List.map e3 [0,0])),(59,.row 3 1 (List.map e3 [0,1])),(58,.var 33 [jI r0_4_10.Low,jI r0_4_10.High]),(54,.var 33 [jI r0_4_9.Low,jI r0_4_9.High]),(53,.var 33 [jI r0_4_8.Low,jI r0_4_8.High]),(52,.var 33 [jI r0_4_7.Low,jI r0_4_7.High])] 61 0) ?_
           refine RunC.fin2 (sT [(0,.d (.bool false))] [] 61 0) (by kernel_rfl) (by kernel_rfl) ?_
           obtain rfl:=Option.some.inj h
           exact hK_148 _ (Can.kp (by kernel_rfl))
         ·have h:=ifF hb_156 h
          refine aX 73 (sT [(0,.d (.bool false))] [(60,.row 3 1 (List.map e3 [0,0])),(59,.row 3 1 (List.map e3 [0,1])),(58,.var 33 [jI r0_4_10.Low,jI r0_4_10.High]),(54,.var 33 [jI r0_4_9.Low,jI r0_4_9.High]),(53,.var 33 [jI r0_4_8.Low,jI r0_4_8.High]),(52,.var 33 [jI r0_4_7.Low,jI r0_4_7.High])] 61 0) ?_
          refine RunC.fin2 (sT [(0,.d (.bool false))] [] 61 0) (by kernel_rfl) (by kernel_rfl) ?_
          obtain rfl:=Option.some.inj h
          exact hK_148 _ (Can.kp (by kernel_rfl))
        ·have h:=ifF hb_155 h
         refine aX 77 (sT [(0,.d (.bool false))] [(60,.row 3 1 (List.map e3 [0,0])),(59,.row 3 1 (List.map e3 [0,1])),(58,.var 33 [jI r0_4_10.Low,jI r0_4_10.High]),(54,.var 33 [jI r0_4_9.Low,jI r0_4_9.High]),(53,.var 33 [jI r0_4_8.Low,jI r0_4_8.High]),(52,.var 33 [jI r0_4_7.Low,jI r0_4_7.High])] 61 0) ?_
         refine RunC.fin2 (sT [(0,.d (.bool false))] [] 61 0) (by kernel_rfl) (by kernel_rfl) ?_
         obtain rfl:=Option.some.inj h
         exact hK_148 _ (Can.kp (by kernel_rfl))
       ·have h:=ifF hb_153 h
        refine aX 82 (sT [(0,.d (.bool false))] [(59,.row 3 1 (List.map e3 [0,1])),(58,.var 33 [jI r0_4_10.Low,jI r0_4_10.High]),(54,.var 33 [jI r0_4_9.Low,jI r0_4_9.High]),(53,.var 33 [jI r0_4_8.Low,jI r0_4_8.High]),(52,.var 33 [jI r0_4_7.Low,jI r0_4_7.High])] 60 0) ?_
        refine RunC.fin2 (sT [(0,.d (.bool false))] [] 60 0) (by kernel_rfl) (by kernel_rfl) ?_
        obtain rfl:=Option.some.inj h
        exact hK_148 _ (Can.kp (by kernel_rfl))
      ·have h:=ifF hb_152 h
       refine aX 86 (sT [(0,.d (.bool false))] [(59,.row 3 1 (List.map e3 [0,1])),(58,.var 33 [jI r0_4_10.Low,jI r0_4_10.High]),(54,.var 33 [jI r0_4_9.Low,jI r0_4_9.High]),(53,.var 33 [jI r0_4_8.Low,jI r0_4_8.High]),(52,.var 33 [jI r0_4_7.Low,jI r0_4_7.High])] 60 0) ?_
       refine RunC.fin2 (sT [(0,.d (.bool false))] [] 60 0) (by kernel_rfl) (by kernel_rfl) ?_
       obtain rfl:=Option.some.inj h
       exact hK_148 _ (Can.kp (by kernel_rfl))
     ·have h:=ifF hb_150 h
      refine aX 91 (sT [(0,.d (.bool false))] [(58,.var 33 [jI r0_4_10.Low,jI r0_4_10.High]),(54,.var 33 [jI r0_4_9.Low,jI r0_4_9.High]),(53,.var 33 [jI r0_4_8.Low,jI r0_4_8.High]),(52,.var 33 [jI r0_4_7.Low,jI r0_4_7.High])] 59 0) ?_
      refine RunC.fin2 (sT [(0,.d (.bool false))] [] 59 0) (by kernel_rfl) (by kernel_rfl) ?_
      obtain rfl:=Option.some.inj h
      exact hK_148 _ (Can.kp (by kernel_rfl))
    ·obtain rfl:=Option.some.inj h
     exact rT hR_0 (.cons (.tmp rfl) .nil)
end Go.Proofs.Tm
