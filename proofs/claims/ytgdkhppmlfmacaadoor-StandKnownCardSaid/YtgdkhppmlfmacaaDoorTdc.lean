/- Told functions, and that the program does so, part 3. Conditions: none. -/
import Derived.Test.YtgdkhppmlfmacaaDoorTdb
set_option linter.unusedVariables false
set_option linter.unusedSimpArgs false
namespace Go.Proofs.Tk
open Go Go.Abs Go.Proofs
def g3_35:Int→StandBook→Unit→Option (Ctl (Unit) (Bool)):=fun A p2 _=>(g11 p2).bind fun (r0_1_2,r1_1)=>(g12 p2 0 0).bind fun (r0_6_1,r1_6)=>(g13 p2 0 0).bind fun (r0_3_1,r1_4)=>(g14 p2 0).bind fun (r0_4_1,r1_4_1)=>(g15 p2).bind fun (r0_4_2,r1_5)=>(g16 p2 0).bind fun (r0_4_3,r1_5_1)=>(g17 p2 61).bind fun (r0_5_1,r1_5_2)=>(g18 p2).bind fun (r0_4_4,r1_5_3)=>(g19 p2).bind fun (r0_2_4,r1_2)=>(g20 p2).bind fun A1=>bif ((((((((((decide (A1≠20))||(decide (r1_1≠20)))||(decide (r1_6≠20)))||(decide (r1_4≠20)))||(decide (r1_4_1≠20)))||(decide (r1_5≠20)))||(decide (r1_5_1≠20)))||(decide (r1_5_2≠20)))||(decide (r1_5_3≠20)))||(decide (r1_2≠20))) then (some (.brk false)) else (some (.next ()))
def g3 :Option Bool:=(g6).bind fun r0=>(g6).bind fun r0_1=>(g6).bind fun r0_2=>(g6).bind fun r0_3=>(g6).bind fun r0_4=>(g6a).bind fun (r0_Kind1,r0_Front1,r0_Back1,r0_Radius1,r0_Parts1,r0_Along1,r0_High1,r0_Lean_1,r0_Limit1,r0_Trials1)=>(g6a).bind fun (r0_Kind1_1,r0_Front1_1,r0_Back1_1,r0_Radius1_1,r0_Parts1_1,r0_Along1_1,r0_High1_1,r0_Lean_1_1,r0_Limit1_1,r0_Trials1_1)=>(g6).bind fun r0_5=>(g6).bind fun r0_6=>(g6).bind fun r0_7=>(g7).bind fun r0_1_1=>(mkL2 24 6 6 (StandTrial.mk 0 0 false)).bind fun l=>(g8 l).bind fun r0_2_1=>(g9 31 0 false).bind fun r0_8=>(g8 [r0_8]).bind fun r0_2_2=>(g9 1 9 false).bind fun r0_9=>(g8 [r0_9]).bind fun r0_2_3=>(g10 20 25).bind fun r0_10=>(ixL r0_Parts1 0).bind fun p=>(ixL r0_Parts1_1 1).bind fun p1=>(some ([(StandBook.mk 0 0 0 0 ([]:List StandPart) 0 0 0 0 ([]:List StandTrial)),(StandBook.mk 2 r0.Front r0.Back r0.Radius r0.Parts r0.Along r0.High r0.Lean_ r0.Limit r0.Trials),(StandBook.mk r0_1.Kind 0 r0_1.Back r0_1.Radius r0_1.Parts r0_1.Along r0_1.High r0_1.Lean_ r0_1.Limit r0_1.Trials),(StandBook.mk r0_2.Kind r0_2.Front 61 r0_2.Radius r0_2.Parts r0_2.Along r0_2.High r0_2.Lean_ r0_2.Limit r0_2.Trials),(StandBook.mk r0_3.Kind r0_3.Front r0_3.Back 1 r0_3.Parts r0_3.Along r0_3.High r0_3.Lean_ r0_3.Limit r0_3.Trials),(StandBook.mk r0_4.Kind r0_4.Front r0_4.Back r0_4.Radius ([]:List StandPart) r0_4.Along r0_4.High r0_4.Lean_ r0_4.Limit r0_4.Trials),(StandBook.mk r0_Kind1 r0_Front1 r0_Back1 r0_Radius1 (setL r0_Parts1 0 (StandPart.mk r0_10 p.Along p.High)) r0_Along1 r0_High1 r0_Lean_1 r0_Limit1 r0_Trials1),(StandBook.mk r0_Kind1_1 r0_Front1_1 r0_Back1_1 r0_Radius1_1 (setL r0_Parts1_1 1 (StandPart.mk p1.Weight (-61) p1.High)) r0_Along1_1 r0_High1_1 r0_Lean_1_1 r0_Limit1_1 r0_Trials1_1),(StandBook.mk r0_5.Kind r0_5.Front r0_5.Back r0_5.Radius r0_5.Parts r0_5.Along 61 r0_5.Lean_ r0_5.Limit r0_5.Trials),(StandBook.mk r0_6.Kind r0_6.Front r0_6.Back r0_6.Radius r0_6.Parts r0_6.Along r0_6.High 13 r0_6.Limit r0_6.Trials),(StandBook.mk r0_7.Kind r0_7.Front r0_7.Back r0_7.Radius r0_7.Parts r0_7.Along r0_7.High r0_7.Lean_ 61 r0_7.Trials),(StandBook.mk r0_1_1.Kind r0_1_1.Front r0_1_1.Back 0 r0_1_1.Parts r0_1_1.Along r0_1_1.High r0_1_1.Lean_ r0_1_1.Limit r0_1_1.Trials),r0_2_1,r0_2_2,r0_2_3]:List StandBook)).bind fun o=>bindC (eachC g3_35 o 0 ()) fun _=>(g21).bind fun r0_3_2=>(g12 r0_3_2 0 0).bind fun (r0_6_2,r1_6_1)=>(g21).bind fun r0_3_3=>(g12 r0_3_3 1 (-9)).bind fun (r0_6_3,r1_6_2)=>(g21).bind fun r0_3_4=>(g13 r0_3_4 31 0).bind fun (r0_3_5,r1_4_2)=>(g21).bind fun r0_3_6=>(g14 r0_3_6 31).bind fun (r0_4_5,r1_4_3)=>(g21).bind fun r0_3_7=>(g16 r0_3_7 0).bind fun (r0_4_6,r1_5_4)=>(g21).bind fun r0_3_8=>(g17 r0_3_8 (-61)).bind fun (r0_5_2,r1_5_5)=>(g21).bind fun r0_3_9=>(g12 r0_3_9 1 0).bind fun (r0_6_4,r1_6_3)=>(g21).bind fun r0_3_10=>(g15 r0_3_10).bind fun (r0_4_7,r1_5_6)=>(g21).bind fun r0_3_11=>(g18 r0_3_11).bind fun (r0_4_8,r1_5_7)=>(g6).bind fun r0_11=>(g17 r0_11 (-4)).bind fun (r0_5_3,r1_5_8)=>bif ((((((((((decide (r1_6_1≠21))||(decide (r1_6_2≠21)))||(decide (r1_4_2≠21)))||(decide (r1_4_3≠21)))||(decide (r1_5_4≠21)))||(decide (r1_5_5≠21)))||(decide (r1_6_3≠22)))||(decide (r1_5_6≠22)))||(decide (r1_5_7≠22)))||(decide (r1_5_8≠4))) then (some false) else ((g6).bind fun r0_12=>(g12 r0_12 19 (-8)).bind fun (r0_6_5,r1_6_4)=>(g6).bind fun r0_13=>(g12 r0_13 23 (-8)).bind fun (r0_6_6,r1_6_5)=>(g22).bind fun r0_1_3=>(g12 r0_1_3 20 (-8)).bind fun (r0_6_7,r1_6_6)=>(g6).bind fun r0_14=>(g13 r0_14 20 (-8)).bind fun (r0_3_12,r1_4_4)=>(g6).bind fun r0_15=>(g14 r0_15 20).bind fun (r0_4_9,r1_4_5)=>(g22).bind fun r0_1_4=>(g14 r0_1_4 21).bind fun (r0_4_10,r1_4_6)=>(g6).bind fun r0_16=>(g15 r0_16).bind fun (r0_4_11,r1_5_9)=>(g6).bind fun r0_17=>(g16 r0_17 30).bind fun (r0_4_12,r1_5_10)=>(g22).bind fun r0_1_5=>(g18 r0_1_5).bind fun (r0_4_13,r1_5_11)=>(g21).bind fun r0_3_13=>(g11 r0_3_13).bind fun (r0_1_6,r1_1_1)=>bindC ((bif (decide (r1_6_4≠0)) then (some true) else (bif (decide (r0_6_5≠0)) then (some true) else (bif (decide (r1_6_5≠0)) then (some true) else (bif (decide (r0_6_6≠2)) then (some true) else (bif (decide (r1_6_6≠0)) then (some true) else (bif (decide (r0_6_7≠0)) then (some true) else (bif (decide (r1_4_4≠0)) then (some true) else ((g23 (-1) 11).bind fun r0_18=>bif (true != ((r0_3_12.Top==r0_18.Top)&&((r0_3_12.Bottom==r0_18.Bottom)&&true))) then (some true) else (bif (decide (r1_4_5≠0)) then (some true) else (bif r0_4_9 then (some true) else (bif (decide (r1_4_6≠0)) then (some true) else (bif (!r0_4_10) then (some true) else (bif (decide (r1_5_9≠0)) then (some true) else (bif (decide (r0_4_11≠20)) then (some true) else (bif (decide (r1_5_10≠0)) then (some true) else ((g10 (-5) 8).bind fun r0_19=>bif (true != ((r0_4_12.Low==r0_19.Low)&&((r0_4_12.High==r0_19.High)&&true))) then (some true) else (bif (decide (r1_5_11≠0)) then (some true) else (bif (decide (r0_4_13≠2)) then (some true) else (bif (decide (r1_1_1≠0)) then (some true) else (some r0_1_6)))))))))))))))))))).bind fun v=>bif v then (some (.brk false)) else (some (.next ())):Option (Ctl (Unit) (Bool))) fun _=>(g7).bind fun r0_1_7=>(g12 r0_1_7 30 (-8)).bind fun (r0_6_8,r1_6_7)=>(g7).bind fun r0_1_8=>(g15 r0_1_8).bind fun (r0_4_14,r1_5_12)=>(g6).bind fun r0_20=>(g16 (StandBook.mk r0_20.Kind r0_20.Front 1 r0_20.Radius r0_20.Parts 60 r0_20.High r0_20.Lean_ r0_20.Limit r0_20.Trials) 30).bind fun (r0_4_15,r1_5_13)=>(g22).bind fun r0_1_9=>(g19 r0_1_9).bind fun (r0_2_5,r1_2_1)=>(bif (decide (r1_6_7=0)) then (bif (decide (r0_6_8=1)) then (bif (decide (r1_5_12=0)) then (bif (decide (r0_4_14=28)) then (bif (decide (r1_5_13=4)) then ((g24 0).bind fun r0_21=>bif (false != ((r0_4_15.Low==r0_21.Low)&&((r0_4_15.High==r0_21.High)&&true))) then (bif (decide (r1_2_1=0)) then (bif (decide ((r0_2_5.length:Int)=0)) then ((g25).bind fun t2=>some t2) else (some false)) else (some false)) else (some false)) else (some false)) else (some false)) else (some false)) else (some false)) else (some false)).bind fun t=>some t)
theorem k3  (r:Bool) (h:g3=some r):SCall Tryd.prog Gs 3 [] [] 0 Fr.emp (.d (.bool r)) [] 0 Fr.emp:=by
 unfold g3 at h
 refine SCall.mkK Tryd.func3 c3 rfl rfl (by kernel_rfl) (fun Q_0 hR_0 hN_0=>?_)
 refine Sa (sT [] [] 0 0) ?_
 refine AW.sdrwK fokW (fun Q_1 hQ_1=>?_)
 refine aX 1 (sT [(56,.agg [jI 0,jI 0,jI 0,jI 0,.d (.nilSl),jI 0,jI 0,jI 0,jI 0,.d (.nilSl)])] [] 0 0) ?_
 obtain ⟨r0,hx_2,h⟩:=bsome h
 refine r_call trivial rfl (k6 _ hx_2) rfl rfl ?_
 obtain ⟨r0_1,hx_3,h⟩:=bsome h
 refine r_call trivial rfl (k6 _ hx_3) rfl rfl ?_
 obtain ⟨r0_2,hx_4,h⟩:=bsome h
 refine r_call trivial rfl (k6 _ hx_4) rfl rfl ?_
 obtain ⟨r0_3,hx_5,h⟩:=bsome h
 refine r_call trivial rfl (k6 _ hx_5) rfl rfl ?_
 obtain ⟨r0_4,hx_6,h⟩:=bsome h
 refine r_call trivial rfl (k6 _ hx_6) rfl rfl ?_
 obtain ⟨⟨r0_Kind1,r0_Front1,r0_Back1,r0_Radius1,r0_Parts1,r0_Along1,r0_High1,r0_Lean_1,r0_Limit1,r0_Trials1⟩,hx_7,h⟩:=bsome h
 refine r_callS (zr:=[]) [] trivial rfl (k6a _ hx_7) trivial rfl rfl trivial rfl rfl rfl ?_
 obtain ⟨⟨r0_Kind1_1,r0_Front1_1,r0_Back1_1,r0_Radius1_1,r0_Parts1_1,r0_Along1_1,r0_High1_1,r0_Lean_1_1,r0_Limit1_1,r0_Trials1_1⟩,hx_8,h⟩:=bsome h
 refine r_callS (zr:=[]) [] trivial rfl (k6a _ hx_8) trivial rfl rfl trivial rfl rfl rfl ?_
 obtain ⟨r0_5,hx_9,h⟩:=bsome h
 refine r_call trivial rfl (k6 _ hx_9) rfl rfl ?_
 obtain ⟨r0_6,hx_10,h⟩:=bsome h
 refine r_call trivial rfl (k6 _ hx_10) rfl rfl ?_
 obtain ⟨r0_7,hx_11,h⟩:=bsome h
 refine r_call trivial rfl (k6 _ hx_11) rfl rfl ?_
 obtain ⟨r0_1_1,hx_12,h⟩:=bsome h
 refine r_call trivial rfl (k7 _ hx_12) rfl rfl ?_
 obtain ⟨l,hv_13,h⟩:=bsome h
 refine r_mkX e29 trivial rfl rfl hv_13 rfl ?_
 obtain ⟨r0_2_1,hx_14,h⟩:=bsome h
 refine r_callZ (zr:=[(6,.row 29 3 (List.map e29 l))]) trivial rfl (k8 l _ hx_14) ⟨rfl,trivial⟩ ⟨(.own rfl rfl),trivial⟩ rfl rfl rfl rfl ?_
 obtain ⟨r0_8,hx_15,h⟩:=bsome h
 refine r_call trivial rfl (k9 31 0 false _ hx_15) rfl rfl ?_
 refine aX 1 (sT [(56,.agg [jI 0,jI 0,jI 0,jI 0,.d (.nilSl),jI 0,jI 0,jI 0,jI 0,.d (.nilSl)]),(57,.agg [jI r0.Kind,jI r0.Front,jI r0.Back,jI r0.Radius,.d (.sl 4 (List.map e36 r0.Parts)),jI r0.Along,jI r0.High,jI r0.Lean_,jI r0.Limit,.d (.sl 3 (List.map e29 r0.Trials))]),(58,.agg [jI r0_1.Kind,jI r0_1.Front,jI r0_1.Back,jI r0_1.Radius,.d (.sl 4 (List.map e36 r0_1.Parts)),jI r0_1.Along,jI r0_1.High,jI r0_1.Lean_,jI r0_1.Limit,.d (.sl 3 (List.map e29 r0_1.Trials))]),(59,.agg [jI r0_2.Kind,jI r0_2.Front,jI r0_2.Back,jI r0_2.Radius,.d (.sl 4 (List.map e36 r0_2.Parts)),jI r0_2.Along,jI r0_2.High,jI r0_2.Lean_,jI r0_2.Limit,.d (.sl 3 (List.map e29 r0_2.Trials))]),(60,.agg [jI r0_3.Kind,jI r0_3.Front,jI r0_3.Back,jI r0_3.Radius,.d (.sl 4 (List.map e36 r0_3.Parts)),jI r0_3.Along,jI r0_3.High,jI r0_3.Lean_,jI r0_3.Limit,.d (.sl 3 (List.map e29 r0_3.Trials))]),(61,.agg [jI r0_4.Kind,jI r0_4.Front,jI r0_4.Back,jI r0_4.Radius,.d (.sl 4 (List.map e36 r0_4.Parts)),jI r0_4.Along,jI r0_4.High,jI r0_4.Lean_,jI r0_4.Limit,.d (.sl 3 (List.map e29 r0_4.Trials))]),(62,.agg [jI r0_Kind1,jI r0_Front1,jI r0_Back1,jI r0_Radius1,.own 2 (List.map e36 r0_Parts1).length,jI r0_Along1,jI r0_High1,jI r0_Lean_1,jI r0_Limit1,.d (.sl 3 (List.map e29 r0_Trials1))]),(63,.agg [jI r0_Kind1_1,jI r0_Front1_1,jI r0_Back1_1,jI r0_Radius1_1,.own 5 (List.map e36 r0_Parts1_1).length,jI r0_Along1_1,jI r0_High1_1,jI r0_Lean_1_1,jI r0_Limit1_1,.d (.sl 3 (List.map e29 r0_Trials1_1))]),(64,.agg [jI r0_5.Kind,jI r0_5.Front,jI r0_5.Back,jI r0_5.Radius,.d (.sl 4 (List.map e36 r0_5.Parts)),jI r0_5.Along,jI r0_5.High,jI r0_5.Lean_,jI r0_5.Limit,.d (.sl 3 (List.map e29 r0_5.Trials))]),(65,.agg [jI r0_6.Kind,jI r0_6.Front,jI r0_6.Back,jI r0_6.Radius,.d (.sl 4 (List.map e36 r0_6.Parts)),jI r0_6.Along,jI r0_6.High,jI r0_6.Lean_,jI r0_6.Limit,.d (.sl 3 (List.map e29 r0_6.Trials))]),(66,.agg [jI r0_7.Kind,jI r0_7.Front,jI r0_7.Back,jI r0_7.Radius,.d (.sl 4 (List.map e36 r0_7.Parts)),jI r0_7.Along,jI r0_7.High,jI r0_7.Lean_,jI r0_7.Limit,.d (.sl 3 (List.map e29 r0_7.Trials))]),(67,.agg [jI r0_1_1.Kind,jI r0_1_1.Front,jI r0_1_1.Back,jI r0_1_1.Radius,.d (.sl 4 (List.map e36 r0_1_1.Parts)),jI r0_1_1.Along,jI r0_1_1.High,jI r0_1_1.Lean_,jI r0_1_1.Limit,.d (.sl 3 (List.map e29 r0_1_1.Trials))]),(69,.agg [jI r0_2_1.Kind,jI r0_2_1.Front,jI r0_2_1.Back,jI r0_2_1.Radius,.d (.sl 4 (List.map e36 r0_2_1.Parts)),jI r0_2_1.Along,jI r0_2_1.High,jI r0_2_1.Lean_,jI r0_2_1.Limit,.d (.sl 3 (List.map e29 r0_2_1.Trials))]),(71,.own 7 (List.map e29 [r0_8]).length)] [(7,.row 29 3 (List.map e29 [r0_8])),(6,.dead),(5,.row 36 4 (List.map e36 r0_Parts1_1)),(2,.row 36 4 (List.map e36 r0_Parts1))] 8 0) ?_
 obtain ⟨r0_2_2,hx_16,h⟩:=bsome h
 refine r_callZ (zr:=[(7,.row 29 3 (List.map e29 [r0_8]))]) trivial rfl (k8 [r0_8] _ hx_16) ⟨rfl,trivial⟩ ⟨(.own rfl rfl),trivial⟩ rfl rfl rfl rfl ?_
 obtain ⟨r0_9,hx_17,h⟩:=bsome h
 refine r_call trivial rfl (k9 1 9 false _ hx_17) rfl rfl ?_
 refine aX 1 (sT [(56,.agg [jI 0,jI 0,jI 0,jI 0,.d (.nilSl),jI 0,jI 0,jI 0,jI 0,.d (.nilSl)]),(57,.agg [jI r0.Kind,jI r0.Front,jI r0.Back,jI r0.Radius,.d (.sl 4 (List.map e36 r0.Parts)),jI r0.Along,jI r0.High,jI r0.Lean_,jI r0.Limit,.d (.sl 3 (List.map e29 r0.Trials))]),(58,.agg [jI r0_1.Kind,jI r0_1.Front,jI r0_1.Back,jI r0_1.Radius,.d (.sl 4 (List.map e36 r0_1.Parts)),jI r0_1.Along,jI r0_1.High,jI r0_1.Lean_,jI r0_1.Limit,.d (.sl 3 (List.map e29 r0_1.Trials))]),(59,.agg [jI r0_2.Kind,jI r0_2.Front,jI r0_2.Back,jI r0_2.Radius,.d (.sl 4 (List.map e36 r0_2.Parts)),jI r0_2.Along,jI r0_2.High,jI r0_2.Lean_,jI r0_2.Limit,.d (.sl 3 (List.map e29 r0_2.Trials))]),(60,.agg [jI r0_3.Kind,jI r0_3.Front,jI r0_3.Back,jI r0_3.Radius,.d (.sl 4 (List.map e36 r0_3.Parts)),jI r0_3.Along,jI r0_3.High,jI r0_3.Lean_,jI r0_3.Limit,.d (.sl 3 (List.map e29 r0_3.Trials))]),(61,.agg [jI r0_4.Kind,jI r0_4.Front,jI r0_4.Back,jI r0_4.Radius,.d (.sl 4 (List.map e36 r0_4.Parts)),jI r0_4.Along,jI r0_4.High,jI r0_4.Lean_,jI r0_4.Limit,.d (.sl 3 (List.map e29 r0_4.Trials))]),(62,.agg [jI r0_Kind1,jI r0_Front1,jI r0_Back1,jI r0_Radius1,.own 2 (List.map e36 r0_Parts1).length,jI r0_Along1,jI r0_High1,jI r0_Lean_1,jI r0_Limit1,.d (.sl 3 (List.map e29 r0_Trials1))]),(63,.agg [jI r0_Kind1_1,jI r0_Front1_1,jI r0_Back1_1,jI r0_Radius1_1,.own 5 (List.map e36 r0_Parts1_1).length,jI r0_Along1_1,jI r0_High1_1,jI r0_Lean_1_1,jI r0_Limit1_1,.d (.sl 3 (List.map e29 r0_Trials1_1))]),(64,.agg [jI r0_5.Kind,jI r0_5.Front,jI r0_5.Back,jI r0_5.Radius,.d (.sl 4 (List.map e36 r0_5.Parts)),jI r0_5.Along,jI r0_5.High,jI r0_5.Lean_,jI r0_5.Limit,.d (.sl 3 (List.map e29 r0_5.Trials))]),(65,.agg [jI r0_6.Kind,jI r0_6.Front,jI r0_6.Back,jI r0_6.Radius,.d (.sl 4 (List.map e36 r0_6.Parts)),jI r0_6.Along,jI r0_6.High,jI r0_6.Lean_,jI r0_6.Limit,.d (.sl 3 (List.map e29 r0_6.Trials))]),(66,.agg [jI r0_7.Kind,jI r0_7.Front,jI r0_7.Back,jI r0_7.Radius,.d (.sl 4 (List.map e36 r0_7.Parts)),jI r0_7.Along,jI r0_7.High,jI r0_7.Lean_,jI r0_7.Limit,.d (.sl 3 (List.map e29 r0_7.Trials))]),(67,.agg [jI r0_1_1.Kind,jI r0_1_1.Front,jI r0_1_1.Back,jI r0_1_1.Radius,.d (.sl 4 (List.map e36 r0_1_1.Parts)),jI r0_1_1.Along,jI r0_1_1.High,jI r0_1_1.Lean_,jI r0_1_1.Limit,.d (.sl 3 (List.map e29 r0_1_1.Trials))]),(69,.agg [jI r0_2_1.Kind,jI r0_2_1.Front,jI r0_2_1.Back,jI r0_2_1.Radius,.d (.sl 4 (List.map e36 r0_2_1.Parts)),jI r0_2_1.Along,jI r0_2_1.High,jI r0_2_1.Lean_,jI r0_2_1.Limit,.d (.sl 3 (List.map e29 r0_2_1.Trials))]),(72,.agg [jI r0_2_2.Kind,jI r0_2_2.Front,jI r0_2_2.Back,jI r0_2_2.Radius,.d (.sl 4 (List.map e36 r0_2_2.Parts)),jI r0_2_2.Along,jI r0_2_2.High,jI r0_2_2.Lean_,jI r0_2_2.Limit,.d (.sl 3 (List.map e29 r0_2_2.Trials))]),(74,.own 8 (List.map e29 [r0_9]).length)] [(8,.row 29 3 (List.map e29 [r0_9])),(7,.dead),(6,.dead),(5,.row 36 4 (List.map e36 r0_Parts1_1)),(2,.row 36 4 (List.map e36 r0_Parts1))] 9 0) ?_
 obtain ⟨r0_2_3,hx_18,h⟩:=bsome h
 refine r_callZ (zr:=[(8,.row 29 3 (List.map e29 [r0_9]))]) trivial rfl (k8 [r0_9] _ hx_18) ⟨rfl,trivial⟩ ⟨(.own rfl rfl),trivial⟩ rfl rfl rfl rfl ?_
 refine r_bslA (vs:=[.agg [jI 0,jI 0,jI 0,jI 0,.d (.nilSl),jI 0,jI 0,jI 0,jI 0,.d (.nilSl)],.agg [jI r0.Kind,jI r0.Front,jI r0.Back,jI r0.Radius,.d (.sl 4 (List.map e36 r0.Parts)),jI r0.Along,jI r0.High,jI r0.Lean_,jI r0.Limit,.d (.sl 3 (List.map e29 r0.Trials))],.agg [jI r0_1.Kind,jI r0_1.Front,jI r0_1.Back,jI r0_1.Radius,.d (.sl 4 (List.map e36 r0_1.Parts)),jI r0_1.Along,jI r0_1.High,jI r0_1.Lean_,jI r0_1.Limit,.d (.sl 3 (List.map e29 r0_1.Trials))],.agg [jI r0_2.Kind,jI r0_2.Front,jI r0_2.Back,jI r0_2.Radius,.d (.sl 4 (List.map e36 r0_2.Parts)),jI r0_2.Along,jI r0_2.High,jI r0_2.Lean_,jI r0_2.Limit,.d (.sl 3 (List.map e29 r0_2.Trials))],.agg [jI r0_3.Kind,jI r0_3.Front,jI r0_3.Back,jI r0_3.Radius,.d (.sl 4 (List.map e36 r0_3.Parts)),jI r0_3.Along,jI r0_3.High,jI r0_3.Lean_,jI r0_3.Limit,.d (.sl 3 (List.map e29 r0_3.Trials))],.agg [jI r0_4.Kind,jI r0_4.Front,jI r0_4.Back,jI r0_4.Radius,.d (.sl 4 (List.map e36 r0_4.Parts)),jI r0_4.Along,jI r0_4.High,jI r0_4.Lean_,jI r0_4.Limit,.d (.sl 3 (List.map e29 r0_4.Trials))],.agg [jI r0_Kind1,jI r0_Front1,jI r0_Back1,jI r0_Radius1,.own 2 (List.map e36 r0_Parts1).length,jI r0_Along1,jI r0_High1,jI r0_Lean_1,jI r0_Limit1,.d (.sl 3 (List.map e29 r0_Trials1))],.agg [jI r0_Kind1_1,jI r0_Front1_1,jI r0_Back1_1,jI r0_Radius1_1,.own 5 (List.map e36 r0_Parts1_1).length,jI r0_Along1_1,jI r0_High1_1,jI r0_Lean_1_1,jI r0_Limit1_1,.d (.sl 3 (List.map e29 r0_Trials1_1))],.agg [jI r0_5.Kind,jI r0_5.Front,jI r0_5.Back,jI r0_5.Radius,.d (.sl 4 (List.map e36 r0_5.Parts)),jI r0_5.Along,jI r0_5.High,jI r0_5.Lean_,jI r0_5.Limit,.d (.sl 3 (List.map e29 r0_5.Trials))],.agg [jI r0_6.Kind,jI r0_6.Front,jI r0_6.Back,jI r0_6.Radius,.d (.sl 4 (List.map e36 r0_6.Parts)),jI r0_6.Along,jI r0_6.High,jI r0_6.Lean_,jI r0_6.Limit,.d (.sl 3 (List.map e29 r0_6.Trials))],.agg [jI r0_7.Kind,jI r0_7.Front,jI r0_7.Back,jI r0_7.Radius,.d (.sl 4 (List.map e36 r0_7.Parts)),jI r0_7.Along,jI r0_7.High,jI r0_7.Lean_,jI r0_7.Limit,.d (.sl 3 (List.map e29 r0_7.Trials))],.agg [jI r0_1_1.Kind,jI r0_1_1.Front,jI r0_1_1.Back,jI r0_1_1.Radius,.d (.sl 4 (List.map e36 r0_1_1.Parts)),jI r0_1_1.Along,jI r0_1_1.High,jI r0_1_1.Lean_,jI r0_1_1.Limit,.d (.sl 3 (List.map e29 r0_1_1.Trials))],.agg [jI r0_2_1.Kind,jI r0_2_1.Front,jI r0_2_1.Back,jI r0_2_1.Radius,.d (.sl 4 (List.map e36 r0_2_1.Parts)),jI r0_2_1.Along,jI r0_2_1.High,jI r0_2_1.Lean_,jI r0_2_1.Limit,.d (.sl 3 (List.map e29 r0_2_1.Trials))],.agg [jI r0_2_2.Kind,jI r0_2_2.Front,jI r0_2_2.Back,jI r0_2_2.Radius,.d (.sl 4 (List.map e36 r0_2_2.Parts)),jI r0_2_2.Along,jI r0_2_2.High,jI r0_2_2.Lean_,jI r0_2_2.Limit,.d (.sl 3 (List.map e29 r0_2_2.Trials))],.agg [jI r0_2_3.Kind,jI r0_2_3.Front,jI r0_2_3.Back,jI r0_2_3.Radius,.d (.sl 4 (List.map e36 r0_2_3.Parts)),jI r0_2_3.Along,jI r0_2_3.High,jI r0_2_3.Lean_,jI r0_2_3.Limit,.d (.sl 3 (List.map e29 r0_2_3.Trials))]]) (out:=[jI 0,jI 0,jI 0,jI 0,.d (.nilSl),jI 0,jI 0,jI 0,jI 0,.d (.nilSl),jI r0.Kind,jI r0.Front,jI r0.Back,jI r0.Radius,.d (.sl 4 (List.map e36 r0.Parts)),jI r0.Along,jI r0.High,jI r0.Lean_,jI r0.Limit,.d (.sl 3 (List.map e29 r0.Trials)),jI r0_1.Kind,jI r0_1.Front,jI r0_1.Back,jI r0_1.Radius,.d (.sl 4 (List.map e36 r0_1.Parts)),jI r0_1.Along,jI r0_1.High,jI r0_1.Lean_,jI r0_1.Limit,.d (.sl 3 (List.map e29 r0_1.Trials)),jI r0_2.Kind,jI r0_2.Front,jI r0_2.Back,jI r0_2.Radius,.d (.sl 4 (List.map e36 r0_2.Parts)),jI r0_2.Along,jI r0_2.High,jI r0_2.Lean_,jI r0_2.Limit,.d (.sl 3 (List.map e29 r0_2.Trials)),jI r0_3.Kind,jI r0_3.Front,jI r0_3.Back,jI r0_3.Radius,.d (.sl 4 (List.map e36 r0_3.Parts)),jI r0_3.Along,jI r0_3.High,jI r0_3.Lean_,jI r0_3.Limit,.d (.sl 3 (List.map e29 r0_3.Trials)),jI r0_4.Kind,jI r0_4.Front,jI r0_4.Back,jI r0_4.Radius,.d (.sl 4 (List.map e36 r0_4.Parts)),jI r0_4.Along,jI r0_4.High,jI r0_4.Lean_,jI r0_4.Limit,.d (.sl 3 (List.map e29 r0_4.Trials)),jI r0_Kind1,jI r0_Front1,jI r0_Back1,jI r0_Radius1,.own 2 (List.map e36 r0_Parts1).length,jI r0_Along1,jI r0_High1,jI r0_Lean_1,jI r0_Limit1,.d (.sl 3 (List.map e29 r0_Trials1)),jI r0_Kind1_1,jI r0_Front1_1,jI r0_Back1_1,jI r0_Radius1_1,.own 5 (List.map e36 r0_Parts1_1).length,jI r0_Along1_1,jI r0_High1_1,jI r0_Lean_1_1,jI r0_Limit1_1,.d (.sl 3 (List.map e29 r0_Trials1_1)),jI r0_5.Kind,jI r0_5.Front,jI r0_5.Back,jI r0_5.Radius,.d (.sl 4 (List.map e36 r0_5.Parts)),jI r0_5.Along,jI r0_5.High,jI r0_5.Lean_,jI r0_5.Limit,.d (.sl 3 (List.map e29 r0_5.Trials)),jI r0_6.Kind,jI r0_6.Front,jI r0_6.Back,jI r0_6.Radius,.d (.sl 4 (List.map e36 r0_6.Parts)),jI r0_6.Along,jI r0_6.High,jI r0_6.Lean_,jI r0_6.Limit,.d (.sl 3 (List.map e29 r0_6.Trials)),jI r0_7.Kind,jI r0_7.Front,jI r0_7.Back,jI r0_7.Radius,.d (.sl 4 (List.map e36 r0_7.Parts)),jI r0_7.Along,jI r0_7.High,jI r0_7.Lean_,jI r0_7.Limit,.d (.sl 3 (List.map e29 r0_7.Trials)),jI r0_1_1.Kind,jI r0_1_1.Front,jI r0_1_1.Back,jI r0_1_1.Radius,.d (.sl 4 (List.map e36 r0_1_1.Parts)),jI r0_1_1.Along,jI r0_1_1.High,jI r0_1_1.Lean_,jI r0_1_1.Limit,.d (.sl 3 (List.map e29 r0_1_1.Trials)),jI r0_2_1.Kind,jI r0_2_1.Front,jI r0_2_1.Back,jI r0_2_1.Radius,.d (.sl 4 (List.map e36 r0_2_1.Parts)),jI r0_2_1.Along,jI r0_2_1.High,jI r0_2_1.Lean_,jI r0_2_1.Limit,.d (.sl 3 (List.map e29 r0_2_1.Trials)),jI r0_2_2.Kind,jI r0_2_2.Front,jI r0_2_2.Back,jI r0_2_2.Radius,.d (.sl 4 (List.map e36 r0_2_2.Parts)),jI r0_2_2.Along,jI r0_2_2.High,jI r0_2_2.Lean_,jI r0_2_2.Limit,.d (.sl 3 (List.map e29 r0_2_2.Trials)),jI r0_2_3.Kind,jI r0_2_3.Front,jI r0_2_3.Back,jI r0_2_3.Radius,.d (.sl 4 (List.map e36 r0_2_3.Parts)),jI r0_2_3.Along,jI r0_2_3.High,jI r0_2_3.Lean_,jI r0_2_3.Limit,.d (.sl 3 (List.map e29 r0_2_3.Trials))]) trivial (by kernel_rfl) (by kernel_rfl) rfl rfl rfl ?_
 refine aX 1 (sT [(1,.asl 9 15)] [(9,.arr 25 [jI 0,jI 0,jI 0,jI 0,.d (.nilSl),jI 0,jI 0,jI 0,jI 0,.d (.nilSl),jI r0.Kind,jI r0.Front,jI r0.Back,jI r0.Radius,.d (.sl 4 (List.map e36 r0.Parts)),jI r0.Along,jI r0.High,jI r0.Lean_,jI r0.Limit,.d (.sl 3 (List.map e29 r0.Trials)),jI r0_1.Kind,jI r0_1.Front,jI r0_1.Back,jI r0_1.Radius,.d (.sl 4 (List.map e36 r0_1.Parts)),jI r0_1.Along,jI r0_1.High,jI r0_1.Lean_,jI r0_1.Limit,.d (.sl 3 (List.map e29 r0_1.Trials)),jI r0_2.Kind,jI r0_2.Front,jI r0_2.Back,jI r0_2.Radius,.d (.sl 4 (List.map e36 r0_2.Parts)),jI r0_2.Along,jI r0_2.High,jI r0_2.Lean_,jI r0_2.Limit,.d (.sl 3 (List.map e29 r0_2.Trials)),jI r0_3.Kind,jI r0_3.Front,jI r0_3.Back,jI r0_3.Radius,.d (.sl 4 (List.map e36 r0_3.Parts)),jI r0_3.Along,jI r0_3.High,jI r0_3.Lean_,jI r0_3.Limit,.d (.sl 3 (List.map e29 r0_3.Trials)),jI r0_4.Kind,jI r0_4.Front,jI r0_4.Back,jI r0_4.Radius,.d (.sl 4 (List.map e36 r0_4.Parts)),jI r0_4.Along,jI r0_4.High,jI r0_4.Lean_,jI r0_4.Limit,.d (.sl 3 (List.map e29 r0_4.Trials)),jI r0_Kind1,jI r0_Front1,jI r0_Back1,jI r0_Radius1,.own 2 (List.map e36 r0_Parts1).length,jI r0_Along1,jI r0_High1,jI r0_Lean_1,jI r0_Limit1,.d (.sl 3 (List.map e29 r0_Trials1)),jI r0_Kind1_1,jI r0_Front1_1,jI r0_Back1_1,jI r0_Radius1_1,.own 5 (List.map e36 r0_Parts1_1).length,jI r0_Along1_1,jI r0_High1_1,jI r0_Lean_1_1,jI r0_Limit1_1,.d (.sl 3 (List.map e29 r0_Trials1_1)),jI r0_5.Kind,jI r0_5.Front,jI r0_5.Back,jI r0_5.Radius,.d (.sl 4 (List.map e36 r0_5.Parts)),jI r0_5.Along,jI r0_5.High,jI r0_5.Lean_,jI r0_5.Limit,.d (.sl 3 (List.map e29 r0_5.Trials)),jI r0_6.Kind,jI r0_6.Front,jI r0_6.Back,jI r0_6.Radius,.d (.sl 4 (List.map e36 r0_6.Parts)),jI r0_6.Along,jI r0_6.High,jI r0_6.Lean_,jI r0_6.Limit,.d (.sl 3 (List.map e29 r0_6.Trials)),jI r0_7.Kind,jI r0_7.Front,jI r0_7.Back,jI r0_7.Radius,.d (.sl 4 (List.map e36 r0_7.Parts)),jI r0_7.Along,jI r0_7.High,jI r0_7.Lean_,jI r0_7.Limit,.d (.sl 3 (List.map e29 r0_7.Trials)),jI r0_1_1.Kind,jI r0_1_1.Front,jI r0_1_1.Back,jI r0_1_1.Radius,.d (.sl 4 (List.map e36 r0_1_1.Parts)),jI r0_1_1.Along,jI r0_1_1.High,jI r0_1_1.Lean_,jI r0_1_1.Limit,.d (.sl 3 (List.map e29 r0_1_1.Trials)),jI r0_2_1.Kind,jI r0_2_1.Front,jI r0_2_1.Back,jI r0_2_1.Radius,.d (.sl 4 (List.map e36 r0_2_1.Parts)),jI r0_2_1.Along,jI r0_2_1.High,jI r0_2_1.Lean_,jI r0_2_1.Limit,.d (.sl 3 (List.map e29 r0_2_1.Trials)),jI r0_2_2.Kind,jI r0_2_2.Front,jI r0_2_2.Back,jI r0_2_2.Radius,.d (.sl 4 (List.map e36 r0_2_2.Parts)),jI r0_2_2.Along,jI r0_2_2.High,jI r0_2_2.Lean_,jI r0_2_2.Limit,.d (.sl 3 (List.map e29 r0_2_2.Trials)),jI r0_2_3.Kind,jI r0_2_3.Front,jI r0_2_3.Back,jI r0_2_3.Radius,.d (.sl 4 (List.map e36 r0_2_3.Parts)),jI r0_2_3.Along,jI r0_2_3.High,jI r0_2_3.Lean_,jI r0_2_3.Limit,.d (.sl 3 (List.map e29 r0_2_3.Trials))]),(8,.dead),(7,.dead),(6,.dead),(5,.row 36 4 (List.map e36 r0_Parts1_1)),(2,.row 36 4 (List.map e36 r0_Parts1))] 10 0) ?_
 refine Fi (sT [(1,.asl 9 15)] [(9,.arr 25 [jI 0,jI 0,jI 0,jI 0,.d (.nilSl),jI 0,jI 0,jI 0,jI 0,.d (.nilSl),jI r0.Kind,jI r0.Front,jI r0.Back,jI r0.Radius,.d (.sl 4 (List.map e36 r0.Parts)),jI r0.Along,jI r0.High,jI r0.Lean_,jI r0.Limit,.d (.sl 3 (List.map e29 r0.Trials)),jI r0_1.Kind,jI r0_1.Front,jI r0_1.Back,jI r0_1.Radius,.d (.sl 4 (List.map e36 r0_1.Parts)),jI r0_1.Along,jI r0_1.High,jI r0_1.Lean_,jI r0_1.Limit,.d (.sl 3 (List.map e29 r0_1.Trials)),jI r0_2.Kind,jI r0_2.Front,jI r0_2.Back,jI r0_2.Radius,.d (.sl 4 (List.map e36 r0_2.Parts)),jI r0_2.Along,jI r0_2.High,jI r0_2.Lean_,jI r0_2.Limit,.d (.sl 3 (List.map e29 r0_2.Trials)),jI r0_3.Kind,jI r0_3.Front,jI r0_3.Back,jI r0_3.Radius,.d (.sl 4 (List.map e36 r0_3.Parts)),jI r0_3.Along,jI r0_3.High,jI r0_3.Lean_,jI r0_3.Limit,.d (.sl 3 (List.map e29 r0_3.Trials)),jI r0_4.Kind,jI r0_4.Front,jI r0_4.Back,jI r0_4.Radius,.d (.sl 4 (List.map e36 r0_4.Parts)),jI r0_4.Along,jI r0_4.High,jI r0_4.Lean_,jI r0_4.Limit,.d (.sl 3 (List.map e29 r0_4.Trials)),jI r0_Kind1,jI r0_Front1,jI r0_Back1,jI r0_Radius1,.own 2 (List.map e36 r0_Parts1).length,jI r0_Along1,jI r0_High1,jI r0_Lean_1,jI r0_Limit1,.d (.sl 3 (List.map e29 r0_Trials1)),jI r0_Kind1_1,jI r0_Front1_1,jI r0_Back1_1,jI r0_Radius1_1,.own 5 (List.map e36 r0_Parts1_1).length,jI r0_Along1_1,jI r0_High1_1,jI r0_Lean_1_1,jI r0_Limit1_1,.d (.sl 3 (List.map e29 r0_Trials1_1)),jI r0_5.Kind,jI r0_5.Front,jI r0_5.Back,jI r0_5.Radius,.d (.sl 4 (List.map e36 r0_5.Parts)),jI r0_5.Along,jI r0_5.High,jI r0_5.Lean_,jI r0_5.Limit,.d (.sl 3 (List.map e29 r0_5.Trials)),jI r0_6.Kind,jI r0_6.Front,jI r0_6.Back,jI r0_6.Radius,.d (.sl 4 (List.map e36 r0_6.Parts)),jI r0_6.Along,jI r0_6.High,jI r0_6.Lean_,jI r0_6.Limit,.d (.sl 3 (List.map e29 r0_6.Trials)),jI r0_7.Kind,jI r0_7.Front,jI r0_7.Back,jI r0_7.Radius,.d (.sl 4 (List.map e36 r0_7.Parts)),jI r0_7.Along,jI r0_7.High,jI r0_7.Lean_,jI r0_7.Limit,.d (.sl 3 (List.map e29 r0_7.Trials)),jI r0_1_1.Kind,jI r0_1_1.Front,jI r0_1_1.Back,jI r0_1_1.Radius,.d (.sl 4 (List.map e36 r0_1_1.Parts)),jI r0_1_1.Along,jI r0_1_1.High,jI r0_1_1.Lean_,jI r0_1_1.Limit,.d (.sl 3 (List.map e29 r0_1_1.Trials)),jI r0_2_1.Kind,jI r0_2_1.Front,jI r0_2_1.Back,jI r0_2_1.Radius,.d (.sl 4 (List.map e36 r0_2_1.Parts)),jI r0_2_1.Along,jI r0_2_1.High,jI r0_2_1.Lean_,jI r0_2_1.Limit,.d (.sl 3 (List.map e29 r0_2_1.Trials)),jI r0_2_2.Kind,jI r0_2_2.Front,jI r0_2_2.Back,jI r0_2_2.Radius,.d (.sl 4 (List.map e36 r0_2_2.Parts)),jI r0_2_2.Along,jI r0_2_2.High,jI r0_2_2.Lean_,jI r0_2_2.Limit,.d (.sl 3 (List.map e29 r0_2_2.Trials)),jI r0_2_3.Kind,jI r0_2_3.Front,jI r0_2_3.Back,jI r0_2_3.Radius,.d (.sl 4 (List.map e36 r0_2_3.Parts)),jI r0_2_3.Along,jI r0_2_3.High,jI r0_2_3.Lean_,jI r0_2_3.Limit,.d (.sl 3 (List.map e29 r0_2_3.Trials))]),(5,.row 36 4 (List.map e36 r0_Parts1_1)),(2,.row 36 4 (List.map e36 r0_Parts1))] 10 0) ?_
 refine hQ_1 _ ?_
 refine AW.srwK (fun Q_19 hQ_19=>?_)
 refine Au 1 (sT [(1,.asl 9 15),(77,.asl 9 15)] [(9,.arr 25 [jI 0,jI 0,jI 0,jI 0,.d (.nilSl),jI 0,jI 0,jI 0,jI 0,.d (.nilSl),jI r0.Kind,jI r0.Front,jI r0.Back,jI r0.Radius,.d (.sl 4 (List.map e36 r0.Parts)),jI r0.Along,jI r0.High,jI r0.Lean_,jI r0.Limit,.d (.sl 3 (List.map e29 r0.Trials)),jI r0_1.Kind,jI r0_1.Front,jI r0_1.Back,jI r0_1.Radius,.d (.sl 4 (List.map e36 r0_1.Parts)),jI r0_1.Along,jI r0_1.High,jI r0_1.Lean_,jI r0_1.Limit,.d (.sl 3 (List.map e29 r0_1.Trials)),jI r0_2.Kind,jI r0_2.Front,jI r0_2.Back,jI r0_2.Radius,.d (.sl 4 (List.map e36 r0_2.Parts)),jI r0_2.Along,jI r0_2.High,jI r0_2.Lean_,jI r0_2.Limit,.d (.sl 3 (List.map e29 r0_2.Trials)),jI r0_3.Kind,jI r0_3.Front,jI r0_3.Back,jI r0_3.Radius,.d (.sl 4 (List.map e36 r0_3.Parts)),jI r0_3.Along,jI r0_3.High,jI r0_3.Lean_,jI r0_3.Limit,.d (.sl 3 (List.map e29 r0_3.Trials)),jI r0_4.Kind,jI r0_4.Front,jI r0_4.Back,jI r0_4.Radius,.d (.sl 4 (List.map e36 r0_4.Parts)),jI r0_4.Along,jI r0_4.High,jI r0_4.Lean_,jI r0_4.Limit,.d (.sl 3 (List.map e29 r0_4.Trials)),jI r0_Kind1,jI r0_Front1,jI r0_Back1,jI r0_Radius1,.own 2 (List.map e36 r0_Parts1).length,jI r0_Along1,jI r0_High1,jI r0_Lean_1,jI r0_Limit1,.d (.sl 3 (List.map e29 r0_Trials1)),jI r0_Kind1_1,jI r0_Front1_1,jI r0_Back1_1,jI r0_Radius1_1,.own 5 (List.map e36 r0_Parts1_1).length,jI r0_Along1_1,jI r0_High1_1,jI r0_Lean_1_1,jI r0_Limit1_1,.d (.sl 3 (List.map e29 r0_Trials1_1)),jI r0_5.Kind,jI r0_5.Front,jI r0_5.Back,jI r0_5.Radius,.d (.sl 4 (List.map e36 r0_5.Parts)),jI r0_5.Along,jI r0_5.High,jI r0_5.Lean_,jI r0_5.Limit,.d (.sl 3 (List.map e29 r0_5.Trials)),jI r0_6.Kind,jI r0_6.Front,jI r0_6.Back,jI r0_6.Radius,.d (.sl 4 (List.map e36 r0_6.Parts)),jI r0_6.Along,jI r0_6.High,jI r0_6.Lean_,jI r0_6.Limit,.d (.sl 3 (List.map e29 r0_6.Trials)),jI r0_7.Kind,jI r0_7.Front,jI r0_7.Back,jI r0_7.Radius,.d (.sl 4 (List.map e36 r0_7.Parts)),jI r0_7.Along,jI r0_7.High,jI r0_7.Lean_,jI r0_7.Limit,.d (.sl 3 (List.map e29 r0_7.Trials)),jI r0_1_1.Kind,jI r0_1_1.Front,jI r0_1_1.Back,jI r0_1_1.Radius,.d (.sl 4 (List.map e36 r0_1_1.Parts)),jI r0_1_1.Along,jI r0_1_1.High,jI r0_1_1.Lean_,jI r0_1_1.Limit,.d (.sl 3 (List.map e29 r0_1_1.Trials)),jI r0_2_1.Kind,jI r0_2_1.Front,jI r0_2_1.Back,jI r0_2_1.Radius,.d (.sl 4 (List.map e36 r0_2_1.Parts)),jI r0_2_1.Along,jI r0_2_1.High,jI r0_2_1.Lean_,jI r0_2_1.Limit,.d (.sl 3 (List.map e29 r0_2_1.Trials)),jI r0_2_2.Kind,jI r0_2_2.Front,jI r0_2_2.Back,jI r0_2_2.Radius,.d (.sl 4 (List.map e36 r0_2_2.Parts)),jI r0_2_2.Along,jI r0_2_2.High,jI r0_2_2.Lean_,jI r0_2_2.Limit,.d (.sl 3 (List.map e29 r0_2_2.Trials)),jI r0_2_3.Kind,jI r0_2_3.Front,jI r0_2_3.Back,jI r0_2_3.Radius,.d (.sl 4 (List.map e36 r0_2_3.Parts)),jI r0_2_3.Along,jI r0_2_3.High,jI r0_2_3.Lean_,jI r0_2_3.Limit,.d (.sl 3 (List.map e29 r0_2_3.Trials))]),(5,.row 36 4 (List.map e36 r0_Parts1_1)),(2,.row 36 4 (List.map e36 r0_Parts1))] 10 0) ?_
 refine RW.one fokW (r_iaAS trivial rfl rfl rfl (by decide) (by decide) (r_end ?_))
 refine RW.one fokW (r_faddrA trivial rfl (r_end ?_))
 refine RW.one fokW (r_storeA trivial rfl rfl rfl rfl rfl rfl (r_end ?_))
 refine RW.nil (hQ_19 _ ?_)
 refine AW.srwK (fun Q_20 hQ_20=>?_)
 refine Au 1 (sT [(1,.asl 9 15),(80,.asl 9 15)] [(9,.arr 25 [jI 0,jI 0,jI 0,jI 0,.d (.nilSl),jI 0,jI 0,jI 0,jI 0,.d (.nilSl),jI 2,jI r0.Front,jI r0.Back,jI r0.Radius,.d (.sl 4 (List.map e36 r0.Parts)),jI r0.Along,jI r0.High,jI r0.Lean_,jI r0.Limit,.d (.sl 3 (List.map e29 r0.Trials)),jI r0_1.Kind,jI r0_1.Front,jI r0_1.Back,jI r0_1.Radius,.d (.sl 4 (List.map e36 r0_1.Parts)),jI r0_1.Along,jI r0_1.High,jI r0_1.Lean_,jI r0_1.Limit,.d (.sl 3 (List.map e29 r0_1.Trials)),jI r0_2.Kind,jI r0_2.Front,jI r0_2.Back,jI r0_2.Radius,.d (.sl 4 (List.map e36 r0_2.Parts)),jI r0_2.Along,jI r0_2.High,jI r0_2.Lean_,jI r0_2.Limit,.d (.sl 3 (List.map e29 r0_2.Trials)),jI r0_3.Kind,jI r0_3.Front,jI r0_3.Back,jI r0_3.Radius,.d (.sl 4 (List.map e36 r0_3.Parts)),jI r0_3.Along,jI r0_3.High,jI r0_3.Lean_,jI r0_3.Limit,.d (.sl 3 (List.map e29 r0_3.Trials)),jI r0_4.Kind,jI r0_4.Front,jI r0_4.Back,jI r0_4.Radius,.d (.sl 4 (List.map e36 r0_4.Parts)),jI r0_4.Along,jI r0_4.High,jI r0_4.Lean_,jI r0_4.Limit,.d (.sl 3 (List.map e29 r0_4.Trials)),jI r0_Kind1,jI r0_Front1,jI r0_Back1,jI r0_Radius1,.own 2 (List.map e36 r0_Parts1).length,jI r0_Along1,jI r0_High1,jI r0_Lean_1,jI r0_Limit1,.d (.sl 3 (List.map e29 r0_Trials1)),jI r0_Kind1_1,jI r0_Front1_1,jI r0_Back1_1,jI r0_Radius1_1,.own 5 (List.map e36 r0_Parts1_1).length,jI r0_Along1_1,jI r0_High1_1,jI r0_Lean_1_1,jI r0_Limit1_1,.d (.sl 3 (List.map e29 r0_Trials1_1)),jI r0_5.Kind,jI r0_5.Front,jI r0_5.Back,jI r0_5.Radius,.d (.sl 4 (List.map e36 r0_5.Parts)),jI r0_5.Along,jI r0_5.High,jI r0_5.Lean_,jI r0_5.Limit,.d (.sl 3 (List.map e29 r0_5.Trials)),jI r0_6.Kind,jI r0_6.Front,jI r0_6.Back,jI r0_6.Radius,.d (.sl 4 (List.map e36 r0_6.Parts)),jI r0_6.Along,jI r0_6.High,jI r0_6.Lean_,jI r0_6.Limit,.d (.sl 3 (List.map e29 r0_6.Trials)),jI r0_7.Kind,jI r0_7.Front,jI r0_7.Back,jI r0_7.Radius,.d (.sl 4 (List.map e36 r0_7.Parts)),jI r0_7.Along,jI r0_7.High,jI r0_7.Lean_,jI r0_7.Limit,.d (.sl 3 (List.map e29 r0_7.Trials)),jI r0_1_1.Kind,jI r0_1_1.Front,jI r0_1_1.Back,jI r0_1_1.Radius,.d (.sl 4 (List.map e36 r0_1_1.Parts)),jI r0_1_1.Along,jI r0_1_1.High,jI r0_1_1.Lean_,jI r0_1_1.Limit,.d (.sl 3 (List.map e29 r0_1_1.Trials)),jI r0_2_1.Kind,jI r0_2_1.Front,jI r0_2_1.Back,jI r0_2_1.Radius,.d (.sl 4 (List.map e36 r0_2_1.Parts)),jI r0_2_1.Along,jI r0_2_1.High,jI r0_2_1.Lean_,jI r0_2_1.Limit,.d (.sl 3 (List.map e29 r0_2_1.Trials)),jI r0_2_2.Kind,jI r0_2_2.Front,jI r0_2_2.Back,jI r0_2_2.Radius,.d (.sl 4 (List.map e36 r0_2_2.Parts)),jI r0_2_2.Along,jI r0_2_2.High,jI r0_2_2.Lean_,jI r0_2_2.Limit,.d (.sl 3 (List.map e29 r0_2_2.Trials)),jI r0_2_3.Kind,jI r0_2_3.Front,jI r0_2_3.Back,jI r0_2_3.Radius,.d (.sl 4 (List.map e36 r0_2_3.Parts)),jI r0_2_3.Along,jI r0_2_3.High,jI r0_2_3.Lean_,jI r0_2_3.Limit,.d (.sl 3 (List.map e29 r0_2_3.Trials))]),(5,.row 36 4 (List.map e36 r0_Parts1_1)),(2,.row 36 4 (List.map e36 r0_Parts1))] 10 0) ?_
 refine RW.one fokW (r_iaAS trivial rfl rfl rfl (by decide) (by decide) (r_end ?_))
 refine RW.one fokW (r_faddrA trivial rfl (r_end ?_))
 refine RW.one fokW (r_storeA trivial rfl rfl rfl rfl rfl rfl (r_end ?_))
 refine RW.nil (hQ_20 _ ?_)
 refine AW.srwK (fun Q_21 hQ_21=>?_)
 refine Au 1 (sT [(1,.asl 9 15),(83,.asl 9 15)] [(9,.arr 25 [jI 0,jI 0,jI 0,jI 0,.d (.nilSl),jI 0,jI 0,jI 0,jI 0,.d (.nilSl),jI 2,jI r0.Front,jI r0.Back,jI r0.Radius,.d (.sl 4 (List.map e36 r0.Parts)),jI r0.Along,jI r0.High,jI r0.Lean_,jI r0.Limit,.d (.sl 3 (List.map e29 r0.Trials)),jI r0_1.Kind,jI 0,jI r0_1.Back,jI r0_1.Radius,.d (.sl 4 (List.map e36 r0_1.Parts)),jI r0_1.Along,jI r0_1.High,jI r0_1.Lean_,jI r0_1.Limit,.d (.sl 3 (List.map e29 r0_1.Trials)),jI r0_2.Kind,jI r0_2.Front,jI r0_2.Back,jI r0_2.Radius,.d (.sl 4 (List.map e36 r0_2.Parts)),jI r0_2.Along,jI r0_2.High,jI r0_2.Lean_,jI r0_2.Limit,.d (.sl 3 (List.map e29 r0_2.Trials)),jI r0_3.Kind,jI r0_3.Front,jI r0_3.Back,jI r0_3.Radius,.d (.sl 4 (List.map e36 r0_3.Parts)),jI r0_3.Along,jI r0_3.High,jI r0_3.Lean_,jI r0_3.Limit,.d (.sl 3 (List.map e29 r0_3.Trials)),jI r0_4.Kind,jI r0_4.Front,jI r0_4.Back,jI r0_4.Radius,.d (.sl 4 (List.map e36 r0_4.Parts)),jI r0_4.Along,jI r0_4.High,jI r0_4.Lean_,jI r0_4.Limit,.d (.sl 3 (List.map e29 r0_4.Trials)),jI r0_Kind1,jI r0_Front1,jI r0_Back1,jI r0_Radius1,.own 2 (List.map e36 r0_Parts1).length,jI r0_Along1,jI r0_High1,jI r0_Lean_1,jI r0_Limit1,.d (.sl 3 (List.map e29 r0_Trials1)),jI r0_Kind1_1,jI r0_Front1_1,jI r0_Back1_1,jI r0_Radius1_1,.own 5 (List.map e36 r0_Parts1_1).length,jI r0_Along1_1,jI r0_High1_1,jI r0_Lean_1_1,jI r0_Limit1_1,.d (.sl 3 (List.map e29 r0_Trials1_1)),jI r0_5.Kind,jI r0_5.Front,jI r0_5.Back,jI r0_5.Radius,.d (.sl 4 (List.map e36 r0_5.Parts)),jI r0_5.Along,jI r0_5.High,jI r0_5.Lean_,jI r0_5.Limit,.d (.sl 3 (List.map e29 r0_5.Trials)),jI r0_6.Kind,jI r0_6.Front,jI r0_6.Back,jI r0_6.Radius,.d (.sl 4 (List.map e36 r0_6.Parts)),jI r0_6.Along,jI r0_6.High,jI r0_6.Lean_,jI r0_6.Limit,.d (.sl 3 (List.map e29 r0_6.Trials)),jI r0_7.Kind,jI r0_7.Front,jI r0_7.Back,jI r0_7.Radius,.d (.sl 4 (List.map e36 r0_7.Parts)),jI r0_7.Along,jI r0_7.High,jI r0_7.Lean_,jI r0_7.Limit,.d (.sl 3 (List.map e29 r0_7.Trials)),jI r0_1_1.Kind,jI r0_1_1.Front,jI r0_1_1.Back,jI r0_1_1.Radius,.d (.sl 4 (List.map e36 r0_1_1.Parts)),jI r0_1_1.Along,jI r0_1_1.High,jI r0_1_1.Lean_,jI r0_1_1.Limit,.d (.sl 3 (List.map e29 r0_1_1.Trials)),jI r0_2_1.Kind,jI r0_2_1.Front,jI r0_2_1.Back,jI r0_2_1.Radius,.d (.sl 4 (List.map e36 r0_2_1.Parts)),jI r0_2_1.Along,jI r0_2_1.High,jI r0_2_1.Lean_,jI r0_2_1.Limit,.d (.sl 3 (List.map e29 r0_2_1.Trials)),jI r0_2_2.Kind,jI r0_2_2.Front,jI r0_2_2.Back,jI r0_2_2.Radius,.d (.sl 4 (List.map e36 r0_2_2.Parts)),jI r0_2_2.Along,jI r0_2_2.High,jI r0_2_2.Lean_,jI r0_2_2.Limit,.d (.sl 3 (List.map e29 r0_2_2.Trials)),jI r0_2_3.Kind,jI r0_2_3.Front,jI r0_2_3.Back,jI r0_2_3.Radius,.d (.sl 4 (List.map e36 r0_2_3.Parts)),jI r0_2_3.Along,jI r0_2_3.High,jI r0_2_3.Lean_,jI r0_2_3.Limit,.d (.sl 3 (List.map e29 r0_2_3.Trials))]),(5,.row 36 4 (List.map e36 r0_Parts1_1)),(2,.row 36 4 (List.map e36 r0_Parts1))] 10 0) ?_
 refine RW.one fokW (r_iaAS trivial rfl rfl rfl (by decide) (by decide) (r_end ?_))
 refine RW.one fokW (r_faddrA trivial rfl (r_end ?_))
 refine RW.one fokW (r_storeA trivial rfl rfl rfl rfl rfl rfl (r_end ?_))
 refine RW.nil (hQ_21 _ ?_)
 refine AW.srwK (fun Q_22 hQ_22=>?_)
 refine Au 1 (sT [(1,.asl 9 15),(86,.asl 9 15)] [(9,.arr 25 [jI 0,jI 0,jI 0,jI 0,.d (.nilSl),jI 0,jI 0,jI 0,jI 0,.d (.nilSl),jI 2,jI r0.Front,jI r0.Back,jI r0.Radius,.d (.sl 4 (List.map e36 r0.Parts)),jI r0.Along,jI r0.High,jI r0.Lean_,jI r0.Limit,.d (.sl 3 (List.map e29 r0.Trials)),jI r0_1.Kind,jI 0,jI r0_1.Back,jI r0_1.Radius,.d (.sl 4 (List.map e36 r0_1.Parts)),jI r0_1.Along,jI r0_1.High,jI r0_1.Lean_,jI r0_1.Limit,.d (.sl 3 (List.map e29 r0_1.Trials)),jI r0_2.Kind,jI r0_2.Front,jI 61,jI r0_2.Radius,.d (.sl 4 (List.map e36 r0_2.Parts)),jI r0_2.Along,jI r0_2.High,jI r0_2.Lean_,jI r0_2.Limit,.d (.sl 3 (List.map e29 r0_2.Trials)),jI r0_3.Kind,jI r0_3.Front,jI r0_3.Back,jI r0_3.Radius,.d (.sl 4 (List.map e36 r0_3.Parts)),jI r0_3.Along,jI r0_3.High,jI r0_3.Lean_,jI r0_3.Limit,.d (.sl 3 (List.map e29 r0_3.Trials)),jI r0_4.Kind,jI r0_4.Front,jI r0_4.Back,jI r0_4.Radius,.d (.sl 4 (List.map e36 r0_4.Parts)),jI r0_4.Along,jI r0_4.High,jI r0_4.Lean_,jI r0_4.Limit,.d (.sl 3 (List.map e29 r0_4.Trials)),jI r0_Kind1,jI r0_Front1,jI r0_Back1,jI r0_Radius1,.own 2 (List.map e36 r0_Parts1).length,jI r0_Along1,jI r0_High1,jI r0_Lean_1,jI r0_Limit1,.d (.sl 3 (List.map e29 r0_Trials1)),jI r0_Kind1_1,jI r0_Front1_1,jI r0_Back1_1,jI r0_Radius1_1,.own 5 (List.map e36 r0_Parts1_1).length,jI r0_Along1_1,jI r0_High1_1,jI r0_Lean_1_1,jI r0_Limit1_1,.d (.sl 3 (List.map e29 r0_Trials1_1)),jI r0_5.Kind,jI r0_5.Front,jI r0_5.Back,jI r0_5.Radius,.d (.sl 4 (List.map e36 r0_5.Parts)),jI r0_5.Along,jI r0_5.High,jI r0_5.Lean_,jI r0_5.Limit,.d (.sl 3 (List.map e29 r0_5.Trials)),jI r0_6.Kind,jI r0_6.Front,jI r0_6.Back,jI r0_6.Radius,.d (.sl 4 (List.map e36 r0_6.Parts)),jI r0_6.Along,jI r0_6.High,jI r0_6.Lean_,jI r0_6.Limit,.d (.sl 3 (List.map e29 r0_6.Trials)),jI r0_7.Kind,jI r0_7.Front,jI r0_7.Back,jI r0_7.Radius,.d (.sl 4 (List.map e36 r0_7.Parts)),jI r0_7.Along,jI r0_7.High,jI r0_7.Lean_,jI r0_7.Limit,.d (.sl 3 (List.map e29 r0_7.Trials)),jI r0_1_1.Kind,jI r0_1_1.Front,jI r0_1_1.Back,jI r0_1_1.Radius,.d (.sl 4 (List.map e36 r0_1_1.Parts)),jI r0_1_1.Along,jI r0_1_1.High,jI r0_1_1.Lean_,jI r0_1_1.Limit,.d (.sl 3 (List.map e29 r0_1_1.Trials)),jI r0_2_1.Kind,jI r0_2_1.Front,jI r0_2_1.Back,jI r0_2_1.Radius,.d (.sl 4 (List.map e36 r0_2_1.Parts)),jI r0_2_1.Along,jI r0_2_1.High,jI r0_2_1.Lean_,jI r0_2_1.Limit,.d (.sl 3 (List.map e29 r0_2_1.Trials)),jI r0_2_2.Kind,jI r0_2_2.Front,jI r0_2_2.Back,jI r0_2_2.Radius,.d (.sl 4 (List.map e36 r0_2_2.Parts)),jI r0_2_2.Along,jI r0_2_2.High,jI r0_2_2.Lean_,jI r0_2_2.Limit,.d (.sl 3 (List.map e29 r0_2_2.Trials)),jI r0_2_3.Kind,jI r0_2_3.Front,jI r0_2_3.Back,jI r0_2_3.Radius,.d (.sl 4 (List.map e36 r0_2_3.Parts)),jI r0_2_3.Along,jI r0_2_3.High,jI r0_2_3.Lean_,jI r0_2_3.Limit,.d (.sl 3 (List.map e29 r0_2_3.Trials))]),(5,.row 36 4 (List.map e36 r0_Parts1_1)),(2,.row 36 4 (List.map e36 r0_Parts1))] 10 0) ?_
 refine RW.one fokW (r_iaAS trivial rfl rfl rfl (by decide) (by decide) (r_end ?_))
 refine RW.one fokW (r_faddrA trivial rfl (r_end ?_))
 refine RW.one fokW (r_storeA trivial rfl rfl rfl rfl rfl rfl (r_end ?_))
 refine RW.nil (hQ_22 _ ?_)
 refine AW.srwK (fun Q_23 hQ_23=>?_)
 refine Au 1 (sT [(1,.asl 9 15),(89,.asl 9 15)] [(9,.arr 25 [jI 0,jI 0,jI 0,jI 0,.d (.nilSl),jI 0,jI 0,jI 0,jI 0,.d (.nilSl),jI 2,jI r0.Front,jI r0.Back,jI r0.Radius,.d (.sl 4 (List.map e36 r0.Parts)),jI r0.Along,jI r0.High,jI r0.Lean_,jI r0.Limit,.d (.sl 3 (List.map e29 r0.Trials)),jI r0_1.Kind,jI 0,jI r0_1.Back,jI r0_1.Radius,.d (.sl 4 (List.map e36 r0_1.Parts)),jI r0_1.Along,jI r0_1.High,jI r0_1.Lean_,jI r0_1.Limit,.d (.sl 3 (List.map e29 r0_1.Trials)),jI r0_2.Kind,jI r0_2.Front,jI 61,jI r0_2.Radius,.d (.sl 4 (List.map e36 r0_2.Parts)),jI r0_2.Along,jI r0_2.High,jI r0_2.Lean_,jI r0_2.Limit,.d (.sl 3 (List.map e29 r0_2.Trials)),jI r0_3.Kind,jI r0_3.Front,jI r0_3.Back,jI 1,.d (.sl 4 (List.map e36 r0_3.Parts)),jI r0_3.Along,jI r0_3.High,jI r0_3.Lean_,jI r0_3.Limit,.d (.sl 3 (List.map e29 r0_3.Trials)),jI r0_4.Kind,jI r0_4.Front,jI r0_4.Back,jI r0_4.Radius,.d (.sl 4 (List.map e36 r0_4.Parts)),jI r0_4.Along,jI r0_4.High,jI r0_4.Lean_,jI r0_4.Limit,.d (.sl 3 (List.map e29 r0_4.Trials)),jI r0_Kind1,jI r0_Front1,jI r0_Back1,jI r0_Radius1,.own 2 (List.map e36 r0_Parts1).length,jI r0_Along1,jI r0_High1,jI r0_Lean_1,jI r0_Limit1,.d (.sl 3 (List.map e29 r0_Trials1)),jI r0_Kind1_1,jI r0_Front1_1,jI r0_Back1_1,jI r0_Radius1_1,.own 5 (List.map e36 r0_Parts1_1).length,jI r0_Along1_1,jI r0_High1_1,jI r0_Lean_1_1,jI r0_Limit1_1,.d (.sl 3 (List.map e29 r0_Trials1_1)),jI r0_5.Kind,jI r0_5.Front,jI r0_5.Back,jI r0_5.Radius,.d (.sl 4 (List.map e36 r0_5.Parts)),jI r0_5.Along,jI r0_5.High,jI r0_5.Lean_,jI r0_5.Limit,.d (.sl 3 (List.map e29 r0_5.Trials)),jI r0_6.Kind,jI r0_6.Front,jI r0_6.Back,jI r0_6.Radius,.d (.sl 4 (List.map e36 r0_6.Parts)),jI r0_6.Along,jI r0_6.High,jI r0_6.Lean_,jI r0_6.Limit,.d (.sl 3 (List.map e29 r0_6.Trials)),jI r0_7.Kind,jI r0_7.Front,jI r0_7.Back,jI r0_7.Radius,.d (.sl 4 (List.map e36 r0_7.Parts)),jI r0_7.Along,jI r0_7.High,jI r0_7.Lean_,jI r0_7.Limit,.d (.sl 3 (List.map e29 r0_7.Trials)),jI r0_1_1.Kind,jI r0_1_1.Front,jI r0_1_1.Back,jI r0_1_1.Radius,.d (.sl 4 (List.map e36 r0_1_1.Parts)),jI r0_1_1.Along,jI r0_1_1.High,jI r0_1_1.Lean_,jI r0_1_1.Limit,.d (.sl 3 (List.map e29 r0_1_1.Trials)),jI r0_2_1.Kind,jI r0_2_1.Front,jI r0_2_1.Back,jI r0_2_1.Radius,.d (.sl 4 (List.map e36 r0_2_1.Parts)),jI r0_2_1.Along,jI r0_2_1.High,jI r0_2_1.Lean_,jI r0_2_1.Limit,.d (.sl 3 (List.map e29 r0_2_1.Trials)),jI r0_2_2.Kind,jI r0_2_2.Front,jI r0_2_2.Back,jI r0_2_2.Radius,.d (.sl 4 (List.map e36 r0_2_2.Parts)),jI r0_2_2.Along,jI r0_2_2.High,jI r0_2_2.Lean_,jI r0_2_2.Limit,.d (.sl 3 (List.map e29 r0_2_2.Trials)),jI r0_2_3.Kind,jI r0_2_3.Front,jI r0_2_3.Back,jI r0_2_3.Radius,.d (.sl 4 (List.map e36 r0_2_3.Parts)),jI r0_2_3.Along,jI r0_2_3.High,jI r0_2_3.Lean_,jI r0_2_3.Limit,.d (.sl 3 (List.map e29 r0_2_3.Trials))]),(5,.row 36 4 (List.map e36 r0_Parts1_1)),(2,.row 36 4 (List.map e36 r0_Parts1))] 10 0) ?_
 refine RW.one fokW (r_iaAS trivial rfl rfl rfl (by decide) (by decide) (r_end ?_))
 refine RW.one fokW (r_faddrA trivial rfl (r_end ?_))
 refine RW.one fokW (r_storeA trivial rfl rfl rfl rfl rfl rfl (r_end ?_))
 refine RW.nil (hQ_23 _ ?_)
 refine AW.sdrwK fokW (fun Q_24 hQ_24=>?_)
 refine aX 1 (sT [(1,.asl 9 15),(92,.asl 9 15)] [(9,.arr 25 [jI 0,jI 0,jI 0,jI 0,.d (.nilSl),jI 0,jI 0,jI 0,jI 0,.d (.nilSl),jI 2,jI r0.Front,jI r0.Back,jI r0.Radius,.d (.sl 4 (List.map e36 r0.Parts)),jI r0.Along,jI r0.High,jI r0.Lean_,jI r0.Limit,.d (.sl 3 (List.map e29 r0.Trials)),jI r0_1.Kind,jI 0,jI r0_1.Back,jI r0_1.Radius,.d (.sl 4 (List.map e36 r0_1.Parts)),jI r0_1.Along,jI r0_1.High,jI r0_1.Lean_,jI r0_1.Limit,.d (.sl 3 (List.map e29 r0_1.Trials)),jI r0_2.Kind,jI r0_2.Front,jI 61,jI r0_2.Radius,.d (.sl 4 (List.map e36 r0_2.Parts)),jI r0_2.Along,jI r0_2.High,jI r0_2.Lean_,jI r0_2.Limit,.d (.sl 3 (List.map e29 r0_2.Trials)),jI r0_3.Kind,jI r0_3.Front,jI r0_3.Back,jI 1,.d (.sl 4 (List.map e36 r0_3.Parts)),jI r0_3.Along,jI r0_3.High,jI r0_3.Lean_,jI r0_3.Limit,.d (.sl 3 (List.map e29 r0_3.Trials)),jI r0_4.Kind,jI r0_4.Front,jI r0_4.Back,jI r0_4.Radius,.d (.nilSl),jI r0_4.Along,jI r0_4.High,jI r0_4.Lean_,jI r0_4.Limit,.d (.sl 3 (List.map e29 r0_4.Trials)),jI r0_Kind1,jI r0_Front1,jI r0_Back1,jI r0_Radius1,.own 2 (List.map e36 r0_Parts1).length,jI r0_Along1,jI r0_High1,jI r0_Lean_1,jI r0_Limit1,.d (.sl 3 (List.map e29 r0_Trials1)),jI r0_Kind1_1,jI r0_Front1_1,jI r0_Back1_1,jI r0_Radius1_1,.own 5 (List.map e36 r0_Parts1_1).length,jI r0_Along1_1,jI r0_High1_1,jI r0_Lean_1_1,jI r0_Limit1_1,.d (.sl 3 (List.map e29 r0_Trials1_1)),jI r0_5.Kind,jI r0_5.Front,jI r0_5.Back,jI r0_5.Radius,.d (.sl 4 (List.map e36 r0_5.Parts)),jI r0_5.Along,jI r0_5.High,jI r0_5.Lean_,jI r0_5.Limit,.d (.sl 3 (List.map e29 r0_5.Trials)),jI r0_6.Kind,jI r0_6.Front,jI r0_6.Back,jI r0_6.Radius,.d (.sl 4 (List.map e36 r0_6.Parts)),jI r0_6.Along,jI r0_6.High,jI r0_6.Lean_,jI r0_6.Limit,.d (.sl 3 (List.map e29 r0_6.Trials)),jI r0_7.Kind,jI r0_7.Front,jI r0_7.Back,jI r0_7.Radius,.d (.sl 4 (List.map e36 r0_7.Parts)),jI r0_7.Along,jI r0_7.High,jI r0_7.Lean_,jI r0_7.Limit,.d (.sl 3 (List.map e29 r0_7.Trials)),jI r0_1_1.Kind,jI r0_1_1.Front,jI r0_1_1.Back,jI r0_1_1.Radius,.d (.sl 4 (List.map e36 r0_1_1.Parts)),jI r0_1_1.Along,jI r0_1_1.High,jI r0_1_1.Lean_,jI r0_1_1.Limit,.d (.sl 3 (List.map e29 r0_1_1.Trials)),jI r0_2_1.Kind,jI r0_2_1.Front,jI r0_2_1.Back,jI r0_2_1.Radius,.d (.sl 4 (List.map e36 r0_2_1.Parts)),jI r0_2_1.Along,jI r0_2_1.High,jI r0_2_1.Lean_,jI r0_2_1.Limit,.d (.sl 3 (List.map e29 r0_2_1.Trials)),jI r0_2_2.Kind,jI r0_2_2.Front,jI r0_2_2.Back,jI r0_2_2.Radius,.d (.sl 4 (List.map e36 r0_2_2.Parts)),jI r0_2_2.Along,jI r0_2_2.High,jI r0_2_2.Lean_,jI r0_2_2.Limit,.d (.sl 3 (List.map e29 r0_2_2.Trials)),jI r0_2_3.Kind,jI r0_2_3.Front,jI r0_2_3.Back,jI r0_2_3.Radius,.d (.sl 4 (List.map e36 r0_2_3.Parts)),jI r0_2_3.Along,jI r0_2_3.High,jI r0_2_3.Lean_,jI r0_2_3.Limit,.d (.sl 3 (List.map e29 r0_2_3.Trials))]),(5,.row 36 4 (List.map e36 r0_Parts1_1)),(2,.row 36 4 (List.map e36 r0_Parts1))] 10 0) ?_
 refine r_iaAS trivial rfl rfl rfl (by decide) (by decide) ?_
 refine r_faddrA trivial rfl ?_
 refine r_loadAV trivial rfl rfl rfl ?_
 obtain ⟨r0_10,hx_25,h⟩:=bsome h
 refine r_call trivial rfl (k10 20 25 _ hx_25) rfl rfl ?_
 obtain ⟨p,hv_26,h⟩:=bsome h
 refine r_iaO trivial rfl rfl rfl (ixL_ok hv_26).1 (ix_lt (ixL_ok hv_26).2) rfl ?_
 refine aX 1 (sT [(1,.asl 9 15),(96,.agg [jI r0_10.Low,jI r0_10.High]),(98,.eptr 2 (List.map e36 r0_Parts1).length (0:Int).toNat 0)] [(9,.arr 25 [jI 0,jI 0,jI 0,jI 0,.d (.nilSl),jI 0,jI 0,jI 0,jI 0,.d (.nilSl),jI 2,jI r0.Front,jI r0.Back,jI r0.Radius,.d (.sl 4 (List.map e36 r0.Parts)),jI r0.Along,jI r0.High,jI r0.Lean_,jI r0.Limit,.d (.sl 3 (List.map e29 r0.Trials)),jI r0_1.Kind,jI 0,jI r0_1.Back,jI r0_1.Radius,.d (.sl 4 (List.map e36 r0_1.Parts)),jI r0_1.Along,jI r0_1.High,jI r0_1.Lean_,jI r0_1.Limit,.d (.sl 3 (List.map e29 r0_1.Trials)),jI r0_2.Kind,jI r0_2.Front,jI 61,jI r0_2.Radius,.d (.sl 4 (List.map e36 r0_2.Parts)),jI r0_2.Along,jI r0_2.High,jI r0_2.Lean_,jI r0_2.Limit,.d (.sl 3 (List.map e29 r0_2.Trials)),jI r0_3.Kind,jI r0_3.Front,jI r0_3.Back,jI 1,.d (.sl 4 (List.map e36 r0_3.Parts)),jI r0_3.Along,jI r0_3.High,jI r0_3.Lean_,jI r0_3.Limit,.d (.sl 3 (List.map e29 r0_3.Trials)),jI r0_4.Kind,jI r0_4.Front,jI r0_4.Back,jI r0_4.Radius,.d (.nilSl),jI r0_4.Along,jI r0_4.High,jI r0_4.Lean_,jI r0_4.Limit,.d (.sl 3 (List.map e29 r0_4.Trials)),jI r0_Kind1,jI r0_Front1,jI r0_Back1,jI r0_Radius1,.own 2 (List.map e36 r0_Parts1).length,jI r0_Along1,jI r0_High1,jI r0_Lean_1,jI r0_Limit1,.d (.sl 3 (List.map e29 r0_Trials1)),jI r0_Kind1_1,jI r0_Front1_1,jI r0_Back1_1,jI r0_Radius1_1,.own 5 (List.map e36 r0_Parts1_1).length,jI r0_Along1_1,jI r0_High1_1,jI r0_Lean_1_1,jI r0_Limit1_1,.d (.sl 3 (List.map e29 r0_Trials1_1)),jI r0_5.Kind,jI r0_5.Front,jI r0_5.Back,jI r0_5.Radius,.d (.sl 4 (List.map e36 r0_5.Parts)),jI r0_5.Along,jI r0_5.High,jI r0_5.Lean_,jI r0_5.Limit,.d (.sl 3 (List.map e29 r0_5.Trials)),jI r0_6.Kind,jI r0_6.Front,jI r0_6.Back,jI r0_6.Radius,.d (.sl 4 (List.map e36 r0_6.Parts)),jI r0_6.Along,jI r0_6.High,jI r0_6.Lean_,jI r0_6.Limit,.d (.sl 3 (List.map e29 r0_6.Trials)),jI r0_7.Kind,jI r0_7.Front,jI r0_7.Back,jI r0_7.Radius,.d (.sl 4 (List.map e36 r0_7.Parts)),jI r0_7.Along,jI r0_7.High,jI r0_7.Lean_,jI r0_7.Limit,.d (.sl 3 (List.map e29 r0_7.Trials)),jI r0_1_1.Kind,jI r0_1_1.Front,jI r0_1_1.Back,jI r0_1_1.Radius,.d (.sl 4 (List.map e36 r0_1_1.Parts)),jI r0_1_1.Along,jI r0_1_1.High,jI r0_1_1.Lean_,jI r0_1_1.Limit,.d (.sl 3 (List.map e29 r0_1_1.Trials)),jI r0_2_1.Kind,jI r0_2_1.Front,jI r0_2_1.Back,jI r0_2_1.Radius,.d (.sl 4 (List.map e36 r0_2_1.Parts)),jI r0_2_1.Along,jI r0_2_1.High,jI r0_2_1.Lean_,jI r0_2_1.Limit,.d (.sl 3 (List.map e29 r0_2_1.Trials)),jI r0_2_2.Kind,jI r0_2_2.Front,jI r0_2_2.Back,jI r0_2_2.Radius,.d (.sl 4 (List.map e36 r0_2_2.Parts)),jI r0_2_2.Along,jI r0_2_2.High,jI r0_2_2.Lean_,jI r0_2_2.Limit,.d (.sl 3 (List.map e29 r0_2_2.Trials)),jI r0_2_3.Kind,jI r0_2_3.Front,jI r0_2_3.Back,jI r0_2_3.Radius,.d (.sl 4 (List.map e36 r0_2_3.Parts)),jI r0_2_3.Along,jI r0_2_3.High,jI r0_2_3.Lean_,jI r0_2_3.Limit,.d (.sl 3 (List.map e29 r0_2_3.Trials))]),(5,.row 36 4 (List.map e36 r0_Parts1_1)),(2,.row 36 4 (List.map e36 r0_Parts1))] 10 0) ?_
 refine r_stE trivial rfl rfl rfl rfl (mapget (f:=e36) (ixL_ok hv_26).2) rfl rfl rfl (Nat.le_of_ble_eq_true rfl) (stz (f:=e36) (x:=(StandPart.mk r0_10 p.Along p.High)) rfl) ?_
 rw [lenset (f:=e36) (xs:=r0_Parts1) (i:=0) (x:=(StandPart.mk r0_10 p.Along p.High))]
 refine Fi (sT [(1,.asl 9 15)] [(2,.row 36 4 (List.map e36 (setL r0_Parts1 0 (StandPart.mk r0_10 p.Along p.High)))),(9,.arr 25 [jI 0,jI 0,jI 0,jI 0,.d (.nilSl),jI 0,jI 0,jI 0,jI 0,.d (.nilSl),jI 2,jI r0.Front,jI r0.Back,jI r0.Radius,.d (.sl 4 (List.map e36 r0.Parts)),jI r0.Along,jI r0.High,jI r0.Lean_,jI r0.Limit,.d (.sl 3 (List.map e29 r0.Trials)),jI r0_1.Kind,jI 0,jI r0_1.Back,jI r0_1.Radius,.d (.sl 4 (List.map e36 r0_1.Parts)),jI r0_1.Along,jI r0_1.High,jI r0_1.Lean_,jI r0_1.Limit,.d (.sl 3 (List.map e29 r0_1.Trials)),jI r0_2.Kind,jI r0_2.Front,jI 61,jI r0_2.Radius,.d (.sl 4 (List.map e36 r0_2.Parts)),jI r0_2.Along,jI r0_2.High,jI r0_2.Lean_,jI r0_2.Limit,.d (.sl 3 (List.map e29 r0_2.Trials)),jI r0_3.Kind,jI r0_3.Front,jI r0_3.Back,jI 1,.d (.sl 4 (List.map e36 r0_3.Parts)),jI r0_3.Along,jI r0_3.High,jI r0_3.Lean_,jI r0_3.Limit,.d (.sl 3 (List.map e29 r0_3.Trials)),jI r0_4.Kind,jI r0_4.Front,jI r0_4.Back,jI r0_4.Radius,.d (.nilSl),jI r0_4.Along,jI r0_4.High,jI r0_4.Lean_,jI r0_4.Limit,.d (.sl 3 (List.map e29 r0_4.Trials)),jI r0_Kind1,jI r0_Front1,jI r0_Back1,jI r0_Radius1,.own 2 (List.map e36 (setL r0_Parts1 0 (StandPart.mk r0_10 p.Along p.High))).length,jI r0_Along1,jI r0_High1,jI r0_Lean_1,jI r0_Limit1,.d (.sl 3 (List.map e29 r0_Trials1)),jI r0_Kind1_1,jI r0_Front1_1,jI r0_Back1_1,jI r0_Radius1_1,.own 5 (List.map e36 r0_Parts1_1).length,jI r0_Along1_1,jI r0_High1_1,jI r0_Lean_1_1,jI r0_Limit1_1,.d (.sl 3 (List.map e29 r0_Trials1_1)),jI r0_5.Kind,jI r0_5.Front,jI r0_5.Back,jI r0_5.Radius,.d (.sl 4 (List.map e36 r0_5.Parts)),jI r0_5.Along,jI r0_5.High,jI r0_5.Lean_,jI r0_5.Limit,.d (.sl 3 (List.map e29 r0_5.Trials)),jI r0_6.Kind,jI r0_6.Front,jI r0_6.Back,jI r0_6.Radius,.d (.sl 4 (List.map e36 r0_6.Parts)),jI r0_6.Along,jI r0_6.High,jI r0_6.Lean_,jI r0_6.Limit,.d (.sl 3 (List.map e29 r0_6.Trials)),jI r0_7.Kind,jI r0_7.Front,jI r0_7.Back,jI r0_7.Radius,.d (.sl 4 (List.map e36 r0_7.Parts)),jI r0_7.Along,jI r0_7.High,jI r0_7.Lean_,jI r0_7.Limit,.d (.sl 3 (List.map e29 r0_7.Trials)),jI r0_1_1.Kind,jI r0_1_1.Front,jI r0_1_1.Back,jI r0_1_1.Radius,.d (.sl 4 (List.map e36 r0_1_1.Parts)),jI r0_1_1.Along,jI r0_1_1.High,jI r0_1_1.Lean_,jI r0_1_1.Limit,.d (.sl 3 (List.map e29 r0_1_1.Trials)),jI r0_2_1.Kind,jI r0_2_1.Front,jI r0_2_1.Back,jI r0_2_1.Radius,.d (.sl 4 (List.map e36 r0_2_1.Parts)),jI r0_2_1.Along,jI r0_2_1.High,jI r0_2_1.Lean_,jI r0_2_1.Limit,.d (.sl 3 (List.map e29 r0_2_1.Trials)),jI r0_2_2.Kind,jI r0_2_2.Front,jI r0_2_2.Back,jI r0_2_2.Radius,.d (.sl 4 (List.map e36 r0_2_2.Parts)),jI r0_2_2.Along,jI r0_2_2.High,jI r0_2_2.Lean_,jI r0_2_2.Limit,.d (.sl 3 (List.map e29 r0_2_2.Trials)),jI r0_2_3.Kind,jI r0_2_3.Front,jI r0_2_3.Back,jI r0_2_3.Radius,.d (.sl 4 (List.map e36 r0_2_3.Parts)),jI r0_2_3.Along,jI r0_2_3.High,jI r0_2_3.Lean_,jI r0_2_3.Limit,.d (.sl 3 (List.map e29 r0_2_3.Trials))]),(5,.row 36 4 (List.map e36 r0_Parts1_1))] 10 0) ?_
 refine hQ_24 _ ?_
 refine AW.srwK (fun Q_27 hQ_27=>?_)
 refine Au 1 (sT [(1,.asl 9 15),(99,.asl 9 15)] [(2,.row 36 4 (List.map e36 (setL r0_Parts1 0 (StandPart.mk r0_10 p.Along p.High)))),(9,.arr 25 [jI 0,jI 0,jI 0,jI 0,.d (.nilSl),jI 0,jI 0,jI 0,jI 0,.d (.nilSl),jI 2,jI r0.Front,jI r0.Back,jI r0.Radius,.d (.sl 4 (List.map e36 r0.Parts)),jI r0.Along,jI r0.High,jI r0.Lean_,jI r0.Limit,.d (.sl 3 (List.map e29 r0.Trials)),jI r0_1.Kind,jI 0,jI r0_1.Back,jI r0_1.Radius,.d (.sl 4 (List.map e36 r0_1.Parts)),jI r0_1.Along,jI r0_1.High,jI r0_1.Lean_,jI r0_1.Limit,.d (.sl 3 (List.map e29 r0_1.Trials)),jI r0_2.Kind,jI r0_2.Front,jI 61,jI r0_2.Radius,.d (.sl 4 (List.map e36 r0_2.Parts)),jI r0_2.Along,jI r0_2.High,jI r0_2.Lean_,jI r0_2.Limit,.d (.sl 3 (List.map e29 r0_2.Trials)),jI r0_3.Kind,jI r0_3.Front,jI r0_3.Back,jI 1,.d (.sl 4 (List.map e36 r0_3.Parts)),jI r0_3.Along,jI r0_3.High,jI r0_3.Lean_,jI r0_3.Limit,.d (.sl 3 (List.map e29 r0_3.Trials)),jI r0_4.Kind,jI r0_4.Front,jI r0_4.Back,jI r0_4.Radius,.d (.nilSl),jI r0_4.Along,jI r0_4.High,jI r0_4.Lean_,jI r0_4.Limit,.d (.sl 3 (List.map e29 r0_4.Trials)),jI r0_Kind1,jI r0_Front1,jI r0_Back1,jI r0_Radius1,.own 2 (List.map e36 (setL r0_Parts1 0 (StandPart.mk r0_10 p.Along p.High))).length,jI r0_Along1,jI r0_High1,jI r0_Lean_1,jI r0_Limit1,.d (.sl 3 (List.map e29 r0_Trials1)),jI r0_Kind1_1,jI r0_Front1_1,jI r0_Back1_1,jI r0_Radius1_1,.own 5 (List.map e36 r0_Parts1_1).length,jI r0_Along1_1,jI r0_High1_1,jI r0_Lean_1_1,jI r0_Limit1_1,.d (.sl 3 (List.map e29 r0_Trials1_1)),jI r0_5.Kind,jI r0_5.Front,jI r0_5.Back,jI r0_5.Radius,.d (.sl 4 (List.map e36 r0_5.Parts)),jI r0_5.Along,jI r0_5.High,jI r0_5.Lean_,jI r0_5.Limit,.d (.sl 3 (List.map e29 r0_5.Trials)),jI r0_6.Kind,jI r0_6.Front,jI r0_6.Back,jI r0_6.Radius,.d (.sl 4 (List.map e36 r0_6.Parts)),jI r0_6.Along,jI r0_6.High,jI r0_6.Lean_,jI r0_6.Limit,.d (.sl 3 (List.map e29 r0_6.Trials)),jI r0_7.Kind,jI r0_7.Front,jI r0_7.Back,jI r0_7.Radius,.d (.sl 4 (List.map e36 r0_7.Parts)),jI r0_7.Along,jI r0_7.High,jI r0_7.Lean_,jI r0_7.Limit,.d (.sl 3 (List.map e29 r0_7.Trials)),jI r0_1_1.Kind,jI r0_1_1.Front,jI r0_1_1.Back,jI r0_1_1.Radius,.d (.sl 4 (List.map e36 r0_1_1.Parts)),jI r0_1_1.Along,jI r0_1_1.High,jI r0_1_1.Lean_,jI r0_1_1.Limit,.d (.sl 3 (List.map e29 r0_1_1.Trials)),jI r0_2_1.Kind,jI r0_2_1.Front,jI r0_2_1.Back,jI r0_2_1.Radius,.d (.sl 4 (List.map e36 r0_2_1.Parts)),jI r0_2_1.Along,jI r0_2_1.High,jI r0_2_1.Lean_,jI r0_2_1.Limit,.d (.sl 3 (List.map e29 r0_2_1.Trials)),jI r0_2_2.Kind,jI r0_2_2.Front,jI r0_2_2.Back,jI r0_2_2.Radius,.d (.sl 4 (List.map e36 r0_2_2.Parts)),jI r0_2_2.Along,jI r0_2_2.High,jI r0_2_2.Lean_,jI r0_2_2.Limit,.d (.sl 3 (List.map e29 r0_2_2.Trials)),jI r0_2_3.Kind,jI r0_2_3.Front,jI r0_2_3.Back,jI r0_2_3.Radius,.d (.sl 4 (List.map e36 r0_2_3.Parts)),jI r0_2_3.Along,jI r0_2_3.High,jI r0_2_3.Lean_,jI r0_2_3.Limit,.d (.sl 3 (List.map e29 r0_2_3.Trials))]),(5,.row 36 4 (List.map e36 r0_Parts1_1))] 10 0) ?_
 refine RW.one fokW (r_iaAS trivial rfl rfl rfl (by decide) (by decide) (r_end ?_))
 refine RW.one fokW (r_faddrA trivial rfl (r_end ?_))
 refine RW.one fokW (r_loadAV trivial rfl rfl rfl (r_end ?_))
 obtain ⟨p1,hv_28,h⟩:=bsome h
 refine RW.one fokW (r_iaO trivial rfl rfl rfl (ixL_ok hv_28).1 (ix_lt (ixL_ok hv_28).2) rfl (r_end ?_))
 refine Au 1 (sT [(1,.asl 9 15),(104,.eptr 5 (List.map e36 r0_Parts1_1).length (1:Int).toNat 2)] [(2,.row 36 4 (List.map e36 (setL r0_Parts1 0 (StandPart.mk r0_10 p.Along p.High)))),(9,.arr 25 [jI 0,jI 0,jI 0,jI 0,.d (.nilSl),jI 0,jI 0,jI 0,jI 0,.d (.nilSl),jI 2,jI r0.Front,jI r0.Back,jI r0.Radius,.d (.sl 4 (List.map e36 r0.Parts)),jI r0.Along,jI r0.High,jI r0.Lean_,jI r0.Limit,.d (.sl 3 (List.map e29 r0.Trials)),jI r0_1.Kind,jI 0,jI r0_1.Back,jI r0_1.Radius,.d (.sl 4 (List.map e36 r0_1.Parts)),jI r0_1.Along,jI r0_1.High,jI r0_1.Lean_,jI r0_1.Limit,.d (.sl 3 (List.map e29 r0_1.Trials)),jI r0_2.Kind,jI r0_2.Front,jI 61,jI r0_2.Radius,.d (.sl 4 (List.map e36 r0_2.Parts)),jI r0_2.Along,jI r0_2.High,jI r0_2.Lean_,jI r0_2.Limit,.d (.sl 3 (List.map e29 r0_2.Trials)),jI r0_3.Kind,jI r0_3.Front,jI r0_3.Back,jI 1,.d (.sl 4 (List.map e36 r0_3.Parts)),jI r0_3.Along,jI r0_3.High,jI r0_3.Lean_,jI r0_3.Limit,.d (.sl 3 (List.map e29 r0_3.Trials)),jI r0_4.Kind,jI r0_4.Front,jI r0_4.Back,jI r0_4.Radius,.d (.nilSl),jI r0_4.Along,jI r0_4.High,jI r0_4.Lean_,jI r0_4.Limit,.d (.sl 3 (List.map e29 r0_4.Trials)),jI r0_Kind1,jI r0_Front1,jI r0_Back1,jI r0_Radius1,.own 2 (List.map e36 (setL r0_Parts1 0 (StandPart.mk r0_10 p.Along p.High))).length,jI r0_Along1,jI r0_High1,jI r0_Lean_1,jI r0_Limit1,.d (.sl 3 (List.map e29 r0_Trials1)),jI r0_Kind1_1,jI r0_Front1_1,jI r0_Back1_1,jI r0_Radius1_1,.own 5 (List.map e36 r0_Parts1_1).length,jI r0_Along1_1,jI r0_High1_1,jI r0_Lean_1_1,jI r0_Limit1_1,.d (.sl 3 (List.map e29 r0_Trials1_1)),jI r0_5.Kind,jI r0_5.Front,jI r0_5.Back,jI r0_5.Radius,.d (.sl 4 (List.map e36 r0_5.Parts)),jI r0_5.Along,jI r0_5.High,jI r0_5.Lean_,jI r0_5.Limit,.d (.sl 3 (List.map e29 r0_5.Trials)),jI r0_6.Kind,jI r0_6.Front,jI r0_6.Back,jI r0_6.Radius,.d (.sl 4 (List.map e36 r0_6.Parts)),jI r0_6.Along,jI r0_6.High,jI r0_6.Lean_,jI r0_6.Limit,.d (.sl 3 (List.map e29 r0_6.Trials)),jI r0_7.Kind,jI r0_7.Front,jI r0_7.Back,jI r0_7.Radius,.d (.sl 4 (List.map e36 r0_7.Parts)),jI r0_7.Along,jI r0_7.High,jI r0_7.Lean_,jI r0_7.Limit,.d (.sl 3 (List.map e29 r0_7.Trials)),jI r0_1_1.Kind,jI r0_1_1.Front,jI r0_1_1.Back,jI r0_1_1.Radius,.d (.sl 4 (List.map e36 r0_1_1.Parts)),jI r0_1_1.Along,jI r0_1_1.High,jI r0_1_1.Lean_,jI r0_1_1.Limit,.d (.sl 3 (List.map e29 r0_1_1.Trials)),jI r0_2_1.Kind,jI r0_2_1.Front,jI r0_2_1.Back,jI r0_2_1.Radius,.d (.sl 4 (List.map e36 r0_2_1.Parts)),jI r0_2_1.Along,jI r0_2_1.High,jI r0_2_1.Lean_,jI r0_2_1.Limit,.d (.sl 3 (List.map e29 r0_2_1.Trials)),jI r0_2_2.Kind,jI r0_2_2.Front,jI r0_2_2.Back,jI r0_2_2.Radius,.d (.sl 4 (List.map e36 r0_2_2.Parts)),jI r0_2_2.Along,jI r0_2_2.High,jI r0_2_2.Lean_,jI r0_2_2.Limit,.d (.sl 3 (List.map e29 r0_2_2.Trials)),jI r0_2_3.Kind,jI r0_2_3.Front,jI r0_2_3.Back,jI r0_2_3.Radius,.d (.sl 4 (List.map e36 r0_2_3.Parts)),jI r0_2_3.Along,jI r0_2_3.High,jI r0_2_3.Lean_,jI r0_2_3.Limit,.d (.sl 3 (List.map e29 r0_2_3.Trials))]),(5,.row 36 4 (List.map e36 r0_Parts1_1))] 10 0) ?_
 refine RW.one fokW (r_stE trivial rfl rfl rfl rfl (mapget (f:=e36) (ixL_ok hv_28).2) rfl rfl rfl (Nat.le_of_ble_eq_true rfl) (stz (f:=e36) (x:=(StandPart.mk p1.Weight (-61) p1.High)) rfl) (r_end ?_))
 rw [lenset (f:=e36) (xs:=r0_Parts1_1) (i:=1) (x:=(StandPart.mk p1.Weight (-61) p1.High))]
 refine RW.nil (hQ_27 _ ?_)
 refine AW.srwK (fun Q_29 hQ_29=>?_)
 refine Au 1 (sT [(1,.asl 9 15),(105,.asl 9 15)] [(5,.row 36 4 (List.map e36 (setL r0_Parts1_1 1 (StandPart.mk p1.Weight (-61) p1.High)))),(2,.row 36 4 (List.map e36 (setL r0_Parts1 0 (StandPart.mk r0_10 p.Along p.High)))),(9,.arr 25 [jI 0,jI 0,jI 0,jI 0,.d (.nilSl),jI 0,jI 0,jI 0,jI 0,.d (.nilSl),jI 2,jI r0.Front,jI r0.Back,jI r0.Radius,.d (.sl 4 (List.map e36 r0.Parts)),jI r0.Along,jI r0.High,jI r0.Lean_,jI r0.Limit,.d (.sl 3 (List.map e29 r0.Trials)),jI r0_1.Kind,jI 0,jI r0_1.Back,jI r0_1.Radius,.d (.sl 4 (List.map e36 r0_1.Parts)),jI r0_1.Along,jI r0_1.High,jI r0_1.Lean_,jI r0_1.Limit,.d (.sl 3 (List.map e29 r0_1.Trials)),jI r0_2.Kind,jI r0_2.Front,jI 61,jI r0_2.Radius,.d (.sl 4 (List.map e36 r0_2.Parts)),jI r0_2.Along,jI r0_2.High,jI r0_2.Lean_,jI r0_2.Limit,.d (.sl 3 (List.map e29 r0_2.Trials)),jI r0_3.Kind,jI r0_3.Front,jI r0_3.Back,jI 1,.d (.sl 4 (List.map e36 r0_3.Parts)),jI r0_3.Along,jI r0_3.High,jI r0_3.Lean_,jI r0_3.Limit,.d (.sl 3 (List.map e29 r0_3.Trials)),jI r0_4.Kind,jI r0_4.Front,jI r0_4.Back,jI r0_4.Radius,.d (.nilSl),jI r0_4.Along,jI r0_4.High,jI r0_4.Lean_,jI r0_4.Limit,.d (.sl 3 (List.map e29 r0_4.Trials)),jI r0_Kind1,jI r0_Front1,jI r0_Back1,jI r0_Radius1,.own 2 (List.map e36 (setL r0_Parts1 0 (StandPart.mk r0_10 p.Along p.High))).length,jI r0_Along1,jI r0_High1,jI r0_Lean_1,jI r0_Limit1,.d (.sl 3 (List.map e29 r0_Trials1)),jI r0_Kind1_1,jI r0_Front1_1,jI r0_Back1_1,jI r0_Radius1_1,.own 5 (List.map e36 (setL r0_Parts1_1 1 (StandPart.mk p1.Weight (-61) p1.High))).length,jI r0_Along1_1,jI r0_High1_1,jI r0_Lean_1_1,jI r0_Limit1_1,.d (.sl 3 (List.map e29 r0_Trials1_1)),jI r0_5.Kind,jI r0_5.Front,jI r0_5.Back,jI r0_5.Radius,.d (.sl 4 (List.map e36 r0_5.Parts)),jI r0_5.Along,jI r0_5.High,jI r0_5.Lean_,jI r0_5.Limit,.d (.sl 3 (List.map e29 r0_5.Trials)),jI r0_6.Kind,jI r0_6.Front,jI r0_6.Back,jI r0_6.Radius,.d (.sl 4 (List.map e36 r0_6.Parts)),jI r0_6.Along,jI r0_6.High,jI r0_6.Lean_,jI r0_6.Limit,.d (.sl 3 (List.map e29 r0_6.Trials)),jI r0_7.Kind,jI r0_7.Front,jI r0_7.Back,jI r0_7.Radius,.d (.sl 4 (List.map e36 r0_7.Parts)),jI r0_7.Along,jI r0_7.High,jI r0_7.Lean_,jI r0_7.Limit,.d (.sl 3 (List.map e29 r0_7.Trials)),jI r0_1_1.Kind,jI r0_1_1.Front,jI r0_1_1.Back,jI r0_1_1.Radius,.d (.sl 4 (List.map e36 r0_1_1.Parts)),jI r0_1_1.Along,jI r0_1_1.High,jI r0_1_1.Lean_,jI r0_1_1.Limit,.d (.sl 3 (List.map e29 r0_1_1.Trials)),jI r0_2_1.Kind,jI r0_2_1.Front,jI r0_2_1.Back,jI r0_2_1.Radius,.d (.sl 4 (List.map e36 r0_2_1.Parts)),jI r0_2_1.Along,jI r0_2_1.High,jI r0_2_1.Lean_,jI r0_2_1.Limit,.d (.sl 3 (List.map e29 r0_2_1.Trials)),jI r0_2_2.Kind,jI r0_2_2.Front,jI r0_2_2.Back,jI r0_2_2.Radius,.d (.sl 4 (List.map e36 r0_2_2.Parts)),jI r0_2_2.Along,jI r0_2_2.High,jI r0_2_2.Lean_,jI r0_2_2.Limit,.d (.sl 3 (List.map e29 r0_2_2.Trials)),jI r0_2_3.Kind,jI r0_2_3.Front,jI r0_2_3.Back,jI r0_2_3.Radius,.d (.sl 4 (List.map e36 r0_2_3.Parts)),jI r0_2_3.Along,jI r0_2_3.High,jI r0_2_3.Lean_,jI r0_2_3.Limit,.d (.sl 3 (List.map e29 r0_2_3.Trials))])] 10 0) ?_
 refine RW.one fokW (r_iaAS trivial rfl rfl rfl (by decide) (by decide) (r_end ?_))
 refine RW.one fokW (r_faddrA trivial rfl (r_end ?_))
 refine RW.one fokW (r_storeA trivial rfl rfl rfl rfl rfl rfl (r_end ?_))
 refine RW.nil (hQ_29 _ ?_)
 refine AW.srwK (fun Q_30 hQ_30=>?_)
 refine Au 1 (sT [(1,.asl 9 15),(108,.asl 9 15)] [(9,.arr 25 [jI 0,jI 0,jI 0,jI 0,.d (.nilSl),jI 0,jI 0,jI 0,jI 0,.d (.nilSl),jI 2,jI r0.Front,jI r0.Back,jI r0.Radius,.d (.sl 4 (List.map e36 r0.Parts)),jI r0.Along,jI r0.High,jI r0.Lean_,jI r0.Limit,.d (.sl 3 (List.map e29 r0.Trials)),jI r0_1.Kind,jI 0,jI r0_1.Back,jI r0_1.Radius,.d (.sl 4 (List.map e36 r0_1.Parts)),jI r0_1.Along,jI r0_1.High,jI r0_1.Lean_,jI r0_1.Limit,.d (.sl 3 (List.map e29 r0_1.Trials)),jI r0_2.Kind,jI r0_2.Front,jI 61,jI r0_2.Radius,.d (.sl 4 (List.map e36 r0_2.Parts)),jI r0_2.Along,jI r0_2.High,jI r0_2.Lean_,jI r0_2.Limit,.d (.sl 3 (List.map e29 r0_2.Trials)),jI r0_3.Kind,jI r0_3.Front,jI r0_3.Back,jI 1,.d (.sl 4 (List.map e36 r0_3.Parts)),jI r0_3.Along,jI r0_3.High,jI r0_3.Lean_,jI r0_3.Limit,.d (.sl 3 (List.map e29 r0_3.Trials)),jI r0_4.Kind,jI r0_4.Front,jI r0_4.Back,jI r0_4.Radius,.d (.nilSl),jI r0_4.Along,jI r0_4.High,jI r0_4.Lean_,jI r0_4.Limit,.d (.sl 3 (List.map e29 r0_4.Trials)),jI r0_Kind1,jI r0_Front1,jI r0_Back1,jI r0_Radius1,.own 2 (List.map e36 (setL r0_Parts1 0 (StandPart.mk r0_10 p.Along p.High))).length,jI r0_Along1,jI r0_High1,jI r0_Lean_1,jI r0_Limit1,.d (.sl 3 (List.map e29 r0_Trials1)),jI r0_Kind1_1,jI r0_Front1_1,jI r0_Back1_1,jI r0_Radius1_1,.own 5 (List.map e36 (setL r0_Parts1_1 1 (StandPart.mk p1.Weight (-61) p1.High))).length,jI r0_Along1_1,jI r0_High1_1,jI r0_Lean_1_1,jI r0_Limit1_1,.d (.sl 3 (List.map e29 r0_Trials1_1)),jI r0_5.Kind,jI r0_5.Front,jI r0_5.Back,jI r0_5.Radius,.d (.sl 4 (List.map e36 r0_5.Parts)),jI r0_5.Along,jI 61,jI r0_5.Lean_,jI r0_5.Limit,.d (.sl 3 (List.map e29 r0_5.Trials)),jI r0_6.Kind,jI r0_6.Front,jI r0_6.Back,jI r0_6.Radius,.d (.sl 4 (List.map e36 r0_6.Parts)),jI r0_6.Along,jI r0_6.High,jI r0_6.Lean_,jI r0_6.Limit,.d (.sl 3 (List.map e29 r0_6.Trials)),jI r0_7.Kind,jI r0_7.Front,jI r0_7.Back,jI r0_7.Radius,.d (.sl 4 (List.map e36 r0_7.Parts)),jI r0_7.Along,jI r0_7.High,jI r0_7.Lean_,jI r0_7.Limit,.d (.sl 3 (List.map e29 r0_7.Trials)),jI r0_1_1.Kind,jI r0_1_1.Front,jI r0_1_1.Back,jI r0_1_1.Radius,.d (.sl 4 (List.map e36 r0_1_1.Parts)),jI r0_1_1.Along,jI r0_1_1.High,jI r0_1_1.Lean_,jI r0_1_1.Limit,.d (.sl 3 (List.map e29 r0_1_1.Trials)),jI r0_2_1.Kind,jI r0_2_1.Front,jI r0_2_1.Back,jI r0_2_1.Radius,.d (.sl 4 (List.map e36 r0_2_1.Parts)),jI r0_2_1.Along,jI r0_2_1.High,jI r0_2_1.Lean_,jI r0_2_1.Limit,.d (.sl 3 (List.map e29 r0_2_1.Trials)),jI r0_2_2.Kind,jI r0_2_2.Front,jI r0_2_2.Back,jI r0_2_2.Radius,.d (.sl 4 (List.map e36 r0_2_2.Parts)),jI r0_2_2.Along,jI r0_2_2.High,jI r0_2_2.Lean_,jI r0_2_2.Limit,.d (.sl 3 (List.map e29 r0_2_2.Trials)),jI r0_2_3.Kind,jI r0_2_3.Front,jI r0_2_3.Back,jI r0_2_3.Radius,.d (.sl 4 (List.map e36 r0_2_3.Parts)),jI r0_2_3.Along,jI r0_2_3.High,jI r0_2_3.Lean_,jI r0_2_3.Limit,.d (.sl 3 (List.map e29 r0_2_3.Trials))]),(5,.row 36 4 (List.map e36 (setL r0_Parts1_1 1 (StandPart.mk p1.Weight (-61) p1.High)))),(2,.row 36 4 (List.map e36 (setL r0_Parts1 0 (StandPart.mk r0_10 p.Along p.High))))] 10 0) ?_
 refine RW.one fokW (r_iaAS trivial rfl rfl rfl (by decide) (by decide) (r_end ?_))
 refine RW.one fokW (r_faddrA trivial rfl (r_end ?_))
 refine RW.one fokW (r_storeA trivial rfl rfl rfl rfl rfl rfl (r_end ?_))
 refine RW.nil (hQ_30 _ ?_)
 refine AW.srwK (fun Q_31 hQ_31=>?_)
 refine Au 1 (sT [(1,.asl 9 15),(111,.asl 9 15)] [(9,.arr 25 [jI 0,jI 0,jI 0,jI 0,.d (.nilSl),jI 0,jI 0,jI 0,jI 0,.d (.nilSl),jI 2,jI r0.Front,jI r0.Back,jI r0.Radius,.d (.sl 4 (List.map e36 r0.Parts)),jI r0.Along,jI r0.High,jI r0.Lean_,jI r0.Limit,.d (.sl 3 (List.map e29 r0.Trials)),jI r0_1.Kind,jI 0,jI r0_1.Back,jI r0_1.Radius,.d (.sl 4 (List.map e36 r0_1.Parts)),jI r0_1.Along,jI r0_1.High,jI r0_1.Lean_,jI r0_1.Limit,.d (.sl 3 (List.map e29 r0_1.Trials)),jI r0_2.Kind,jI r0_2.Front,jI 61,jI r0_2.Radius,.d (.sl 4 (List.map e36 r0_2.Parts)),jI r0_2.Along,jI r0_2.High,jI r0_2.Lean_,jI r0_2.Limit,.d (.sl 3 (List.map e29 r0_2.Trials)),jI r0_3.Kind,jI r0_3.Front,jI r0_3.Back,jI 1,.d (.sl 4 (List.map e36 r0_3.Parts)),jI r0_3.Along,jI r0_3.High,jI r0_3.Lean_,jI r0_3.Limit,.d (.sl 3 (List.map e29 r0_3.Trials)),jI r0_4.Kind,jI r0_4.Front,jI r0_4.Back,jI r0_4.Radius,.d (.nilSl),jI r0_4.Along,jI r0_4.High,jI r0_4.Lean_,jI r0_4.Limit,.d (.sl 3 (List.map e29 r0_4.Trials)),jI r0_Kind1,jI r0_Front1,jI r0_Back1,jI r0_Radius1,.own 2 (List.map e36 (setL r0_Parts1 0 (StandPart.mk r0_10 p.Along p.High))).length,jI r0_Along1,jI r0_High1,jI r0_Lean_1,jI r0_Limit1,.d (.sl 3 (List.map e29 r0_Trials1)),jI r0_Kind1_1,jI r0_Front1_1,jI r0_Back1_1,jI r0_Radius1_1,.own 5 (List.map e36 (setL r0_Parts1_1 1 (StandPart.mk p1.Weight (-61) p1.High))).length,jI r0_Along1_1,jI r0_High1_1,jI r0_Lean_1_1,jI r0_Limit1_1,.d (.sl 3 (List.map e29 r0_Trials1_1)),jI r0_5.Kind,jI r0_5.Front,jI r0_5.Back,jI r0_5.Radius,.d (.sl 4 (List.map e36 r0_5.Parts)),jI r0_5.Along,jI 61,jI r0_5.Lean_,jI r0_5.Limit,.d (.sl 3 (List.map e29 r0_5.Trials)),jI r0_6.Kind,jI r0_6.Front,jI r0_6.Back,jI r0_6.Radius,.d (.sl 4 (List.map e36 r0_6.Parts)),jI r0_6.Along,jI r0_6.High,jI 13,jI r0_6.Limit,.d (.sl 3 (List.map e29 r0_6.Trials)),jI r0_7.Kind,jI r0_7.Front,jI r0_7.Back,jI r0_7.Radius,.d (.sl 4 (List.map e36 r0_7.Parts)),jI r0_7.Along,jI r0_7.High,jI r0_7.Lean_,jI r0_7.Limit,.d (.sl 3 (List.map e29 r0_7.Trials)),jI r0_1_1.Kind,jI r0_1_1.Front,jI r0_1_1.Back,jI r0_1_1.Radius,.d (.sl 4 (List.map e36 r0_1_1.Parts)),jI r0_1_1.Along,jI r0_1_1.High,jI r0_1_1.Lean_,jI r0_1_1.Limit,.d (.sl 3 (List.map e29 r0_1_1.Trials)),jI r0_2_1.Kind,jI r0_2_1.Front,jI r0_2_1.Back,jI r0_2_1.Radius,.d (.sl 4 (List.map e36 r0_2_1.Parts)),jI r0_2_1.Along,jI r0_2_1.High,jI r0_2_1.Lean_,jI r0_2_1.Limit,.d (.sl 3 (List.map e29 r0_2_1.Trials)),jI r0_2_2.Kind,jI r0_2_2.Front,jI r0_2_2.Back,jI r0_2_2.Radius,.d (.sl 4 (List.map e36 r0_2_2.Parts)),jI r0_2_2.Along,jI r0_2_2.High,jI r0_2_2.Lean_,jI r0_2_2.Limit,.d (.sl 3 (List.map e29 r0_2_2.Trials)),jI r0_2_3.Kind,jI r0_2_3.Front,jI r0_2_3.Back,jI r0_2_3.Radius,.d (.sl 4 (List.map e36 r0_2_3.Parts)),jI r0_2_3.Along,jI r0_2_3.High,jI r0_2_3.Lean_,jI r0_2_3.Limit,.d (.sl 3 (List.map e29 r0_2_3.Trials))]),(5,.row 36 4 (List.map e36 (setL r0_Parts1_1 1 (StandPart.mk p1.Weight (-61) p1.High)))),(2,.row 36 4 (List.map e36 (setL r0_Parts1 0 (StandPart.mk r0_10 p.Along p.High))))] 10 0) ?_
 refine RW.one fokW (r_iaAS trivial rfl rfl rfl (by decide) (by decide) (r_end ?_))
 refine RW.one fokW (r_faddrA trivial rfl (r_end ?_))
 refine RW.one fokW (r_storeA trivial rfl rfl rfl rfl rfl rfl (r_end ?_))
 refine RW.nil (hQ_31 _ ?_)
 refine AW.srwK (fun Q_32 hQ_32=>?_)
 refine Au 1 (sT [(1,.asl 9 15),(114,.asl 9 15)] [(9,.arr 25 [jI 0,jI 0,jI 0,jI 0,.d (.nilSl),jI 0,jI 0,jI 0,jI 0,.d (.nilSl),jI 2,jI r0.Front,jI r0.Back,jI r0.Radius,.d (.sl 4 (List.map e36 r0.Parts)),jI r0.Along,jI r0.High,jI r0.Lean_,jI r0.Limit,.d (.sl 3 (List.map e29 r0.Trials)),jI r0_1.Kind,jI 0,jI r0_1.Back,jI r0_1.Radius,.d (.sl 4 (List.map e36 r0_1.Parts)),jI r0_1.Along,jI r0_1.High,jI r0_1.Lean_,jI r0_1.Limit,.d (.sl 3 (List.map e29 r0_1.Trials)),jI r0_2.Kind,jI r0_2.Front,jI 61,jI r0_2.Radius,.d (.sl 4 (List.map e36 r0_2.Parts)),jI r0_2.Along,jI r0_2.High,jI r0_2.Lean_,jI r0_2.Limit,.d (.sl 3 (List.map e29 r0_2.Trials)),jI r0_3.Kind,jI r0_3.Front,jI r0_3.Back,jI 1,.d (.sl 4 (List.map e36 r0_3.Parts)),jI r0_3.Along,jI r0_3.High,jI r0_3.Lean_,jI r0_3.Limit,.d (.sl 3 (List.map e29 r0_3.Trials)),jI r0_4.Kind,jI r0_4.Front,jI r0_4.Back,jI r0_4.Radius,.d (.nilSl),jI r0_4.Along,jI r0_4.High,jI r0_4.Lean_,jI r0_4.Limit,.d (.sl 3 (List.map e29 r0_4.Trials)),jI r0_Kind1,jI r0_Front1,jI r0_Back1,jI r0_Radius1,.own 2 (List.map e36 (setL r0_Parts1 0 (StandPart.mk r0_10 p.Along p.High))).length,jI r0_Along1,jI r0_High1,jI r0_Lean_1,jI r0_Limit1,.d (.sl 3 (List.map e29 r0_Trials1)),jI r0_Kind1_1,jI r0_Front1_1,jI r0_Back1_1,jI r0_Radius1_1,.own 5 (List.map e36 (setL r0_Parts1_1 1 (StandPart.mk p1.Weight (-61) p1.High))).length,jI r0_Along1_1,jI r0_High1_1,jI r0_Lean_1_1,jI r0_Limit1_1,.d (.sl 3 (List.map e29 r0_Trials1_1)),jI r0_5.Kind,jI r0_5.Front,jI r0_5.Back,jI r0_5.Radius,.d (.sl 4 (List.map e36 r0_5.Parts)),jI r0_5.Along,jI 61,jI r0_5.Lean_,jI r0_5.Limit,.d (.sl 3 (List.map e29 r0_5.Trials)),jI r0_6.Kind,jI r0_6.Front,jI r0_6.Back,jI r0_6.Radius,.d (.sl 4 (List.map e36 r0_6.Parts)),jI r0_6.Along,jI r0_6.High,jI 13,jI r0_6.Limit,.d (.sl 3 (List.map e29 r0_6.Trials)),jI r0_7.Kind,jI r0_7.Front,jI r0_7.Back,jI r0_7.Radius,.d (.sl 4 (List.map e36 r0_7.Parts)),jI r0_7.Along,jI r0_7.High,jI r0_7.Lean_,jI 61,.d (.sl 3 (List.map e29 r0_7.Trials)),jI r0_1_1.Kind,jI r0_1_1.Front,jI r0_1_1.Back,jI r0_1_1.Radius,.d (.sl 4 (List.map e36 r0_1_1.Parts)),jI r0_1_1.Along,jI r0_1_1.High,jI r0_1_1.Lean_,jI r0_1_1.Limit,.d (.sl 3 (List.map e29 r0_1_1.Trials)),jI r0_2_1.Kind,jI r0_2_1.Front,jI r0_2_1.Back,jI r0_2_1.Radius,.d (.sl 4 (List.map e36 r0_2_1.Parts)),jI r0_2_1.Along,jI r0_2_1.High,jI r0_2_1.Lean_,jI r0_2_1.Limit,.d (.sl 3 (List.map e29 r0_2_1.Trials)),jI r0_2_2.Kind,jI r0_2_2.Front,jI r0_2_2.Back,jI r0_2_2.Radius,.d (.sl 4 (List.map e36 r0_2_2.Parts)),jI r0_2_2.Along,jI r0_2_2.High,jI r0_2_2.Lean_,jI r0_2_2.Limit,.d (.sl 3 (List.map e29 r0_2_2.Trials)),jI r0_2_3.Kind,jI r0_2_3.Front,jI r0_2_3.Back,jI r0_2_3.Radius,.d (.sl 4 (List.map e36 r0_2_3.Parts)),jI r0_2_3.Along,jI r0_2_3.High,jI r0_2_3.Lean_,jI r0_2_3.Limit,.d (.sl 3 (List.map e29 r0_2_3.Trials))]),(5,.row 36 4 (List.map e36 (setL r0_Parts1_1 1 (StandPart.mk p1.Weight (-61) p1.High)))),(2,.row 36 4 (List.map e36 (setL r0_Parts1 0 (StandPart.mk r0_10 p.Along p.High))))] 10 0) ?_
 refine RW.one fokW (r_iaAS trivial rfl rfl rfl (by decide) (by decide) (r_end ?_))
 refine RW.one fokW (r_faddrA trivial rfl (r_end ?_))
 refine RW.one fokW (r_storeA trivial rfl rfl rfl rfl rfl rfl (r_end ?_))
 refine RW.nil (hQ_32 _ ?_)
 refine AW.seqK (fun K_33 hK_33=>?_)
 refine Sa (sT [(1,.asl 9 15),(2,jI 0)] [(9,.arr 25 [jI 0,jI 0,jI 0,jI 0,.d (.nilSl),jI 0,jI 0,jI 0,jI 0,.d (.nilSl),jI 2,jI r0.Front,jI r0.Back,jI r0.Radius,.d (.sl 4 (List.map e36 r0.Parts)),jI r0.Along,jI r0.High,jI r0.Lean_,jI r0.Limit,.d (.sl 3 (List.map e29 r0.Trials)),jI r0_1.Kind,jI 0,jI r0_1.Back,jI r0_1.Radius,.d (.sl 4 (List.map e36 r0_1.Parts)),jI r0_1.Along,jI r0_1.High,jI r0_1.Lean_,jI r0_1.Limit,.d (.sl 3 (List.map e29 r0_1.Trials)),jI r0_2.Kind,jI r0_2.Front,jI 61,jI r0_2.Radius,.d (.sl 4 (List.map e36 r0_2.Parts)),jI r0_2.Along,jI r0_2.High,jI r0_2.Lean_,jI r0_2.Limit,.d (.sl 3 (List.map e29 r0_2.Trials)),jI r0_3.Kind,jI r0_3.Front,jI r0_3.Back,jI 1,.d (.sl 4 (List.map e36 r0_3.Parts)),jI r0_3.Along,jI r0_3.High,jI r0_3.Lean_,jI r0_3.Limit,.d (.sl 3 (List.map e29 r0_3.Trials)),jI r0_4.Kind,jI r0_4.Front,jI r0_4.Back,jI r0_4.Radius,.d (.nilSl),jI r0_4.Along,jI r0_4.High,jI r0_4.Lean_,jI r0_4.Limit,.d (.sl 3 (List.map e29 r0_4.Trials)),jI r0_Kind1,jI r0_Front1,jI r0_Back1,jI r0_Radius1,.own 2 (List.map e36 (setL r0_Parts1 0 (StandPart.mk r0_10 p.Along p.High))).length,jI r0_Along1,jI r0_High1,jI r0_Lean_1,jI r0_Limit1,.d (.sl 3 (List.map e29 r0_Trials1)),jI r0_Kind1_1,jI r0_Front1_1,jI r0_Back1_1,jI r0_Radius1_1,.own 5 (List.map e36 (setL r0_Parts1_1 1 (StandPart.mk p1.Weight (-61) p1.High))).length,jI r0_Along1_1,jI r0_High1_1,jI r0_Lean_1_1,jI r0_Limit1_1,.d (.sl 3 (List.map e29 r0_Trials1_1)),jI r0_5.Kind,jI r0_5.Front,jI r0_5.Back,jI r0_5.Radius,.d (.sl 4 (List.map e36 r0_5.Parts)),jI r0_5.Along,jI 61,jI r0_5.Lean_,jI r0_5.Limit,.d (.sl 3 (List.map e29 r0_5.Trials)),jI r0_6.Kind,jI r0_6.Front,jI r0_6.Back,jI r0_6.Radius,.d (.sl 4 (List.map e36 r0_6.Parts)),jI r0_6.Along,jI r0_6.High,jI 13,jI r0_6.Limit,.d (.sl 3 (List.map e29 r0_6.Trials)),jI r0_7.Kind,jI r0_7.Front,jI r0_7.Back,jI r0_7.Radius,.d (.sl 4 (List.map e36 r0_7.Parts)),jI r0_7.Along,jI r0_7.High,jI r0_7.Lean_,jI 61,.d (.sl 3 (List.map e29 r0_7.Trials)),jI r0_1_1.Kind,jI r0_1_1.Front,jI r0_1_1.Back,jI 0,.d (.sl 4 (List.map e36 r0_1_1.Parts)),jI r0_1_1.Along,jI r0_1_1.High,jI r0_1_1.Lean_,jI r0_1_1.Limit,.d (.sl 3 (List.map e29 r0_1_1.Trials)),jI r0_2_1.Kind,jI r0_2_1.Front,jI r0_2_1.Back,jI r0_2_1.Radius,.d (.sl 4 (List.map e36 r0_2_1.Parts)),jI r0_2_1.Along,jI r0_2_1.High,jI r0_2_1.Lean_,jI r0_2_1.Limit,.d (.sl 3 (List.map e29 r0_2_1.Trials)),jI r0_2_2.Kind,jI r0_2_2.Front,jI r0_2_2.Back,jI r0_2_2.Radius,.d (.sl 4 (List.map e36 r0_2_2.Parts)),jI r0_2_2.Along,jI r0_2_2.High,jI r0_2_2.Lean_,jI r0_2_2.Limit,.d (.sl 3 (List.map e29 r0_2_2.Trials)),jI r0_2_3.Kind,jI r0_2_3.Front,jI r0_2_3.Back,jI r0_2_3.Radius,.d (.sl 4 (List.map e36 r0_2_3.Parts)),jI r0_2_3.Along,jI r0_2_3.High,jI r0_2_3.Lean_,jI r0_2_3.Limit,.d (.sl 3 (List.map e29 r0_2_3.Trials))]),(5,.row 36 4 (List.map e36 (setL r0_Parts1_1 1 (StandPart.mk p1.Weight (-61) p1.High)))),(2,.row 36 4 (List.map e36 (setL r0_Parts1 0 (StandPart.mk r0_10 p.Along p.High))))] 10 0) ?_
 refine AW.block ?_
 obtain ⟨o,hv_34,h⟩:=bsome h
 refine AW.can (Can.wkHA 9 4 4 rfl rfl) ?_
 refine AW.can (Can.wkHA 9 9 3 rfl rfl) ?_
 refine AW.can (Can.wkHA 9 54 4 rfl rfl) ?_
 refine AW.can (Can.fzHA 9 64 2 (n:=(List.map e36 (setL r0_Parts1 0 (StandPart.mk r0_10 p.Along p.High))).length) (T:=36) (es:=4) (xs:=List.map e36 (setL r0_Parts1 0 (StandPart.mk r0_10 p.Along p.High))) rfl (by kernel_rfl) (by kernel_rfl) rfl) ?_
 refine AW.can (Can.fzHA 9 74 5 (n:=(List.map e36 (setL r0_Parts1_1 1 (StandPart.mk p1.Weight (-61) p1.High))).length) (T:=36) (es:=4) (xs:=List.map e36 (setL r0_Parts1_1 1 (StandPart.mk p1.Weight (-61) p1.High))) rfl (by kernel_rfl) (by kernel_rfl) rfl) ?_
 refine AW.can (Can.fzAE 1 9 (n:=15) (T:=25) (es:=10) (xs:=List.map e25 o) (by kernel_rfl) (by cases hv_34;kernel_rfl) (by cases hv_34;rfl) (mlen (f:=e25) (fun _=>rfl))) ?_
 refine AW.kp (sT [(1,.d (.sl 10 (List.map e25 o))),(2,jI 0)] [] 10 0) (by kernel_rfl) ?_
 refine AW.sln (t:=1) rfl (fun hN_35=>?_)
 rw [List.length_map] at hN_35
 obtain ⟨out_35,hx_35,hk_35⟩:=bsomeC h
 refine AW.evCK (fun (A:Int) (_:Unit)=>(sT [(1,.d (.sl 10 (List.map e25 o))),(2,jI A)] [] 10 0)) g3_35 hx_35 (Can.kp (by kernel_rfl)) (fun A p2 s_35 hi_35 hl_35 hp_35 c_35 h hb_35 K_35 hK_35=>?_) (fun A s_35 hi_35 hl_35 hout=>?_)
 ·unfold g3_35 at h
  refine AW.seqK fun K_36 hK_36=>AW.srwK fun Q_37 hQ_37=>?_
  refine Au 2 (sT [(1,.d (.sl 10 (List.map e25 o))),(2,jI A),(117,jI A),(118,.d (.sl 10 (List.map e25 o)))] [] 10 0) ?_
  refine rL rfl ?_
  refine Au 1 (sT [(1,.d (.sl 10 (List.map e25 o))),(2,jI A),(120,.d (.bool (decide (A<(o.length:Int)))))] [] 10 0) ?_
  refine RW.nil (hQ_37 _ ?_)
  refine AW.cond rfl (fun hb_38=>?_) (fun hb_38=>False.elim (by have:=of_decide_eq_false hb_38;omega))
  refine AW.skip (hK_36 _ ?_)
  refine AW.seqK (fun K_39 hK_39=>?_)
  refine AW.block ?_
  refine AW.srwK (fun Q_40 hQ_40=>?_)
  refine Au 2 (sT [(1,.d (.sl 10 (List.map e25 o))),(2,jI A),(124,.d (.sl 10 (List.map e25 o))),(125,jI A)] [] 10 0) ?_
  refine RW.one fokW (r_iaD trivial rfl rfl hi_35 (row:=e25 p2) (mapget hp_35) (r_end ?_))
  refine Au 1 (sT [(1,.d (.sl 10 (List.map e25 o))),(2,jI A),(127,.agg [jI p2.Kind,jI p2.Front,jI p2.Back,jI p2.Radius,.d (.sl 4 (List.map e36 p2.Parts)),jI p2.Along,jI p2.High,jI p2.Lean_,jI p2.Limit,.d (.sl 3 (List.map e29 p2.Trials))])] [] 10 0) ?_
  obtain ⟨⟨r0_1_2,r1_1⟩,hx_41,h⟩:=bsome h
  refine rC (k11 p2 _ hx_41) ?_
  refine Au 5 (sT [(1,.d (.sl 10 (List.map e25 o))),(2,jI A),(4,jI r1_1)] [] 10 0) ?_
  refine RW.nil (hQ_40 _ ?_)
  refine AW.srwK (fun Q_42 hQ_42=>?_)
  refine Au 2 (sT [(1,.d (.sl 10 (List.map e25 o))),(2,jI A),(4,jI r1_1),(132,.d (.sl 10 (List.map e25 o))),(133,jI A)] [] 10 0) ?_
  refine RW.one fokW (r_iaD trivial rfl rfl hi_35 (row:=e25 p2) (mapget hp_35) (r_end ?_))
  refine Au 1 (sT [(1,.d (.sl 10 (List.map e25 o))),(2,jI A),(4,jI r1_1),(135,.agg [jI p2.Kind,jI p2.Front,jI p2.Back,jI p2.Radius,.d (.sl 4 (List.map e36 p2.Parts)),jI p2.Along,jI p2.High,jI p2.Lean_,jI p2.Limit,.d (.sl 3 (List.map e29 p2.Trials))])] [] 10 0) ?_
  obtain ⟨⟨r0_6_1,r1_6⟩,hx_43,h⟩:=bsome h
  refine rC (k12 p2 0 0 _ hx_43) ?_
  refine Au 5 (sT [(1,.d (.sl 10 (List.map e25 o))),(2,jI A),(4,jI r1_1),(6,jI r1_6)] [] 10 0) ?_
  refine RW.nil (hQ_42 _ ?_)
  refine AW.srwK (fun Q_44 hQ_44=>?_)
  refine Au 2 (sT [(1,.d (.sl 10 (List.map e25 o))),(2,jI A),(4,jI r1_1),(6,jI r1_6),(140,.d (.sl 10 (List.map e25 o))),(141,jI A)] [] 10 0) ?_
  refine RW.one fokW (r_iaD trivial rfl rfl hi_35 (row:=e25 p2) (mapget hp_35) (r_end ?_))
  refine Au 1 (sT [(1,.d (.sl 10 (List.map e25 o))),(2,jI A),(4,jI r1_1),(6,jI r1_6),(143,.agg [jI p2.Kind,jI p2.Front,jI p2.Back,jI p2.Radius,.d (.sl 4 (List.map e36 p2.Parts)),jI p2.Along,jI p2.High,jI p2.Lean_,jI p2.Limit,.d (.sl 3 (List.map e29 p2.Trials))])] [] 10 0) ?_
  obtain ⟨⟨r0_3_1,r1_4⟩,hx_45,h⟩:=bsome h
  refine rC (k13 p2 0 0 _ hx_45) ?_
  refine Au 6 (sT [(1,.d (.sl 10 (List.map e25 o))),(2,jI A),(4,jI r1_1),(6,jI r1_6),(8,jI r1_4)] [] 11 0) ?_
  refine RW.nil (hQ_44 _ ?_)
  refine AW.srwK (fun Q_46 hQ_46=>?_)
  refine Au 2 (sT [(1,.d (.sl 10 (List.map e25 o))),(2,jI A),(4,jI r1_1),(6,jI r1_6),(8,jI r1_4),(148,.d (.sl 10 (List.map e25 o))),(149,jI A)] [] 11 0) ?_
  refine RW.one fokW (r_iaD trivial rfl rfl hi_35 (row:=e25 p2) (mapget hp_35) (r_end ?_))
  refine Au 1 (sT [(1,.d (.sl 10 (List.map e25 o))),(2,jI A),(4,jI r1_1),(6,jI r1_6),(8,jI r1_4),(151,.agg [jI p2.Kind,jI p2.Front,jI p2.Back,jI p2.Radius,.d (.sl 4 (List.map e36 p2.Parts)),jI p2.Along,jI p2.High,jI p2.Lean_,jI p2.Limit,.d (.sl 3 (List.map e29 p2.Trials))])] [] 11 0) ?_
  obtain ⟨⟨r0_4_1,r1_4_1⟩,hx_47,h⟩:=bsome h
  refine rC (k14 p2 0 _ hx_47) ?_
  refine Au 5 (sT [(1,.d (.sl 10 (List.map e25 o))),(2,jI A),(4,jI r1_1),(6,jI r1_6),(8,jI r1_4),(10,jI r1_4_1)] [] 11 0) ?_
  refine RW.nil (hQ_46 _ ?_)
  refine AW.srwK (fun Q_48 hQ_48=>?_)
  refine Au 2 (sT [(1,.d (.sl 10 (List.map e25 o))),(2,jI A),(4,jI r1_1),(6,jI r1_6),(8,jI r1_4),(10,jI r1_4_1),(156,.d (.sl 10 (List.map e25 o))),(157,jI A)] [] 11 0) ?_
  refine RW.one fokW (r_iaD trivial rfl rfl hi_35 (row:=e25 p2) (mapget hp_35) (r_end ?_))
  refine Au 1 (sT [(1,.d (.sl 10 (List.map e25 o))),(2,jI A),(4,jI r1_1),(6,jI r1_6),(8,jI r1_4),(10,jI r1_4_1),(159,.agg [jI p2.Kind,jI p2.Front,jI p2.Back,jI p2.Radius,.d (.sl 4 (List.map e36 p2.Parts)),jI p2.Along,jI p2.High,jI p2.Lean_,jI p2.Limit,.d (.sl 3 (List.map e29 p2.Trials))])] [] 11 0) ?_
  obtain ⟨⟨r0_4_2,r1_5⟩,hx_49,h⟩:=bsome h
  refine rC (k15 p2 _ hx_49) ?_
  refine Au 5 (sT [(1,.d (.sl 10 (List.map e25 o))),(2,jI A),(4,jI r1_1),(6,jI r1_6),(8,jI r1_4),(10,jI r1_4_1),(12,jI r1_5)] [] 11 0) ?_
  refine RW.nil (hQ_48 _ ?_)
  refine AW.srwK (fun Q_50 hQ_50=>?_)
  refine Au 2 (sT [(1,.d (.sl 10 (List.map e25 o))),(2,jI A),(4,jI r1_1),(6,jI r1_6),(8,jI r1_4),(10,jI r1_4_1),(12,jI r1_5),(164,.d (.sl 10 (List.map e25 o))),(165,jI A)] [] 11 0) ?_
  refine RW.one fokW (r_iaD trivial rfl rfl hi_35 (row:=e25 p2) (mapget hp_35) (r_end ?_))
  refine Au 1 (sT [(1,.d (.sl 10 (List.map e25 o))),(2,jI A),(4,jI r1_1),(6,jI r1_6),(8,jI r1_4),(10,jI r1_4_1),(12,jI r1_5),(167,.agg [jI p2.Kind,jI p2.Front,jI p2.Back,jI p2.Radius,.d (.sl 4 (List.map e36 p2.Parts)),jI p2.Along,jI p2.High,jI p2.Lean_,jI p2.Limit,.d (.sl 3 (List.map e29 p2.Trials))])] [] 11 0) ?_
  obtain ⟨⟨r0_4_3,r1_5_1⟩,hx_51,h⟩:=bsome h
  refine rC (k16 p2 0 _ hx_51) ?_
  refine Au 6 (sT [(1,.d (.sl 10 (List.map e25 o))),(2,jI A),(4,jI r1_1),(6,jI r1_6),(8,jI r1_4),(10,jI r1_4_1),(12,jI r1_5),(14,jI r1_5_1)] [] 12 0) ?_
  refine RW.nil (hQ_50 _ ?_)
  refine AW.srwK (fun Q_52 hQ_52=>?_)
  refine Au 2 (sT [(1,.d (.sl 10 (List.map e25 o))),(2,jI A),(4,jI r1_1),(6,jI r1_6),(8,jI r1_4),(10,jI r1_4_1),(12,jI r1_5),(14,jI r1_5_1),(172,.d (.sl 10 (List.map e25 o))),(173,jI A)] [] 12 0) ?_
  refine RW.one fokW (r_iaD trivial rfl rfl hi_35 (row:=e25 p2) (mapget hp_35) (r_end ?_))
  refine Au 1 (sT [(1,.d (.sl 10 (List.map e25 o))),(2,jI A),(4,jI r1_1),(6,jI r1_6),(8,jI r1_4),(10,jI r1_4_1),(12,jI r1_5),(14,jI r1_5_1),(175,.agg [jI p2.Kind,jI p2.Front,jI p2.Back,jI p2.Radius,.d (.sl 4 (List.map e36 p2.Parts)),jI p2.Along,jI p2.High,jI p2.Lean_,jI p2.Limit,.d (.sl 3 (List.map e29 p2.Trials))])] [] 12 0) ?_
  obtain ⟨⟨r0_5_1,r1_5_2⟩,hx_53,h⟩:=bsome h
  refine rC (k17 p2 61 _ hx_53) ?_
  refine Au 5 (sT [(1,.d (.sl 10 (List.map e25 o))),(2,jI A),(4,jI r1_1),(6,jI r1_6),(8,jI r1_4),(10,jI r1_4_1),(12,jI r1_5),(14,jI r1_5_1),(16,jI r1_5_2)] [] 12 0) ?_
  refine RW.nil (hQ_52 _ ?_)
  refine AW.srwK (fun Q_54 hQ_54=>?_)
  refine Au 2 (sT [(1,.d (.sl 10 (List.map e25 o))),(2,jI A),(4,jI r1_1),(6,jI r1_6),(8,jI r1_4),(10,jI r1_4_1),(12,jI r1_5),(14,jI r1_5_1),(16,jI r1_5_2),(180,.d (.sl 10 (List.map e25 o))),(181,jI A)] [] 12 0) ?_
  refine RW.one fokW (r_iaD trivial rfl rfl hi_35 (row:=e25 p2) (mapget hp_35) (r_end ?_))
  refine Au 1 (sT [(1,.d (.sl 10 (List.map e25 o))),(2,jI A),(4,jI r1_1),(6,jI r1_6),(8,jI r1_4),(10,jI r1_4_1),(12,jI r1_5),(14,jI r1_5_1),(16,jI r1_5_2),(183,.agg [jI p2.Kind,jI p2.Front,jI p2.Back,jI p2.Radius,.d (.sl 4 (List.map e36 p2.Parts)),jI p2.Along,jI p2.High,jI p2.Lean_,jI p2.Limit,.d (.sl 3 (List.map e29 p2.Trials))])] [] 12 0) ?_
  obtain ⟨⟨r0_4_4,r1_5_3⟩,hx_55,h⟩:=bsome h
  refine rC (k18 p2 _ hx_55) ?_
  refine Au 5 (sT [(1,.d (.sl 10 (List.map e25 o))),(2,jI A),(4,jI r1_1),(6,jI r1_6),(8,jI r1_4),(10,jI r1_4_1),(12,jI r1_5),(14,jI r1_5_1),(16,jI r1_5_2),(18,jI r1_5_3)] [] 12 0) ?_
  refine RW.nil (hQ_54 _ ?_)
  refine AW.srwK (fun Q_56 hQ_56=>?_)
  refine Au 2 (sT [(1,.d (.sl 10 (List.map e25 o))),(2,jI A),(4,jI r1_1),(6,jI r1_6),(8,jI r1_4),(10,jI r1_4_1),(12,jI r1_5),(14,jI r1_5_1),(16,jI r1_5_2),(18,jI r1_5_3),(188,.d (.sl 10 (List.map e25 o))),(189,jI A)] [] 12 0) ?_
  refine RW.one fokW (r_iaD trivial rfl rfl hi_35 (row:=e25 p2) (mapget hp_35) (r_end ?_))
  refine Au 1 (sT [(1,.d (.sl 10 (List.map e25 o))),(2,jI A),(4,jI r1_1),(6,jI r1_6),(8,jI r1_4),(10,jI r1_4_1),(12,jI r1_5),(14,jI r1_5_1),(16,jI r1_5_2),(18,jI r1_5_3),(191,.agg [jI p2.Kind,jI p2.Front,jI p2.Back,jI p2.Radius,.d (.sl 4 (List.map e36 p2.Parts)),jI p2.Along,jI p2.High,jI p2.Lean_,jI p2.Limit,.d (.sl 3 (List.map e29 p2.Trials))])] [] 12 0) ?_
  obtain ⟨⟨r0_2_4,r1_2⟩,hx_57,h⟩:=bsome h
  refine rC (k19 p2 _ hx_57) ?_
  refine Au 5 (sT [(1,.d (.sl 10 (List.map e25 o))),(2,jI A),(4,jI r1_1),(6,jI r1_6),(8,jI r1_4),(10,jI r1_4_1),(12,jI r1_5),(14,jI r1_5_1),(16,jI r1_5_2),(18,jI r1_5_3),(20,jI r1_2)] [] 12 0) ?_
  refine RW.nil (hQ_56 _ ?_)
  refine AW.srwK (fun Q_58 hQ_58=>?_)
  refine Au 2 (sT [(1,.d (.sl 10 (List.map e25 o))),(2,jI A),(4,jI r1_1),(6,jI r1_6),(8,jI r1_4),(10,jI r1_4_1),(12,jI r1_5),(14,jI r1_5_1),(16,jI r1_5_2),(18,jI r1_5_3),(20,jI r1_2),(195,.d (.sl 10 (List.map e25 o))),(196,jI A)] [] 12 0) ?_
  refine RW.one fokW (r_iaD trivial rfl rfl hi_35 (row:=e25 p2) (mapget hp_35) (r_end ?_))
  refine Au 1 (sT [(1,.d (.sl 10 (List.map e25 o))),(2,jI A),(4,jI r1_1),(6,jI r1_6),(8,jI r1_4),(10,jI r1_4_1),(12,jI r1_5),(14,jI r1_5_1),(16,jI r1_5_2),(18,jI r1_5_3),(20,jI r1_2),(198,.agg [jI p2.Kind,jI p2.Front,jI p2.Back,jI p2.Radius,.d (.sl 4 (List.map e36 p2.Parts)),jI p2.Along,jI p2.High,jI p2.Lean_,jI p2.Limit,.d (.sl 3 (List.map e29 p2.Trials))])] [] 12 0) ?_
  obtain ⟨A1,hx_59,h⟩:=bsome h
  refine rC (k20 p2 _ hx_59) ?_
  refine RW.au fokW 37 [201,205,209,213,217,221,225,229,233] (sT [(1,.d (.sl 10 (List.map e25 o))),(2,jI A),(236,.d (.bool ((((((((((decide (A1≠20))||(decide (r1_1≠20)))||(decide (r1_6≠20)))||(decide (r1_4≠20)))||(decide (r1_4_1≠20)))||(decide (r1_5≠20)))||(decide (r1_5_1≠20)))||(decide (r1_5_2≠20)))||(decide (r1_5_3≠20)))||(decide (r1_2≠20)))))] [] 12 0) (by kernel_rfl) ?_
  refine RW.nil (hQ_58 _ ?_)
  refine AW.cond rfl (fun hb_60=>?_) (fun hb_60=>?_)
  ·have h:=ifT hb_60 h
   refine Sa (sT [(0,.d (.bool false))] [] 12 0) ?_
   obtain rfl:=Option.some.inj h
   have e_1:=hb_35 _ rfl
   subst e_1
   obtain rfl:=Aft.bk hk_35
   exact rT hR_0 (.cons (.tmp rfl) .nil)
  ·have h:=ifF hb_60 h
   refine AW.skip (hK_39 _ ?_)
   refine Ra (sT [(1,.d (.sl 10 (List.map e25 o))),(2,jI (wr (A+1)))] [] 12 0) ?_
   obtain rfl:=Option.some.inj h
   have ew:wr (A+1)=A+1:=inext (N:=(o.length:Int)) (by omega) (by omega) (by omega)
   rw [ew]
   exact hK_35 _ _ rfl (Can.kp (by kernel_rfl))
 ·subst hout
  have h:=Aft.nx hk_35
  refine AW.seqK fun K_61 hK_61=>AW.srwK fun Q_62 hQ_62=>?_
  refine Au 2 (sT [(1,.d (.sl 10 (List.map e25 o))),(2,jI A),(117,jI A),(118,.d (.sl 10 (List.map e25 o)))] [] 10 0) ?_
  refine rL rfl ?_
  refine Au 1 (sT [(1,.d (.sl 10 (List.map e25 o))),(2,jI A),(120,.d (.bool (decide (A<(o.length:Int)))))] [] 10 0) ?_
  refine RW.nil (hQ_62 _ ?_)
  refine AW.cond rfl (fun hb_63=>False.elim (by have:=of_decide_eq_true hb_63;omega)) (fun hb_63=>?_)
  refine AW.exit ?_
  refine hK_33 _ ?_
  refine AW.srwK (fun Q_64 hQ_64=>?_)
  obtain ⟨r0_3_2,hx_65,h⟩:=bsome h
  refine rC (k21 _ hx_65) ?_
  obtain ⟨⟨r0_6_2,r1_6_1⟩,hx_66,h⟩:=bsome h
  refine rC (k12 r0_3_2 0 0 _ hx_66) ?_
  refine Au 5 (sT [(22,jI r1_6_1)] [] 10 0) ?_
  refine RW.nil (hQ_64 _ ?_)
  refine AW.srwK (fun Q_67 hQ_67=>?_)
  obtain ⟨r0_3_3,hx_68,h⟩:=bsome h
  refine rC (k21 _ hx_68) ?_
  obtain ⟨⟨r0_6_3,r1_6_2⟩,hx_69,h⟩:=bsome h
  refine rC (k12 r0_3_3 1 (-9) _ hx_69) ?_
  refine Au 5 (sT [(22,jI r1_6_1),(24,jI r1_6_2)] [] 10 0) ?_
  refine RW.nil (hQ_67 _ ?_)
  refine AW.srwK (fun Q_70 hQ_70=>?_)
  obtain ⟨r0_3_4,hx_71,h⟩:=bsome h
  refine rC (k21 _ hx_71) ?_
  obtain ⟨⟨r0_3_5,r1_4_2⟩,hx_72,h⟩:=bsome h
  refine rC (k13 r0_3_4 31 0 _ hx_72) ?_
  refine Au 6 (sT [(22,jI r1_6_1),(24,jI r1_6_2),(26,jI r1_4_2)] [] 11 0) ?_
  refine RW.nil (hQ_70 _ ?_)
  refine AW.srwK (fun Q_73 hQ_73=>?_)
  obtain ⟨r0_3_6,hx_74,h⟩:=bsome h
  refine rC (k21 _ hx_74) ?_
  obtain ⟨⟨r0_4_5,r1_4_3⟩,hx_75,h⟩:=bsome h
  refine rC (k14 r0_3_6 31 _ hx_75) ?_
  refine Au 5 (sT [(22,jI r1_6_1),(24,jI r1_6_2),(26,jI r1_4_2),(28,jI r1_4_3)] [] 11 0) ?_
  refine RW.nil (hQ_73 _ ?_)
  refine AW.srwK (fun Q_76 hQ_76=>?_)
  obtain ⟨r0_3_7,hx_77,h⟩:=bsome h
  refine rC (k21 _ hx_77) ?_
  obtain ⟨⟨r0_4_6,r1_5_4⟩,hx_78,h⟩:=bsome h
  refine rC (k16 r0_3_7 0 _ hx_78) ?_
  refine Au 6 (sT [(22,jI r1_6_1),(24,jI r1_6_2),(26,jI r1_4_2),(28,jI r1_4_3),(30,jI r1_5_4)] [] 12 0) ?_
  refine RW.nil (hQ_76 _ ?_)
  refine AW.srwK (fun Q_79 hQ_79=>?_)
  obtain ⟨r0_3_8,hx_80,h⟩:=bsome h
  refine rC (k21 _ hx_80) ?_
  obtain ⟨⟨r0_5_2,r1_5_5⟩,hx_81,h⟩:=bsome h
  refine rC (k17 r0_3_8 (-61) _ hx_81) ?_
  refine Au 5 (sT [(22,jI r1_6_1),(24,jI r1_6_2),(26,jI r1_4_2),(28,jI r1_4_3),(30,jI r1_5_4),(32,jI r1_5_5)] [] 12 0) ?_
  refine RW.nil (hQ_79 _ ?_)
  refine AW.srwK (fun Q_82 hQ_82=>?_)
  obtain ⟨r0_3_9,hx_83,h⟩:=bsome h
  refine rC (k21 _ hx_83) ?_
  obtain ⟨⟨r0_6_4,r1_6_3⟩,hx_84,h⟩:=bsome h
  refine rC (k12 r0_3_9 1 0 _ hx_84) ?_
  refine Au 5 (sT [(22,jI r1_6_1),(24,jI r1_6_2),(26,jI r1_4_2),(28,jI r1_4_3),(30,jI r1_5_4),(32,jI r1_5_5),(34,jI r1_6_3)] [] 12 0) ?_
  refine RW.nil (hQ_82 _ ?_)
  refine AW.srwK (fun Q_85 hQ_85=>?_)
  obtain ⟨r0_3_10,hx_86,h⟩:=bsome h
  refine rC (k21 _ hx_86) ?_
  obtain ⟨⟨r0_4_7,r1_5_6⟩,hx_87,h⟩:=bsome h
  refine rC (k15 r0_3_10 _ hx_87) ?_
  refine Au 5 (sT [(22,jI r1_6_1),(24,jI r1_6_2),(26,jI r1_4_2),(28,jI r1_4_3),(30,jI r1_5_4),(32,jI r1_5_5),(34,jI r1_6_3),(36,jI r1_5_6)] [] 12 0) ?_
  refine RW.nil (hQ_85 _ ?_)
  refine AW.srwK (fun Q_88 hQ_88=>?_)
  obtain ⟨r0_3_11,hx_89,h⟩:=bsome h
  refine rC (k21 _ hx_89) ?_
  obtain ⟨⟨r0_4_8,r1_5_7⟩,hx_90,h⟩:=bsome h
  refine rC (k18 r0_3_11 _ hx_90) ?_
  refine Au 5 (sT [(22,jI r1_6_1),(24,jI r1_6_2),(26,jI r1_4_2),(28,jI r1_4_3),(30,jI r1_5_4),(32,jI r1_5_5),(34,jI r1_6_3),(36,jI r1_5_6),(38,jI r1_5_7)] [] 12 0) ?_
  refine RW.nil (hQ_88 _ ?_)
  refine AW.srwK (fun Q_91 hQ_91=>?_)
  obtain ⟨r0_11,hx_92,h⟩:=bsome h
  refine rC (k6 _ hx_92) ?_
  obtain ⟨⟨r0_5_3,r1_5_8⟩,hx_93,h⟩:=bsome h
  refine rC (k17 r0_11 (-4) _ hx_93) ?_
  refine Au 5 (sT [(22,jI r1_6_1),(24,jI r1_6_2),(26,jI r1_4_2),(28,jI r1_4_3),(30,jI r1_5_4),(32,jI r1_5_5),(34,jI r1_6_3),(36,jI r1_5_6),(38,jI r1_5_7),(40,jI r1_5_8)] [] 12 0) ?_
  refine RW.nil (hQ_91 _ ?_)
  refine AW.seqK (fun K_94 hK_94=>?_)
  refine AW.sa fokW [289,293,297,301,305,309,313,317,321] (sT [(324,.d (.bool ((((((((((decide (r1_6_1≠21))||(decide (r1_6_2≠21)))||(decide (r1_4_2≠21)))||(decide (r1_4_3≠21)))||(decide (r1_5_4≠21)))||(decide (r1_5_5≠21)))||(decide (r1_6_3≠22)))||(decide (r1_5_6≠22)))||(decide (r1_5_7≠22)))||(decide (r1_5_8≠4)))))] [] 12 0) (by kernel_rfl) ?_
  refine AW.cond rfl (fun hb_95=>?_) (fun hb_95=>?_)
  ·have h:=ifT hb_95 h
   refine Sa (sT [(0,.d (.bool false))] [] 12 0) ?_
   obtain rfl:=Option.some.inj h
   exact rT hR_0 (.cons (.tmp rfl) .nil)
  ·have h:=ifF hb_95 h
   refine AW.skip (hK_94 _ ?_)
   refine AW.srwK (fun Q_96 hQ_96=>?_)
   obtain ⟨r0_12,hx_97,h⟩:=bsome h
   refine rC (k6 _ hx_97) ?_
   obtain ⟨⟨r0_6_5,r1_6_4⟩,hx_98,h⟩:=bsome h
   refine rC (k12 r0_12 19 (-8) _ hx_98) ?_
   refine Au 5 (sT [(22,jI r1_6_4),(41,jI r0_6_5)] [] 12 0) ?_
   refine RW.nil (hQ_96 _ ?_)
   refine AW.srwK (fun Q_99 hQ_99=>?_)
   obtain ⟨r0_13,hx_100,h⟩:=bsome h
   refine rC (k6 _ hx_100) ?_
   obtain ⟨⟨r0_6_6,r1_6_5⟩,hx_101,h⟩:=bsome h
   refine rC (k12 r0_13 23 (-8) _ hx_101) ?_
   refine Au 5 (sT [(22,jI r1_6_4),(24,jI r1_6_5),(41,jI r0_6_5),(42,jI r0_6_6)] [] 12 0) ?_
   refine RW.nil (hQ_99 _ ?_)
   refine AW.srwK (fun Q_102 hQ_102=>?_)
   obtain ⟨r0_1_3,hx_103,h⟩:=bsome h
   refine rC (k22 _ hx_103) ?_
   obtain ⟨⟨r0_6_7,r1_6_6⟩,hx_104,h⟩:=bsome h
   refine rC (k12 r0_1_3 20 (-8) _ hx_104) ?_
   refine Au 5 (sT [(22,jI r1_6_4),(24,jI r1_6_5),(26,jI r1_6_6),(41,jI r0_6_5),(42,jI r0_6_6),(43,jI r0_6_7)] [] 12 0) ?_
   refine RW.nil (hQ_102 _ ?_)
   refine AW.srwK (fun Q_105 hQ_105=>?_)
   obtain ⟨r0_14,hx_106,h⟩:=bsome h
   refine rC (k6 _ hx_106) ?_
   obtain ⟨⟨r0_3_12,r1_4_4⟩,hx_107,h⟩:=bsome h
   refine rC (k13 r0_14 20 (-8) _ hx_107) ?_
   refine Au 6 (sT [(22,jI r1_6_4),(24,jI r1_6_5),(26,jI r1_6_6),(28,jI r1_4_4),(41,jI r0_6_5),(42,jI r0_6_6),(43,jI r0_6_7),pR 44 12] [(12,.var 43 [jI r0_3_12.Top,jI r0_3_12.Bottom])] 13 0) ?_
   refine RW.nil (hQ_105 _ ?_)
   refine AW.srwK (fun Q_108 hQ_108=>?_)
   obtain ⟨r0_15,hx_109,h⟩:=bsome h
   refine rC (k6 _ hx_109) ?_
   obtain ⟨⟨r0_4_9,r1_4_5⟩,hx_110,h⟩:=bsome h
   refine rC (k14 r0_15 20 _ hx_110) ?_
   refine Au 5 (sT [(22,jI r1_6_4),(24,jI r1_6_5),(26,jI r1_6_6),(28,jI r1_4_4),(30,jI r1_4_5),(41,jI r0_6_5),(42,jI r0_6_6),(43,jI r0_6_7),pR 44 12,(45,.d (.bool r0_4_9))] [(12,.var 43 [jI r0_3_12.Top,jI r0_3_12.Bottom])] 13 0) ?_
   refine RW.nil (hQ_108 _ ?_)
   refine AW.srwK (fun Q_111 hQ_111=>?_)
   obtain ⟨r0_1_4,hx_112,h⟩:=bsome h
   refine rC (k22 _ hx_112) ?_
   obtain ⟨⟨r0_4_10,r1_4_6⟩,hx_113,h⟩:=bsome h
   refine rC (k14 r0_1_4 21 _ hx_113) ?_
   refine Au 5 (sT [(22,jI r1_6_4),(24,jI r1_6_5),(26,jI r1_6_6),(28,jI r1_4_4),(30,jI r1_4_5),(32,jI r1_4_6),(41,jI r0_6_5),(42,jI r0_6_6),(43,jI r0_6_7),pR 44 12,(45,.d (.bool r0_4_9)),(46,.d (.bool r0_4_10))] [(12,.var 43 [jI r0_3_12.Top,jI r0_3_12.Bottom])] 13 0) ?_
   refine RW.nil (hQ_111 _ ?_)
   refine AW.srwK (fun Q_114 hQ_114=>?_)
   obtain ⟨r0_16,hx_115,h⟩:=bsome h
   refine rC (k6 _ hx_115) ?_
   obtain ⟨⟨r0_4_11,r1_5_9⟩,hx_116,h⟩:=bsome h
   refine rC (k15 r0_16 _ hx_116) ?_
   refine Au 5 (sT [(22,jI r1_6_4),(24,jI r1_6_5),(26,jI r1_6_6),(28,jI r1_4_4),(30,jI r1_4_5),(32,jI r1_4_6),(34,jI r1_5_9),(41,jI r0_6_5),(42,jI r0_6_6),(43,jI r0_6_7),pR 44 12,(45,.d (.bool r0_4_9)),(46,.d (.bool r0_4_10)),(47,jI r0_4_11)] [(12,.var 43 [jI r0_3_12.Top,jI r0_3_12.Bottom])] 13 0) ?_
   refine RW.nil (hQ_114 _ ?_)
   refine AW.srwK (fun Q_117 hQ_117=>?_)
   obtain ⟨r0_17,hx_118,h⟩:=bsome h
   refine rC (k6 _ hx_118) ?_
   obtain ⟨⟨r0_4_12,r1_5_10⟩,hx_119,h⟩:=bsome h
   refine rC (k16 r0_17 30 _ hx_119) ?_
   refine Au 6 (sT [(22,jI r1_6_4),(24,jI r1_6_5),(26,jI r1_6_6),(28,jI r1_4_4),(30,jI r1_4_5),(32,jI r1_4_6),(34,jI r1_5_9),(36,jI r1_5_10),(41,jI r0_6_5),(42,jI r0_6_6),(43,jI r0_6_7),pR 44 12,(45,.d (.bool r0_4_9)),(46,.d (.bool r0_4_10)),(47,jI r0_4_11),pR 48 13] [(13,.var 33 [jI r0_4_12.Low,jI r0_4_12.High]),(12,.var 43 [jI r0_3_12.Top,jI r0_3_12.Bottom])] 14 0) ?_
   refine RW.nil (hQ_117 _ ?_)
   refine AW.srwK (fun Q_120 hQ_120=>?_)
   obtain ⟨r0_1_5,hx_121,h⟩:=bsome h
   refine rC (k22 _ hx_121) ?_
   obtain ⟨⟨r0_4_13,r1_5_11⟩,hx_122,h⟩:=bsome h
   refine rC (k18 r0_1_5 _ hx_122) ?_
   refine Au 5 (sT [(22,jI r1_6_4),(24,jI r1_6_5),(26,jI r1_6_6),(28,jI r1_4_4),(30,jI r1_4_5),(32,jI r1_4_6),(34,jI r1_5_9),(36,jI r1_5_10),(38,jI r1_5_11),(41,jI r0_6_5),(42,jI r0_6_6),(43,jI r0_6_7),pR 44 12,(45,.d (.bool r0_4_9)),(46,.d (.bool r0_4_10)),(47,jI r0_4_11),pR 48 13,(49,jI r0_4_13)] [(13,.var 33 [jI r0_4_12.Low,jI r0_4_12.High]),(12,.var 43 [jI r0_3_12.Top,jI r0_3_12.Bottom])] 14 0) ?_
   refine RW.nil (hQ_120 _ ?_)
   refine AW.srwK (fun Q_123 hQ_123=>?_)
   obtain ⟨r0_3_13,hx_124,h⟩:=bsome h
   refine rC (k21 _ hx_124) ?_
   obtain ⟨⟨r0_1_6,r1_1_1⟩,hx_125,h⟩:=bsome h
   refine rC (k11 r0_3_13 _ hx_125) ?_
   refine Au 5 (sT [(22,jI r1_6_4),(24,jI r1_6_5),(26,jI r1_6_6),(28,jI r1_4_4),(30,jI r1_4_5),(32,jI r1_4_6),(34,jI r1_5_9),(36,jI r1_5_10),(38,jI r1_5_11),(40,jI r1_1_1),(41,jI r0_6_5),(42,jI r0_6_6),(43,jI r0_6_7),pR 44 12,(45,.d (.bool r0_4_9)),(46,.d (.bool r0_4_10)),(47,jI r0_4_11),pR 48 13,(49,jI r0_4_13),(50,.d (.bool r0_1_6))] [(13,.var 33 [jI r0_4_12.Low,jI r0_4_12.High]),(12,.var 43 [jI r0_3_12.Top,jI r0_3_12.Bottom])] 14 0) ?_
   refine RW.nil (hQ_123 _ ?_)
   obtain ⟨c_126,hx_126,hk_126⟩:=bsomeC h
   refine AW.jnK (fun (_:Unit)=>(sT [] [] 14 0)) (c:=c_126) (fun K_126 hK_126=>?_) (fun j_126 hj_126=>?_)
   ·have h:=hx_126
    obtain ⟨v,hx_127,h⟩:=bsome h
    refine AW.jnSK (fun (v:Bool)=>(sT [(452,.d (.bool v))] [] 14 0)) (c:=v) (fun K_127 hK_127=>?_) ?_
    ·have h:=hx_127
     refine AW.drw fokW ?_
     refine aX 3 (sT [(24,jI r1_6_5),(26,jI r1_6_6),(28,jI r1_4_4),(30,jI r1_4_5),(32,jI r1_4_6),(34,jI r1_5_9),(36,jI r1_5_10),(38,jI r1_5_11),(40,jI r1_1_1),(41,jI r0_6_5),(42,jI r0_6_6),(43,jI r0_6_7),pR 44 12,(45,.d (.bool r0_4_9)),(46,.d (.bool r0_4_10)),(47,jI r0_4_11),pR 48 13,(49,jI r0_4_13),(50,.d (.bool r0_1_6)),(377,.d (.bool (decide (r1_6_4≠0))))] [(13,.var 33 [jI r0_4_12.Low,jI r0_4_12.High]),(12,.var 43 [jI r0_3_12.Top,jI r0_3_12.Bottom])] 14 0) ?_
     refine r_split 377 rfl (fun hb_129=>?_) (fun hb_129=>?_)
     ·have h:=ifT hb_129 h
      refine aX 75 (sT [(452,.d (.bool true))] [(13,.var 33 [jI r0_4_12.Low,jI r0_4_12.High]),(12,.var 43 [jI r0_3_12.Top,jI r0_3_12.Bottom])] 14 0) ?_
      refine RunC.fin2 (sT [(452,.d (.bool true))] [] 14 0) (by kernel_rfl) (by kernel_rfl) ?_
      obtain rfl:=Option.some.inj h
      exact hK_127 _ (Can.kp (by kernel_rfl))
     ·have h:=ifF hb_129 h
      refine aX 4 (sT [(24,jI r1_6_5),(26,jI r1_6_6),(28,jI r1_4_4),(30,jI r1_4_5),(32,jI r1_4_6),(34,jI r1_5_9),(36,jI r1_5_10),(38,jI r1_5_11),(40,jI r1_1_1),(42,jI r0_6_6),(43,jI r0_6_7),pR 44 12,(45,.d (.bool r0_4_9)),(46,.d (.bool r0_4_10)),(47,jI r0_4_11),pR 48 13,(49,jI r0_4_13),(50,.d (.bool r0_1_6)),(381,.d (.bool (decide (r0_6_5≠0))))] [(13,.var 33 [jI r0_4_12.Low,jI r0_4_12.High]),(12,.var 43 [jI r0_3_12.Top,jI r0_3_12.Bottom])] 14 0) ?_
      refine r_split 381 rfl (fun hb_130=>?_) (fun hb_130=>?_)
      ·have h:=ifT hb_130 h
       refine aX 71 (sT [(452,.d (.bool true))] [(13,.var 33 [jI r0_4_12.Low,jI r0_4_12.High]),(12,.var 43 [jI r0_3_12.Top,jI r0_3_12.Bottom])] 14 0) ?_
       refine RunC.fin2 (sT [(452,.d (.bool true))] [] 14 0) (by kernel_rfl) (by kernel_rfl) ?_
       obtain rfl:=Option.some.inj h
       exact hK_127 _ (Can.kp (by kernel_rfl))
      ·have h:=ifF hb_130 h
       refine aX 4 (sT [(26,jI r1_6_6),(28,jI r1_4_4),(30,jI r1_4_5),(32,jI r1_4_6),(34,jI r1_5_9),(36,jI r1_5_10),(38,jI r1_5_11),(40,jI r1_1_1),(42,jI r0_6_6),(43,jI r0_6_7),pR 44 12,(45,.d (.bool r0_4_9)),(46,.d (.bool r0_4_10)),(47,jI r0_4_11),pR 48 13,(49,jI r0_4_13),(50,.d (.bool r0_1_6)),(385,.d (.bool (decide (r1_6_5≠0))))] [(13,.var 33 [jI r0_4_12.Low,jI r0_4_12.High]),(12,.var 43 [jI r0_3_12.Top,jI r0_3_12.Bottom])] 14 0) ?_
       refine r_split 385 rfl (fun hb_131=>?_) (fun hb_131=>?_)
       ·have h:=ifT hb_131 h
        refine aX 67 (sT [(452,.d (.bool true))] [(13,.var 33 [jI r0_4_12.Low,jI r0_4_12.High]),(12,.var 43 [jI r0_3_12.Top,jI r0_3_12.Bottom])] 14 0) ?_
        refine RunC.fin2 (sT [(452,.d (.bool true))] [] 14 0) (by kernel_rfl) (by kernel_rfl) ?_
        obtain rfl:=Option.some.inj h
        exact hK_127 _ (Can.kp (by kernel_rfl))
       ·have h:=ifF hb_131 h
        refine aX 4 (sT [(26,jI r1_6_6),(28,jI r1_4_4),(30,jI r1_4_5),(32,jI r1_4_6),(34,jI r1_5_9),(36,jI r1_5_10),(38,jI r1_5_11),(40,jI r1_1_1),(43,jI r0_6_7),pR 44 12,(45,.d (.bool r0_4_9)),(46,.d (.bool r0_4_10)),(47,jI r0_4_11),pR 48 13,(49,jI r0_4_13),(50,.d (.bool r0_1_6)),(389,.d (.bool (decide (r0_6_6≠2))))] [(13,.var 33 [jI r0_4_12.Low,jI r0_4_12.High]),(12,.var 43 [jI r0_3_12.Top,jI r0_3_12.Bottom])] 14 0) ?_
        refine r_split 389 rfl (fun hb_132=>?_) (fun hb_132=>?_)
        ·have h:=ifT hb_132 h
         refine aX 63 (sT [(452,.d (.bool true))] [(13,.var 33 [jI r0_4_12.Low,jI r0_4_12.High]),(12,.var 43 [jI r0_3_12.Top,jI r0_3_12.Bottom])] 14 0) ?_
         refine RunC.fin2 (sT [(452,.d (.bool true))] [] 14 0) (by kernel_rfl) (by kernel_rfl) ?_
         obtain rfl:=Option.some.inj h
         exact hK_127 _ (Can.kp (by kernel_rfl))
        ·have h:=ifF hb_132 h
         refine aX 4 (sT [(28,jI r1_4_4),(30,jI r1_4_5),(32,jI r1_4_6),(34,jI r1_5_9),(36,jI r1_5_10),(38,jI r1_5_11),(40,jI r1_1_1),(43,jI r0_6_7),pR 44 12,(45,.d (.bool r0_4_9)),(46,.d (.bool r0_4_10)),(47,jI r0_4_11),pR 48 13,(49,jI r0_4_13),(50,.d (.bool r0_1_6)),(393,.d (.bool (decide (r1_6_6≠0))))] [(13,.var 33 [jI r0_4_12.Low,jI r0_4_12.High]),(12,.var 43 [jI r0_3_12.Top,jI r0_3_12.Bottom])] 14 0) ?_
         refine r_split 393 rfl (fun hb_133=>?_) (fun hb_133=>?_)
         ·have h:=ifT hb_133 h
          refine aX 59 (sT [(452,.d (.bool true))] [(13,.var 33 [jI r0_4_12.Low,jI r0_4_12.High]),(12,.var 43 [jI r0_3_12.Top,jI r0_3_12.Bottom])] 14 0) ?_
          refine RunC.fin2 (sT [(452,.d (.bool true))] [] 14 0) (by kernel_rfl) (by kernel_rfl) ?_
          obtain rfl:=Option.some.inj h
          exact hK_127 _ (Can.kp (by kernel_rfl))
         ·have h:=ifF hb_133 h
          refine aX 4 (sT [(28,jI r1_4_4),(30,jI r1_4_5),(32,jI r1_4_6),(34,jI r1_5_9),(36,jI r1_5_10),(38,jI r1_5_11),(40,jI r1_1_1),pR 44 12,(45,.d (.bool r0_4_9)),(46,.d (.bool r0_4_10)),(47,jI r0_4_11),pR 48 13,(49,jI r0_4_13),(50,.d (.bool r0_1_6)),(397,.d (.bool (decide (r0_6_7≠0))))] [(13,.var 33 [jI r0_4_12.Low,jI r0_4_12.High]),(12,.var 43 [jI r0_3_12.Top,jI r0_3_12.Bottom])] 14 0) ?_
          refine r_split 397 rfl (fun hb_134=>?_) (fun hb_134=>?_)
          ·have h:=ifT hb_134 h
           refine aX 55 (sT [(452,.d (.bool true))] [(13,.var 33 [jI r0_4_12.Low,jI r0_4_12.High]),(12,.var 43 [jI r0_3_12.Top,jI r0_3_12.Bottom])] 14 0) ?_
           refine RunC.fin2 (sT [(452,.d (.bool true))] [] 14 0) (by kernel_rfl) (by kernel_rfl) ?_
           obtain rfl:=Option.some.inj h
           exact hK_127 _ (Can.kp (by kernel_rfl))
          ·have h:=ifF hb_134 h
           refine aX 4 (sT [(30,jI r1_4_5),(32,jI r1_4_6),(34,jI r1_5_9),(36,jI r1_5_10),(38,jI r1_5_11),(40,jI r1_1_1),pR 44 12,(45,.d (.bool r0_4_9)),(46,.d (.bool r0_4_10)),(47,jI r0_4_11),pR 48 13,(49,jI r0_4_13),(50,.d (.bool r0_1_6)),(401,.d (.bool (decide (r1_4_4≠0))))] [(13,.var 33 [jI r0_4_12.Low,jI r0_4_12.High]),(12,.var 43 [jI r0_3_12.Top,jI r0_3_12.Bottom])] 14 0) ?_
           refine r_split 401 rfl (fun hb_135=>?_) (fun hb_135=>?_)
           ·have h:=ifT hb_135 h
            refine aX 51 (sT [(452,.d (.bool true))] [(13,.var 33 [jI r0_4_12.Low,jI r0_4_12.High]),(12,.var 43 [jI r0_3_12.Top,jI r0_3_12.Bottom])] 14 0) ?_
            refine RunC.fin2 (sT [(452,.d (.bool true))] [] 14 0) (by kernel_rfl) (by kernel_rfl) ?_
            obtain rfl:=Option.some.inj h
            exact hK_127 _ (Can.kp (by kernel_rfl))
           ·have h:=ifF hb_135 h
            refine aX 1 (sT [(30,jI r1_4_5),(32,jI r1_4_6),(34,jI r1_5_9),(36,jI r1_5_10),(38,jI r1_5_11),(40,jI r1_1_1),(45,.d (.bool r0_4_9)),(46,.d (.bool r0_4_10)),(47,jI r0_4_11),pR 48 13,(49,jI r0_4_13),(50,.d (.bool r0_1_6)),(401,.d (.bool false)),(402,.agg [jI r0_3_12.Top,jI r0_3_12.Bottom])] [(13,.var 33 [jI r0_4_12.Low,jI r0_4_12.High]),(12,.var 43 [jI r0_3_12.Top,jI r0_3_12.Bottom])] 14 0) ?_
            obtain ⟨r0_18,hx_136,h⟩:=bsome h
            refine r_call rfl rfl (k23 (-1) 11 _ hx_136) rfl rfl ?_
            refine r_aeq rfl rfl rfl rfl rfl ft43 rfl rfl rfl ?_
            refine aX 2 (sT [(30,jI r1_4_5),(32,jI r1_4_6),(34,jI r1_5_9),(36,jI r1_5_10),(38,jI r1_5_11),(40,jI r1_1_1),(45,.d (.bool r0_4_9)),(46,.d (.bool r0_4_10)),(47,jI r0_4_11),pR 48 13,(49,jI r0_4_13),(50,.d (.bool r0_1_6)),(406,.d (.bool (true != ((r0_3_12.Top==r0_18.Top)&&((r0_3_12.Bottom==r0_18.Bottom)&&true)))))] [(13,.var 33 [jI r0_4_12.Low,jI r0_4_12.High]),(12,.var 43 [jI r0_3_12.Top,jI r0_3_12.Bottom])] 14 0) ?_
            refine r_split 406 rfl (fun hb_137=>?_) (fun hb_137=>?_)
            ·have h:=ifT hb_137 h
             refine aX 46 (sT [(452,.d (.bool true))] [(13,.var 33 [jI r0_4_12.Low,jI r0_4_12.High]),(12,.var 43 [jI r0_3_12.Top,jI r0_3_12.Bottom])] 14 0) ?_
             refine RunC.fin2 (sT [(452,.d (.bool true))] [] 14 0) (by kernel_rfl) (by kernel_rfl) ?_
             obtain rfl:=Option.some.inj h
             exact hK_127 _ (Can.kp (by kernel_rfl))
            ·have h:=ifF hb_137 h
             refine aX 4 (sT [(32,jI r1_4_6),(34,jI r1_5_9),(36,jI r1_5_10),(38,jI r1_5_11),(40,jI r1_1_1),(45,.d (.bool r0_4_9)),(46,.d (.bool r0_4_10)),(47,jI r0_4_11),pR 48 13,(49,jI r0_4_13),(50,.d (.bool r0_1_6)),(410,.d (.bool (decide (r1_4_5≠0))))] [(13,.var 33 [jI r0_4_12.Low,jI r0_4_12.High]),(12,.var 43 [jI r0_3_12.Top,jI r0_3_12.Bottom])] 14 0) ?_
             refine r_split 410 rfl (fun hb_138=>?_) (fun hb_138=>?_)
             ·have h:=ifT hb_138 h
              refine aX 42 (sT [(452,.d (.bool true))] [(13,.var 33 [jI r0_4_12.Low,jI r0_4_12.High]),(12,.var 43 [jI r0_3_12.Top,jI r0_3_12.Bottom])] 14 0) ?_
              refine RunC.fin2 (sT [(452,.d (.bool true))] [] 14 0) (by kernel_rfl) (by kernel_rfl) ?_
              obtain rfl:=Option.some.inj h
              exact hK_127 _ (Can.kp (by kernel_rfl))
             ·have h:=ifF hb_138 h
              refine aX 3 (sT [(32,jI r1_4_6),(34,jI r1_5_9),(36,jI r1_5_10),(38,jI r1_5_11),(40,jI r1_1_1),(46,.d (.bool r0_4_10)),(47,jI r0_4_11),pR 48 13,(49,jI r0_4_13),(50,.d (.bool r0_1_6)),(413,.d (.bool r0_4_9))] [(13,.var 33 [jI r0_4_12.Low,jI r0_4_12.High]),(12,.var 43 [jI r0_3_12.Top,jI r0_3_12.Bottom])] 14 0) ?_
              refine r_split 413 rfl (fun hb_139=>?_) (fun hb_139=>?_)
              ·have h:=ifT hb_139 h
               refine aX 39 (sT [(452,.d (.bool true))] [(13,.var 33 [jI r0_4_12.Low,jI r0_4_12.High]),(12,.var 43 [jI r0_3_12.Top,jI r0_3_12.Bottom])] 14 0) ?_
               refine RunC.fin2 (sT [(452,.d (.bool true))] [] 14 0) (by kernel_rfl) (by kernel_rfl) ?_
               obtain rfl:=Option.some.inj h
               exact hK_127 _ (Can.kp (by kernel_rfl))
              ·have h:=ifF hb_139 h
               refine aX 4 (sT [(34,jI r1_5_9),(36,jI r1_5_10),(38,jI r1_5_11),(40,jI r1_1_1),(46,.d (.bool r0_4_10)),(47,jI r0_4_11),pR 48 13,(49,jI r0_4_13),(50,.d (.bool r0_1_6)),(417,.d (.bool (decide (r1_4_6≠0))))] [(13,.var 33 [jI r0_4_12.Low,jI r0_4_12.High]),(12,.var 43 [jI r0_3_12.Top,jI r0_3_12.Bottom])] 14 0) ?_
               refine r_split 417 rfl (fun hb_140=>?_) (fun hb_140=>?_)
               ·have h:=ifT hb_140 h
                refine aX 35 (sT [(452,.d (.bool true))] [(13,.var 33 [jI r0_4_12.Low,jI r0_4_12.High]),(12,.var 43 [jI r0_3_12.Top,jI r0_3_12.Bottom])] 14 0) ?_
                refine RunC.fin2 (sT [(452,.d (.bool true))] [] 14 0) (by kernel_rfl) (by kernel_rfl) ?_
                obtain rfl:=Option.some.inj h
                exact hK_127 _ (Can.kp (by kernel_rfl))
               ·have h:=ifF hb_140 h
                refine aX 4 (sT [(34,jI r1_5_9),(36,jI r1_5_10),(38,jI r1_5_11),(40,jI r1_1_1),(47,jI r0_4_11),pR 48 13,(49,jI r0_4_13),(50,.d (.bool r0_1_6)),(421,.d (.bool (!r0_4_10)))] [(13,.var 33 [jI r0_4_12.Low,jI r0_4_12.High]),(12,.var 43 [jI r0_3_12.Top,jI r0_3_12.Bottom])] 14 0) ?_
                refine r_split 421 rfl (fun hb_141=>?_) (fun hb_141=>?_)
                ·have h:=ifT hb_141 h
                 refine aX 31 (sT [(452,.d (.bool true))] [(13,.var 33 [jI r0_4_12.Low,jI r0_4_12.High]),(12,.var 43 [jI r0_3_12.Top,jI r0_3_12.Bottom])] 14 0) ?_
                 refine RunC.fin2 (sT [(452,.d (.bool true))] [] 14 0) (by kernel_rfl) (by kernel_rfl) ?_
                 obtain rfl:=Option.some.inj h
                 exact hK_127 _ (Can.kp (by kernel_rfl))
                ·have h:=ifF hb_141 h
                 refine aX 4 (sT [(36,jI r1_5_10),(38,jI r1_5_11),(40,jI r1_1_1),(47,jI r0_4_11),pR 48 13,(49,jI r0_4_13),(50,.d (.bool r0_1_6)),(425,.d (.bool (decide (r1_5_9≠0))))] [(13,.var 33 [jI r0_4_12.Low,jI r0_4_12.High]),(12,.var 43 [jI r0_3_12.Top,jI r0_3_12.Bottom])] 14 0) ?_
                 refine r_split 425 rfl (fun hb_142=>?_) (fun hb_142=>?_)
                 ·have h:=ifT hb_142 h
                  refine aX 27 (sT [(452,.d (.bool true))] [(13,.var 33 [jI r0_4_12.Low,jI r0_4_12.High]),(12,.var 43 [jI r0_3_12.Top,jI r0_3_12.Bottom])] 14 0) ?_
                  refine RunC.fin2 (sT [(452,.d (.bool true))] [] 14 0) (by kernel_rfl) (by kernel_rfl) ?_
                  obtain rfl:=Option.some.inj h
                  exact hK_127 _ (Can.kp (by kernel_rfl))
                 ·have h:=ifF hb_142 h
                  refine aX 4 (sT [(36,jI r1_5_10),(38,jI r1_5_11),(40,jI r1_1_1),pR 48 13,(49,jI r0_4_13),(50,.d (.bool r0_1_6)),(429,.d (.bool (decide (r0_4_11≠20))))] [(13,.var 33 [jI r0_4_12.Low,jI r0_4_12.High]),(12,.var 43 [jI r0_3_12.Top,jI r0_3_12.Bottom])] 14 0) ?_
                  refine r_split 429 rfl (fun hb_143=>?_) (fun hb_143=>?_)
                  ·have h:=ifT hb_143 h
                   refine aX 23 (sT [(452,.d (.bool true))] [(13,.var 33 [jI r0_4_12.Low,jI r0_4_12.High]),(12,.var 43 [jI r0_3_12.Top,jI r0_3_12.Bottom])] 14 0) ?_
                   refine RunC.fin2 (sT [(452,.d (.bool true))] [] 14 0) (by kernel_rfl) (by kernel_rfl) ?_
                   obtain rfl:=Option.some.inj h
                   exact hK_127 _ (Can.kp (by kernel_rfl))
                  ·have h:=ifF hb_143 h
                   refine aX 4 (sT [(38,jI r1_5_11),(40,jI r1_1_1),pR 48 13,(49,jI r0_4_13),(50,.d (.bool r0_1_6)),(433,.d (.bool (decide (r1_5_10≠0))))] [(13,.var 33 [jI r0_4_12.Low,jI r0_4_12.High]),(12,.var 43 [jI r0_3_12.Top,jI r0_3_12.Bottom])] 14 0) ?_
                   refine r_split 433 rfl (fun hb_144=>?_) (fun hb_144=>?_)
                   ·have h:=ifT hb_144 h
                    refine aX 19 (sT [(452,.d (.bool true))] [(13,.var 33 [jI r0_4_12.Low,jI r0_4_12.High]),(12,.var 43 [jI r0_3_12.Top,jI r0_3_12.Bottom])] 14 0) ?_
                    refine RunC.fin2 (sT [(452,.d (.bool true))] [] 14 0) (by kernel_rfl) (by kernel_rfl) ?_
                    obtain rfl:=Option.some.inj h
                    exact hK_127 _ (Can.kp (by kernel_rfl))
                   ·have h:=ifF hb_144 h
                    refine aX 1 (sT [(38,jI r1_5_11),(40,jI r1_1_1),(49,jI r0_4_13),(50,.d (.bool r0_1_6)),(433,.d (.bool false)),(434,.agg [jI r0_4_12.Low,jI r0_4_12.High])] [(13,.var 33 [jI r0_4_12.Low,jI r0_4_12.High]),(12,.var 43 [jI r0_3_12.Top,jI r0_3_12.Bottom])] 14 0) ?_
                    obtain ⟨r0_19,hx_145,h⟩:=bsome h
                    refine r_call rfl rfl (k10 (-5) 8 _ hx_145) rfl rfl ?_
                    refine r_aeq rfl rfl rfl rfl rfl ft33 rfl rfl rfl ?_
                    refine aX 2 (sT [(38,jI r1_5_11),(40,jI r1_1_1),(49,jI r0_4_13),(50,.d (.bool r0_1_6)),(438,.d (.bool (true != ((r0_4_12.Low==r0_19.Low)&&((r0_4_12.High==r0_19.High)&&true)))))] [(13,.var 33 [jI r0_4_12.Low,jI r0_4_12.High]),(12,.var 43 [jI r0_3_12.Top,jI r0_3_12.Bottom])] 14 0) ?_
                    refine r_split 438 rfl (fun hb_146=>?_) (fun hb_146=>?_)
                    ·have h:=ifT hb_146 h
                     refine aX 14 (sT [(452,.d (.bool true))] [(13,.var 33 [jI r0_4_12.Low,jI r0_4_12.High]),(12,.var 43 [jI r0_3_12.Top,jI r0_3_12.Bottom])] 14 0) ?_
                     refine RunC.fin2 (sT [(452,.d (.bool true))] [] 14 0) (by kernel_rfl) (by kernel_rfl) ?_
                     obtain rfl:=Option.some.inj h
                     exact hK_127 _ (Can.kp (by kernel_rfl))
                    ·have h:=ifF hb_146 h
                     refine aX 4 (sT [(40,jI r1_1_1),(49,jI r0_4_13),(50,.d (.bool r0_1_6)),(442,.d (.bool (decide (r1_5_11≠0))))] [(13,.var 33 [jI r0_4_12.Low,jI r0_4_12.High]),(12,.var 43 [jI r0_3_12.Top,jI r0_3_12.Bottom])] 14 0) ?_
                     refine r_split 442 rfl (fun hb_147=>?_) (fun hb_147=>?_)
                     ·have h:=ifT hb_147 h
                      refine aX 10 (sT [(452,.d (.bool true))] [(13,.var 33 [jI r0_4_12.Low,jI r0_4_12.High]),(12,.var 43 [jI r0_3_12.Top,jI r0_3_12.Bottom])] 14 0) ?_
                      refine RunC.fin2 (sT [(452,.d (.bool true))] [] 14 0) (by kernel_rfl) (by kernel_rfl) ?_
                      obtain rfl:=Option.some.inj h
                      exact hK_127 _ (Can.kp (by kernel_rfl))
                     ·have h:=ifF hb_147 h
                      refine aX 4 (sT [(40,jI r1_1_1),(50,.d (.bool r0_1_6)),(446,.d (.bool (decide (r0_4_13≠2))))] [(13,.var 33 [jI r0_4_12.Low,jI r0_4_12.High]),(12,.var 43 [jI r0_3_12.Top,jI r0_3_12.Bottom])] 14 0) ?_
                      refine r_split 446 rfl (fun hb_148=>?_) (fun hb_148=>?_)
                      ·have h:=ifT hb_148 h
                       refine aX 6 (sT [(452,.d (.bool true))] [(13,.var 33 [jI r0_4_12.Low,jI r0_4_12.High]),(12,.var 43 [jI r0_3_12.Top,jI r0_3_12.Bottom])] 14 0) ?_
                       refine RunC.fin2 (sT [(452,.d (.bool true))] [] 14 0) (by kernel_rfl) (by kernel_rfl) ?_
                       obtain rfl:=Option.some.inj h
                       exact hK_127 _ (Can.kp (by kernel_rfl))
                      ·have h:=ifF hb_148 h
                       refine aX 4 (sT [(50,.d (.bool r0_1_6)),(450,.d (.bool (decide (r1_1_1≠0))))] [(13,.var 33 [jI r0_4_12.Low,jI r0_4_12.High]),(12,.var 43 [jI r0_3_12.Top,jI r0_3_12.Bottom])] 14 0) ?_
                       refine r_split 450 rfl (fun hb_149=>?_) (fun hb_149=>?_)
                       ·have h:=ifT hb_149 h
                        refine aX 2 (sT [(452,.d (.bool true))] [(13,.var 33 [jI r0_4_12.Low,jI r0_4_12.High]),(12,.var 43 [jI r0_3_12.Top,jI r0_3_12.Bottom])] 14 0) ?_
                        refine RunC.fin2 (sT [(452,.d (.bool true))] [] 14 0) (by kernel_rfl) (by kernel_rfl) ?_
                        obtain rfl:=Option.some.inj h
                        exact hK_127 _ (Can.kp (by kernel_rfl))
                       ·have h:=ifF hb_149 h
                        refine aX 2 (sT [(452,.d (.bool r0_1_6))] [(13,.var 33 [jI r0_4_12.Low,jI r0_4_12.High]),(12,.var 43 [jI r0_3_12.Top,jI r0_3_12.Bottom])] 14 0) ?_
                        refine RunC.fin2 (sT [(452,.d (.bool r0_1_6))] [] 14 0) (by kernel_rfl) (by kernel_rfl) ?_
                        obtain rfl:=Option.some.inj h
                        exact hK_127 _ (Can.kp (by kernel_rfl))
    ·refine AW.cond rfl (fun hb_150=>?_) (fun hb_150=>?_)
     ·have h:=ifT hb_150 h
      refine Sa (sT [(0,.d (.bool false))] [] 14 0) ?_
      obtain rfl:=Option.some.inj h
      obtain rfl:=Aft.bk hk_126
      exact rT hR_0 (.cons (.tmp rfl) .nil)
     ·have h:=ifF hb_150 h
      refine AW.skip ?_
      obtain rfl:=Option.some.inj h
      exact hK_126 _ _ rfl (Can.kp (by kernel_rfl))
   ·subst hj_126
    have h:=Aft.nx hk_126
    refine AW.srwK (fun Q_151 hQ_151=>?_)
    obtain ⟨r0_1_7,hx_152,h⟩:=bsome h
    refine rC (k7 _ hx_152) ?_
    obtain ⟨⟨r0_6_8,r1_6_7⟩,hx_153,h⟩:=bsome h
    refine rC (k12 r0_1_7 30 (-8) _ hx_153) ?_
    refine Au 5 (sT [(22,jI r1_6_7),(51,jI r0_6_8)] [] 14 0) ?_
    refine RW.nil (hQ_151 _ ?_)
    refine AW.srwK (fun Q_154 hQ_154=>?_)
    obtain ⟨r0_1_8,hx_155,h⟩:=bsome h
    refine rC (k7 _ hx_155) ?_
    obtain ⟨⟨r0_4_14,r1_5_12⟩,hx_156,h⟩:=bsome h
    refine rC (k15 r0_1_8 _ hx_156) ?_
    refine Au 5 (sT [(22,jI r1_6_7),(24,jI r1_5_12),(51,jI r0_6_8),(52,jI r0_4_14)] [] 14 0) ?_
    refine RW.nil (hQ_154 _ ?_)
    refine AW.srwK (fun Q_157 hQ_157=>?_)
    obtain ⟨r0_20,hx_158,h⟩:=bsome h
    refine rC (k6 _ hx_158) ?_
    refine Au 2 (sT [(22,jI r1_6_7),(24,jI r1_5_12),(51,jI r0_6_8),(52,jI r0_4_14),pR 53 14] [(14,.var 25 (cv25 r0_20))] 15 0) ?_
    refine RW.nil (hQ_157 _ ?_)
    refine Sa (sT [(22,jI r1_6_7),(24,jI r1_5_12),(51,jI r0_6_8),(52,jI r0_4_14),pR 53 14] [(14,.var 25 [jI r0_20.Kind,jI r0_20.Front,jI 1,jI r0_20.Radius,.d (.sl 4 (List.map e36 r0_20.Parts)),jI 60,jI r0_20.High,jI r0_20.Lean_,jI r0_20.Limit,.d (.sl 3 (List.map e29 r0_20.Trials))])] 15 0) ?_
    refine AW.srwK (fun Q_159 hQ_159=>?_)
    refine Au 1 (sT [(22,jI r1_6_7),(24,jI r1_5_12),(51,jI r0_6_8),(52,jI r0_4_14),(467,.agg [jI r0_20.Kind,jI r0_20.Front,jI 1,jI r0_20.Radius,.d (.sl 4 (List.map e36 r0_20.Parts)),jI 60,jI r0_20.High,jI r0_20.Lean_,jI r0_20.Limit,.d (.sl 3 (List.map e29 r0_20.Trials))])] [] 15 0) ?_
    obtain ⟨⟨r0_4_15,r1_5_13⟩,hx_160,h⟩:=bsome h
    refine rC (k16 (StandBook.mk r0_20.Kind r0_20.Front 1 r0_20.Radius r0_20.Parts 60 r0_20.High r0_20.Lean_ r0_20.Limit r0_20.Trials) 30 _ hx_160) ?_
    refine Au 6 (sT [(22,jI r1_6_7),(24,jI r1_5_12),(26,jI r1_5_13),(51,jI r0_6_8),(52,jI r0_4_14),pR 54 15] [(15,.var 33 [jI r0_4_15.Low,jI r0_4_15.High])] 16 0) ?_
    refine RW.nil (hQ_159 _ ?_)
    refine AW.srwK (fun Q_161 hQ_161=>?_)
    obtain ⟨r0_1_9,hx_162,h⟩:=bsome h
    refine rC (k22 _ hx_162) ?_
    obtain ⟨⟨r0_2_5,r1_2_1⟩,hx_163,h⟩:=bsome h
    refine rC (k19 r0_1_9 _ hx_163) ?_
    refine Au 5 (sT [(22,jI r1_6_7),(24,jI r1_5_12),(26,jI r1_5_13),(28,jI r1_2_1),(51,jI r0_6_8),(52,jI r0_4_14),pR 54 15,(55,.d (.sl 1 (List.map e3 r0_2_5)))] [(15,.var 33 [jI r0_4_15.Low,jI r0_4_15.High])] 16 0) ?_
    refine RW.nil (hQ_161 _ ?_)
    obtain ⟨t,hx_164,h⟩:=bsome h
    refine AW.jnSK (fun (t:Bool)=>(sT [(0,.d (.bool t))] [] 16 0)) (c:=t) (fun K_164 hK_164=>?_) ?_
    ·have h:=hx_164
     refine AW.drw fokW ?_
     refine aX 3 (sT [(24,jI r1_5_12),(26,jI r1_5_13),(28,jI r1_2_1),(51,jI r0_6_8),(52,jI r0_4_14),pR 54 15,(55,.d (.sl 1 (List.map e3 r0_2_5))),(478,.d (.bool (decide (r1_6_7=0))))] [(15,.var 33 [jI r0_4_15.Low,jI r0_4_15.High])] 16 0) ?_
     refine r_split 478 rfl (fun hb_166=>?_) (fun hb_166=>?_)
     ·have h:=ifT hb_166 h
      refine aX 4 (sT [(24,jI r1_5_12),(26,jI r1_5_13),(28,jI r1_2_1),(52,jI r0_4_14),pR 54 15,(55,.d (.sl 1 (List.map e3 r0_2_5))),(482,.d (.bool (decide (r0_6_8=1))))] [(15,.var 33 [jI r0_4_15.Low,jI r0_4_15.High])] 16 0) ?_
      refine r_split 482 rfl (fun hb_167=>?_) (fun hb_167=>?_)
      ·have h:=ifT hb_167 h
       refine aX 4 (sT [(26,jI r1_5_13),(28,jI r1_2_1),(52,jI r0_4_14),pR 54 15,(55,.d (.sl 1 (List.map e3 r0_2_5))),(486,.d (.bool (decide (r1_5_12=0))))] [(15,.var 33 [jI r0_4_15.Low,jI r0_4_15.High])] 16 0) ?_
       refine r_split 486 rfl (fun hb_168=>?_) (fun hb_168=>?_)
       ·have h:=ifT hb_168 h
        refine aX 4 (sT [(26,jI r1_5_13),(28,jI r1_2_1),pR 54 15,(55,.d (.sl 1 (List.map e3 r0_2_5))),(490,.d (.bool (decide (r0_4_14=28))))] [(15,.var 33 [jI r0_4_15.Low,jI r0_4_15.High])] 16 0) ?_
        refine r_split 490 rfl (fun hb_169=>?_) (fun hb_169=>?_)
        ·have h:=ifT hb_169 h
         refine aX 4 (sT [(28,jI r1_2_1),pR 54 15,(55,.d (.sl 1 (List.map e3 r0_2_5))),(494,.d (.bool (decide (r1_5_13=4))))] [(15,.var 33 [jI r0_4_15.Low,jI r0_4_15.High])] 16 0) ?_
         refine r_split 494 rfl (fun hb_170=>?_) (fun hb_170=>?_)
         ·have h:=ifT hb_170 h
          refine aX 1 (sT [(28,jI r1_2_1),(55,.d (.sl 1 (List.map e3 r0_2_5))),(494,.d (.bool true)),(495,.agg [jI r0_4_15.Low,jI r0_4_15.High])] [(15,.var 33 [jI r0_4_15.Low,jI r0_4_15.High])] 16 0) ?_
          obtain ⟨r0_21,hx_171,h⟩:=bsome h
          refine r_call rfl rfl (k24 0 _ hx_171) rfl rfl ?_
          refine r_aeq rfl rfl rfl rfl rfl ft33 rfl rfl rfl ?_
          refine aX 2 (sT [(28,jI r1_2_1),(55,.d (.sl 1 (List.map e3 r0_2_5))),(499,.d (.bool (false != ((r0_4_15.Low==r0_21.Low)&&((r0_4_15.High==r0_21.High)&&true)))))] [(15,.var 33 [jI r0_4_15.Low,jI r0_4_15.High])] 16 0) ?_
          refine r_split 499 rfl (fun hb_172=>?_) (fun hb_172=>?_)
          ·have h:=ifT hb_172 h
           refine aX 4 (sT [(55,.d (.sl 1 (List.map e3 r0_2_5))),(503,.d (.bool (decide (r1_2_1=0))))] [(15,.var 33 [jI r0_4_15.Low,jI r0_4_15.High])] 16 0) ?_
           refine r_split 503 rfl (fun hb_173=>?_) (fun hb_173=>?_)
           ·have h:=ifT hb_173 h
            refine aX 1 (sT [(503,.d (.bool true)),(504,.d (.sl 1 (List.map e3 r0_2_5)))] [(15,.var 33 [jI r0_4_15.Low,jI r0_4_15.High])] 16 0) ?_
            refine r_lenX rfl rfl lenm ?_
            refine aX 3 (sT [(508,.d (.bool (decide ((r0_2_5.length:Int)=0))))] [(15,.var 33 [jI r0_4_15.Low,jI r0_4_15.High])] 16 0) ?_
            refine r_pickB trivial rfl rfl rfl ?_
            refine aX 1 (sT [(510,.d (.bool (decide ((r0_2_5.length:Int)=0))))] [(15,.var 33 [jI r0_4_15.Low,jI r0_4_15.High])] 16 0) ?_
            refine r_split 510 rfl (fun hb_174=>?_) (fun hb_174=>?_)
            ·have h:=ifT hb_174 h
             obtain ⟨t2,hx_175,h⟩:=bsome h
             refine r_call rfl rfl (k25 _ hx_175) rfl rfl ?_
             refine aX 2 (sT [(0,.d (.bool t2))] [(15,.var 33 [jI r0_4_15.Low,jI r0_4_15.High])] 16 0) ?_
             refine Fi (sT [(0,.d (.bool t2))] [] 16 0) ?_
             obtain rfl:=Option.some.inj h
             exact hK_164 _ (Can.kp (by kernel_rfl))
            ·have h:=ifF hb_174 h
             refine aX 3 (sT [(0,.d (.bool false))] [(15,.var 33 [jI r0_4_15.Low,jI r0_4_15.High])] 16 0) ?_
             refine Fi (sT [(0,.d (.bool false))] [] 16 0) ?_
             obtain rfl:=Option.some.inj h
             exact hK_164 _ (Can.kp (by kernel_rfl))
           ·have h:=ifF hb_173 h
            refine aX 10 (sT [(0,.d (.bool false))] [(15,.var 33 [jI r0_4_15.Low,jI r0_4_15.High])] 16 0) ?_
            refine Fi (sT [(0,.d (.bool false))] [] 16 0) ?_
            obtain rfl:=Option.some.inj h
            exact hK_164 _ (Can.kp (by kernel_rfl))
          ·have h:=ifF hb_172 h
           refine aX 14 (sT [(0,.d (.bool false))] [(15,.var 33 [jI r0_4_15.Low,jI r0_4_15.High])] 16 0) ?_
           refine Fi (sT [(0,.d (.bool false))] [] 16 0) ?_
           obtain rfl:=Option.some.inj h
           exact hK_164 _ (Can.kp (by kernel_rfl))
         ·have h:=ifF hb_170 h
          refine aX 19 (sT [(0,.d (.bool false))] [(15,.var 33 [jI r0_4_15.Low,jI r0_4_15.High])] 16 0) ?_
          refine Fi (sT [(0,.d (.bool false))] [] 16 0) ?_
          obtain rfl:=Option.some.inj h
          exact hK_164 _ (Can.kp (by kernel_rfl))
        ·have h:=ifF hb_169 h
         refine aX 23 (sT [(0,.d (.bool false))] [(15,.var 33 [jI r0_4_15.Low,jI r0_4_15.High])] 16 0) ?_
         refine Fi (sT [(0,.d (.bool false))] [] 16 0) ?_
         obtain rfl:=Option.some.inj h
         exact hK_164 _ (Can.kp (by kernel_rfl))
       ·have h:=ifF hb_168 h
        refine aX 27 (sT [(0,.d (.bool false))] [(15,.var 33 [jI r0_4_15.Low,jI r0_4_15.High])] 16 0) ?_
        refine Fi (sT [(0,.d (.bool false))] [] 16 0) ?_
        obtain rfl:=Option.some.inj h
        exact hK_164 _ (Can.kp (by kernel_rfl))
      ·have h:=ifF hb_167 h
       refine aX 31 (sT [(0,.d (.bool false))] [(15,.var 33 [jI r0_4_15.Low,jI r0_4_15.High])] 16 0) ?_
       refine Fi (sT [(0,.d (.bool false))] [] 16 0) ?_
       obtain rfl:=Option.some.inj h
       exact hK_164 _ (Can.kp (by kernel_rfl))
     ·have h:=ifF hb_166 h
      refine aX 35 (sT [(0,.d (.bool false))] [(15,.var 33 [jI r0_4_15.Low,jI r0_4_15.High])] 16 0) ?_
      refine Fi (sT [(0,.d (.bool false))] [] 16 0) ?_
      obtain rfl:=Option.some.inj h
      exact hK_164 _ (Can.kp (by kernel_rfl))
    ·obtain rfl:=Option.some.inj h
     exact rT hR_0 (.cons (.tmp rfl) .nil)
end Go.Proofs.Tk
